/- THE PLAIN FUNCTIONS of the packet layer: output, input. No Go in sight. -/
import Derived.Test.Qxb6500351aGreatMd9
import Derived.Test.Qxb6500351aGreatEngR
set_option linter.unusedVariables false
set_option linter.unusedSimpArgs false
namespace Go.Proofs.Qxb6500351aGreat
open Go.Eng
def Ipt.out (p : Ipt) (dst proto : Int) (l : List Int) : List (List Int) :=
  if l.length ≤ 16 then [ipPkt proto p.addr dst p.nxt_ 0 l] else [ipPkt proto p.addr dst p.nxt_ 128 (l.take 16), ipPkt proto p.addr dst p.nxt_ 16 (l.drop 16)]
def Ipt.sent (p : Ipt) : Ipt := { p with nxt_ := if p.nxt_ + 1 = 256 then 0 else p.nxt_ + 1, credit := p.credit - 1 }
theorem Ipt.ok_sent {p : Ipt} (ok : p.Ok) (h : 0 < p.credit) : p.sent.Ok := by
  have h1 := ok.nxt
  have h2 := ok.credit
  refine ⟨ok.addr, ?_, ⟨by simp only [Ipt.sent]; omega, by simp only [Ipt.sent]; omega⟩, ok.slot⟩
  simp only [Ipt.sent]; split <;> omega
theorem quo_one {n : Nat} (h : 1 ≤ n ∧ n ≤ 16) : IntKind.i64.wrap (((n : Int) + 16 - 1).tdiv 16) = 1 := by
  rw [Int.tdiv_eq_ediv_of_nonneg (by omega)]
  have : ((n : Int) + 16 - 1) / 16 = 1 := by omega
  rw [this]; decide
theorem quo_two {n : Nat} (h : 17 ≤ n ∧ n ≤ 32) : IntKind.i64.wrap (((n : Int) + 16 - 1).tdiv 16) = 2 := by
  rw [Int.tdiv_eq_ediv_of_nonneg (by omega)]
  have : ((n : Int) + 16 - 1) / 16 = 2 := by omega
  rw [this]; decide
theorem lst_one {b b1 : Nat} {l : List Int} (h : Bytes l) (hl : l.length ≤ 1000) : Lst 81 1 rowR (.slice (some ⟨b, 0, none⟩) 1 1) [l] [(b, .cells #[byV b1 l] 81 (0, 0))] (byG b1 l 5) := Lst.one rfl (rowR.mk h hl)
theorem lst_two {b b1 b2 : Nat} {l m : List Int} (h : Bytes l) (hl : l.length ≤ 1000) (h' : Bytes m) (hl' : m.length ≤ 1000) :
    Lst 81 1 rowR (.slice (some ⟨b, 0, none⟩) 2 2) [l, m] [(b, .cells #[byV b1 l, byV b2 m] 81 (0, 0))] (byG b1 l 5 ++ byG b2 m 5) :=
  ⟨(fun z => nomatch z), [byV b1 l, byV b2 m], ⟨rfl, .inr ⟨b, 2, _, rfl, rfl, by simp, by rw [maxLen_eq]; decide, rfl, rfl⟩⟩, ⟨[byV b1 l], [byV b2 m], byG b1 l 5, byG b2 m 5, rfl, rfl, rowR.mk h hl, ⟨[byV b2 m], [], byG b2 m 5, [], rfl, rfl, rowR.mk h' hl', ⟨rfl, rfl⟩, rfl⟩, rfl⟩⟩
theorem ipPkt_b {proto src dst id om : Int} {l : List Int} (h1 : 0 ≤ proto ∧ proto ≤ 255) (h2 : 0 ≤ src ∧ src ≤ 255) (h3 : 0 ≤ dst ∧ dst ≤ 255) (h4 : 0 ≤ id ∧ id ≤ 255) (h5 : 0 ≤ om ∧ om ≤ 255) (h6 : l.length ≤ 255) (hl : Bytes l) : Bytes (ipPkt proto src dst id om l) := by
  refine Bytes.append (Bytes.append ?_ ?_) hl
  · intro x hx
    simp only [ipHd, List.mem_cons, List.not_mem_nil, or_false] at hx
    rcases hx with rfl | rfl | rfl | rfl | rfl | rfl | rfl <;> omega
  · intro x hx
    simp only [List.mem_cons, List.not_mem_nil, or_false] at hx
    subst hx; omega
def Ipt.slotNew (p : Ipt) (i : Nat) (key : Int) : Ipt := { p with tab := upA p.tab i { used := true, key := key, left := 4, total := -1, held := 0, buf := (p.tab i).buf } }
def Ipt.drop (p : Ipt) (i : Nat) : Ipt := { p with tab := upA p.tab i { (p.tab i) with used := false } }
def Ipt.setTotal (p : Ipt) (i : Nat) (en : Int) : Ipt := { p with tab := upA p.tab i { (p.tab i) with total := en } }
def Ipt.look (p : Ipt) (key : Int) : Option (Nat × Ipt) :=
  if p.find key < 0 then (if p.vacant < 0 then none else some (p.vacant.toNat, p.slotNew p.vacant.toNat key)) else some ((p.find key).toNat, p)
def Ipt.row (p : Ipt) (i : Nat) : List Int := (List.range (p.tab i).total.toNat).map (p.tab i).buf
def Ipt.put (p : Ipt) (i off : Nat) (en : Int) (more : Bool) (pay : List Int) : Int × Ipt × List Int :=
  if p.clash i en more = true then (9, p.drop i, [])
  else if ((if more = true then p else p.setTotal i en).lay i off pay).whole i = true then
    (0, ((if more = true then p else p.setTotal i en).lay i off pay).drop i, ((if more = true then p else p.setTotal i en).lay i off pay).row i)
  else (10, (if more = true then p else p.setTotal i en).lay i off pay, [])
def Ipt.inp (p : Ipt) (l : List Int) : Int × Ipt × List Int :=
  if l.length < 8 then (1, p, []) else if ¬ l.getD 6 0 = (l.length : Int) - 8 then (3, p, []) else if ¬ ipSum l = l.getD 7 0 then (4, p, [])
  else if l.getD 1 0 = 0 then (8, p, []) else if ¬ l.getD 3 0 = p.addr then (7, p, [])
  else if 40 < l.getD 5 0 % 128 + l.getD 6 0 then (2, p, []) else if l.getD 6 0 = 0 ∧ 0 < l.getD 5 0 then (9, p, [])
  else if l.getD 5 0 = 0 then (0, p, l.drop 8)
  else match p.look (keyOf (l.getD 2 0) (l.getD 0 0) (l.getD 4 0)) with
    | none => (11, p, [])
    | some (i, p1) => p1.put i (l.getD 5 0 % 128).toNat (l.getD 5 0 % 128 + l.getD 6 0) (decide (¬ 128 * (l.getD 5 0 / 128) = 0)) (l.drop 8)
theorem and127 {x : Int} (h : 0 ≤ x ∧ x < 256) : bAnd .u8 x 127 = x % 128 := by
  rw [bAnd_nat (f8 h) (f8 (by omega))]
  have : x.toNat &&& (127 : Int).toNat = x.toNat % 2 ^ 7 := Nat.and_two_pow_sub_one_eq_mod _ 7
  rw [this]; omega
set_option maxRecDepth 10000 in
theorem and128n : ∀ n : Fin 256, n.val &&& 128 = 128 * (n.val / 128) := by decide
theorem and128 {x : Int} (h : 0 ≤ x ∧ x < 256) : bAnd .u8 x 128 = 128 * (x / 128) := by
  rw [bAnd_nat (f8 h) (f8 (by omega))]
  have := and128n ⟨x.toNat, by omega⟩
  have e : (128 : Int).toNat = 128 := rfl
  rw [e]; dsimp only at this; rw [this]; omega
theorem Ipt.ok_upA {p : Ipt} (ok : p.Ok) (i : Nat) {s : Slt} (h : s.Ok) : Ipt.Ok { p with tab := upA p.tab i s } :=
  ⟨ok.addr, ok.nxt, ok.credit, fun j => by
    unfold upA; dsimp only; split
    · exact h
    · exact ok.slot j⟩
theorem Ipt.ok_slotNew {p : Ipt} (ok : p.Ok) (i : Nat) (key : Int) : (p.slotNew i key).Ok := Ipt.ok_upA ok i ⟨by dsimp only; omega, by dsimp only; omega, by dsimp only; omega, (ok.slot i).buf⟩
theorem Ipt.ok_drop {p : Ipt} (ok : p.Ok) (i : Nat) : (p.drop i).Ok := Ipt.ok_upA ok i ⟨(ok.slot i).left, (ok.slot i).total, (ok.slot i).held, (ok.slot i).buf⟩
theorem Ipt.ok_setTotal {p : Ipt} (ok : p.Ok) (i : Nat) {en : Int} (h : -1 ≤ en ∧ en ≤ 40) : (p.setTotal i en).Ok := Ipt.ok_upA ok i ⟨(ok.slot i).left, h, (ok.slot i).held, (ok.slot i).buf⟩
theorem Ipt.ok_lay {p : Ipt} (ok : p.Ok) (i off : Nat) {l : List Int} (h : off + l.length ≤ 40) (hb : Bytes l) : (p.lay i off l).Ok := by
  refine Ipt.ok_upA ok i ⟨(ok.slot i).left, (ok.slot i).total, ?_, ?_⟩
  · have h1 := (ok.slot i).held
    have h2 := mask_lt h
    have h3 : (p.tab i).held.toNat ||| ((2 ^ l.length - 1) * 2 ^ off) < 2 ^ 40 := Nat.or_lt_two_pow (by omega) (by omega)
    dsimp only; omega
  · intro j
    dsimp only; unfold layA; split
    · exact hb.getD _
    · exact (ok.slot i).buf j
theorem Ipt.find_b (p : Ipt) (key : Int) : -1 ≤ p.find key ∧ p.find key < 3 := by unfold Ipt.find; (repeat' split) <;> omega
theorem Ipt.vac_b (p : Ipt) : -1 ≤ p.vacant ∧ p.vacant < 3 := by unfold Ipt.vacant; (repeat' split) <;> omega
theorem Ipt.look_some {p : Ipt} (ok : p.Ok) {key : Int} {i : Nat} {p1 : Ipt} (h : p.look key = some (i, p1)) : i < 3 ∧ p1.Ok := by
  have h1 := p.find_b key
  have h2 := p.vac_b
  unfold Ipt.look at h
  split at h
  · split at h
    · cases h
    · cases h; exact ⟨by omega, Ipt.ok_slotNew ok _ _⟩
  · cases h; exact ⟨by omega, ok⟩
theorem Ipt.ok_put {p : Ipt} (ok : p.Ok) (i off : Nat) {en : Int} {more : Bool} {l : List Int} (he : -1 ≤ en ∧ en ≤ 40) (h : off + l.length ≤ 40) (hb : Bytes l) : (p.put i off en more l).2.1.Ok := by
  have h1 : (if more = true then p else p.setTotal i en).Ok := by
    split
    · exact ok
    · exact Ipt.ok_setTotal ok i he
  have h2 := Ipt.ok_lay h1 i off h hb
  unfold Ipt.put
  generalize hq : Ipt.lay (if more = true then p else p.setTotal i en) i off l = q at *
  split
  · exact Ipt.ok_drop ok i
  · split
    · exact Ipt.ok_drop h2 i
    · exact h2
theorem Ipt.ok_inp {p : Ipt} (ok : p.Ok) {l : List Int} (hb : Bytes l) : (p.inp l).2.1.Ok := by
  unfold Ipt.inp
  have h5 := hb.getD 5
  have h6 := hb.getD 6
  repeat' split
  all_goals first
    | exact ok
    | (rename_i e; obtain ⟨q1, q2⟩ := Ipt.look_some ok e; refine Ipt.ok_put q2 _ _ (by omega) ?_ (hb.drop 8); simp only [List.length_drop]; omega)
theorem Ipt.inp_none {p : Ipt} {l : List Int} (h1 : ¬ l.length < 8) (h2 : l.getD 6 0 = (l.length : Int) - 8) (h3 : ipSum l = l.getD 7 0) (h4 : ¬ l.getD 1 0 = 0) (h5 : l.getD 3 0 = p.addr) (h6 : ¬ 40 < l.getD 5 0 % 128 + l.getD 6 0) (h7 : ¬ (l.getD 6 0 = 0 ∧ 0 < l.getD 5 0)) (h8 : ¬ l.getD 5 0 = 0)
    (hf : p.find (keyOf (l.getD 2 0) (l.getD 0 0) (l.getD 4 0)) < 0) (hv : p.vacant < 0) : p.inp l = (11, p, []) := by
  unfold Ipt.inp Ipt.look
  rw [if_neg h1, if_neg (not_not_intro h2), if_neg (not_not_intro h3), if_neg h4, if_neg (not_not_intro h5), if_neg h6, if_neg h7, if_neg h8, if_pos hf, if_pos hv]
theorem Ipt.inp_some {p p1 : Ipt} {l : List Int} {i : Nat} (h1 : ¬ l.length < 8) (h2 : l.getD 6 0 = (l.length : Int) - 8) (h3 : ipSum l = l.getD 7 0) (h4 : ¬ l.getD 1 0 = 0) (h5 : l.getD 3 0 = p.addr) (h6 : ¬ 40 < l.getD 5 0 % 128 + l.getD 6 0) (h7 : ¬ (l.getD 6 0 = 0 ∧ 0 < l.getD 5 0)) (h8 : ¬ l.getD 5 0 = 0)
    (hl : p.look (keyOf (l.getD 2 0) (l.getD 0 0) (l.getD 4 0)) = some (i, p1)) : p.inp l = p1.put i (l.getD 5 0 % 128).toNat (l.getD 5 0 % 128 + l.getD 6 0) (decide (¬ 128 * (l.getD 5 0 / 128) = 0)) (l.drop 8) := by
  unfold Ipt.inp
  rw [if_neg h1, if_neg (not_not_intro h2), if_neg (not_not_intro h3), if_neg h4, if_neg (not_not_intro h5), if_neg h6, if_neg h7, if_neg h8, hl]
theorem Ipt.put_bad {p : Ipt} {i off : Nat} {en : Int} {more : Bool} {l : List Int} (h : p.clash i en more = true) : p.put i off en more l = (9, p.drop i, []) := by
  unfold Ipt.put; rw [if_pos h]
theorem Ipt.put_more {p q : Ipt} {i off : Nat} {en : Int} {more : Bool} {l : List Int} (h : p.clash i en more = false) (hq : (if more = true then p else p.setTotal i en) = q) (hw : (q.lay i off l).whole i = false) : p.put i off en more l = (10, q.lay i off l, []) := by
  unfold Ipt.put; rw [hq, if_neg (by rw [h]; decide), if_neg (by rw [hw]; decide)]
theorem Ipt.put_done {p q : Ipt} {i off : Nat} {en : Int} {more : Bool} {l : List Int} (h : p.clash i en more = false) (hq : (if more = true then p else p.setTotal i en) = q) (hw : (q.lay i off l).whole i = true) : p.put i off en more l = (0, (q.lay i off l).drop i, (q.lay i off l).row i) := by
  unfold Ipt.put; rw [hq, if_neg (by rw [h]; decide), if_pos hw]
theorem Ipt.whole_total {p : Ipt} {i : Nat} (h : p.whole i = true) : 0 ≤ (p.tab i).total := by
  unfold Ipt.whole at h; split at h
  · cases h
  · omega
end Go.Proofs.Qxb6500351aGreat
