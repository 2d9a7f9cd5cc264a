/- THE PLAIN LAW of the packet layer: what comes out of the reassembly was sent, and lately. No Go in sight. -/
import Derived.Test.Qxb6500351aGreatPl11
set_option linter.unusedVariables false
set_option linter.unusedSimpArgs false
namespace Go.Proofs.Qxb6500351aGreat
open Go.Eng
/-- a datagram that a host put out: when, from, to, its number, its bytes -/
structure Dgr where
  t : Int
  src : Int
  dst : Int
  m : Int
  pay : List Int
structure Dgr.Ok (d : Dgr) : Prop where
  src : 0 ≤ d.src ∧ d.src ≤ 255
  dst : 0 ≤ d.dst ∧ d.dst ≤ 255
  m : 0 ≤ d.m
  len : 1 ≤ d.pay.length ∧ d.pay.length ≤ 32
  b : Bytes d.pay
def Dgr.pkts (d : Dgr) : List (List Int) :=
  if d.pay.length ≤ 16 then [ipPkt 6 d.src d.dst (d.m % 256) 0 d.pay] else [ipPkt 6 d.src d.dst (d.m % 256) 128 (d.pay.take 16), ipPkt 6 d.src d.dst (d.m % 256) 16 (d.pay.drop 16)]
def Dgr.frames (d : Dgr) : List (List Int) := d.pkts.map (frameEnc d.dst d.src 1)
/-- all datagrams so far; T: the clock, M: the next number, C: the credit, of each address -/
structure Hist (D : List Dgr) (T M C : Int → Int) : Prop where
  ok : ∀ d, d ∈ D → d.Ok ∧ d.t ≤ T d.src
  uniq : ∀ d e, d ∈ D → e ∈ D → d.src = e.src → d.m = e.m → d = e
  pace : ∀ d e, d ∈ D → e ∈ D → d.src = e.src → d.m < e.m → e.m + 1 ≤ d.m + 24 * (e.t - d.t + 1)
  cur : ∀ d, d ∈ D → d.m < M d.src ∧ M d.src + C d.src ≤ d.m + 24 * (T d.src - d.t + 1)
  c : ∀ s, 0 ≤ C s ∧ C s ≤ 24
  m : ∀ s, 0 ≤ M s
theorem Hist.same_id {D : List Dgr} {T M C : Int → Int} (h : Hist D T M C) {d e : Dgr} (hd : d ∈ D) (he : e ∈ D) (hs : d.src = e.src) (hm : d.m % 256 = e.m % 256) (h1 : d.t ≤ e.t + 9) (h2 : e.t ≤ d.t + 9) : d = e := by
  refine h.uniq d e hd he hs ?_
  rcases Int.lt_trichotomy d.m e.m with k | k | k
  · have := h.pace d e hd he hs k; omega
  · exact k
  · have := h.pace e d he hd hs.symm k; omega
/-- one address ticks -/
theorem Hist.tick {D : List Dgr} {T M C T' C' : Int → Int} (h : Hist D T M C) (a : Int) (hT : ∀ s, T' s = if s = a then T s + 1 else T s) (hc : ∀ s, C' s = if s = a then 24 else C s) : Hist D T' M C' := by
  refine ⟨fun d hd => ⟨(h.ok d hd).1, ?_⟩, h.uniq, h.pace, fun d hd => ?_, fun s => ?_, h.m⟩
  · have := (h.ok d hd).2
    rw [hT]; split <;> omega
  · obtain ⟨a, b⟩ := h.cur d hd
    have := (h.c d.src).1
    rw [hT, hc]; split <;> exact ⟨by omega, by omega⟩
  · have := h.c s
    rw [hc]; split <;> omega
/-- one more datagram -/
theorem Hist.add {D : List Dgr} {T M C M' C' : Int → Int} (h : Hist D T M C) {d : Dgr} (ok : d.Ok) (ht : d.t = T d.src) (hm : d.m = M d.src) (hc : 0 < C d.src) (hM : ∀ s, M' s = if s = d.src then M s + 1 else M s) (hC : ∀ s, C' s = if s = d.src then C s - 1 else C s) : Hist (D ++ [d]) T M' C' := by
  have cs : ∀ e, e ∈ D ++ [d] → e ∈ D ∨ e = d := fun e he => by simpa using he
  refine ⟨fun e he => ?_, fun e f he hf hs hmm => ?_, fun e f he hf hs hlt => ?_, fun e he => ?_, fun s => ?_, fun s => ?_⟩
  · rcases cs e he with k | rfl
    · exact h.ok e k
    · exact ⟨ok, by omega⟩
  · rcases cs e he with k | rfl <;> rcases cs f hf with k2 | rfl
    · exact h.uniq e f k k2 hs hmm
    · have := (h.cur e k).1; rw [hs] at this; omega
    · have := (h.cur f k2).1; rw [← hs] at this; omega
    · rfl
  · rcases cs e he with k | rfl <;> rcases cs f hf with k2 | rfl
    · exact h.pace e f k k2 hs hlt
    · have := (h.cur e k).2; rw [hs] at this; omega
    · have := (h.cur f k2).1; rw [← hs] at this; omega
    · omega
  · rw [hM, hC]
    rcases cs e he with k | rfl
    · obtain ⟨a, b⟩ := h.cur e k
      split <;> exact ⟨by omega, by omega⟩
    · rw [if_pos rfl, if_pos rfl]
      have := (h.c e.src).2
      exact ⟨by omega, by omega⟩
  · rw [hC]; have := h.c s
    split
    · rename_i hs; subst hs; omega
    · exact this
  · rw [hM]; have := h.m s
    split <;> omega
/-! ### the reassembly's slots -/
structure SlotOk (s : Slt) (d : Dgr) (addr now : Int) : Prop where
  dst : d.dst = addr
  key : s.key = keyOf d.src 6 (d.m % 256)
  left : now + s.left ≤ d.t + 8
  lf : 1 ≤ s.left
  total : s.total = -1 ∨ s.total = (d.pay.length : Int)
  held : ∀ j, s.held.toNat.testBit j = true → j < d.pay.length ∧ s.buf j = d.pay.getD j 0
def RA (p : Ipt) (D : List Dgr) (now : Int) : Prop := ∀ i, i < 3 → (p.tab i).used = true → ∃ d, d ∈ D ∧ SlotOk (p.tab i) d p.addr now
theorem key_inj {s m s' m' : Int} (h1 : 0 ≤ s ∧ s ≤ 255) (h2 : 0 ≤ s' ∧ s' ≤ 255) (h : keyOf s 6 (m % 256) = keyOf s' 6 (m' % 256)) : s = s' ∧ m % 256 = m' % 256 := by
  unfold keyOf at h; omega
theorem mask_bit (n off j : Nat) : ((2 ^ n - 1) * 2 ^ off).testBit j = (decide (off ≤ j) && decide (j < off + n)) := by
  rw [← Nat.shiftLeft_eq, Nat.testBit_shiftLeft, Nat.testBit_two_pow_sub_one]
  by_cases h : off ≤ j
  · have : (j - off < n) ↔ (j < off + n) := by omega
    simp [h, this]
  · simp [h]
theorem Ipt.find_at {p : Ipt} {key : Int} (h : ¬ p.find key < 0) : (p.find key).toNat < 3 ∧ (p.tab (p.find key).toNat).used = true ∧ (p.tab (p.find key).toNat).key = key := by
  unfold Ipt.find at h ⊢
  split
  · rename_i h0; exact ⟨by decide, h0⟩
  · split
    · rename_i h1; exact ⟨by decide, h1⟩
    · split
      · rename_i h2; exact ⟨by decide, h2⟩
      · rename_i h0 h1 h2
        rw [if_neg h0, if_neg h1, if_neg h2] at h
        exact absurd (by decide) h
/-- the slot that a fragment finds or is given -/
theorem RA.look {p : Ipt} (ok : p.Ok) {D : List Dgr} {now : Int} {T M C : Int → Int} (H : Hist D T M C) (hT : ∀ s, T s ≤ now) (ra : RA p D now) {d : Dgr} (hd : d ∈ D) (hr : now - d.t ≤ 4) (ha : d.dst = p.addr) {i : Nat} {p1 : Ipt} (h : p.look (keyOf d.src 6 (d.m % 256)) = some (i, p1)) :
    i < 3 ∧ p1.addr = p.addr ∧ SlotOk (p1.tab i) d p.addr now ∧ ∀ j, j ≠ i → p1.tab j = p.tab j := by
  have hi := (Ipt.look_some ok h).1
  unfold Ipt.look at h
  split at h
  · split at h
    · cases h
    · rename_i h1 h2
      simp only [Option.some.injEq, Prod.mk.injEq] at h
      obtain ⟨h3, h4⟩ := h
      subst h4; subst h3
      refine ⟨hi, rfl, ?_, fun j hj => upA_ne _ _ hj⟩
      unfold Ipt.slotNew
      dsimp only
      rw [upA_at]
      exact ⟨ha, rfl, by dsimp only; omega, (by decide : (1 : Int) ≤ 4), .inl rfl, fun j hj => by simp at hj⟩
  · rename_i h1
    simp only [Option.some.injEq, Prod.mk.injEq] at h
    obtain ⟨h3, h4⟩ := h
    subst h4; subst h3
    obtain ⟨k1, k2, k3⟩ := Ipt.find_at h1
    obtain ⟨e, e1, e2⟩ := ra _ k1 k2
    have hl := (ok.slot (p.find (keyOf d.src 6 (d.m % 256))).toNat).left
    have hek := e2.key
    rw [k3] at hek
    obtain ⟨q1, q2⟩ := key_inj (H.ok d hd).1.src (H.ok e e1).1.src hek
    have hel := e2.left
    have := (H.ok d hd).2
    have := (H.ok e e1).2
    have := hT d.src
    have := hT e.src
    have hde : d = e := H.same_id hd e1 q1 q2 (by omega) (by omega)
    subst hde
    exact ⟨k1, rfl, e2, fun j _ => rfl⟩
theorem RA.drop {p p1 : Ipt} {D : List Dgr} {now : Int} (ra : RA p D now) {i : Nat} (ha : p1.addr = p.addr) (h : ∀ j, j ≠ i → p1.tab j = p.tab j) (hi : (p1.tab i).used = false ∨ ∃ d, d ∈ D ∧ SlotOk (p1.tab i) d p.addr now) : RA p1 D now := by
  intro j hj hu
  rw [ha]
  by_cases hji : j = i
  · subst hji
    rcases hi with hi | hi
    · rw [hi] at hu; cases hu
    · exact hi
  · rw [h j hji] at hu ⊢; exact ra j hj hu
/-- a fragment is laid into its slot -/
theorem SlotOk.lay {s : Slt} {d : Dgr} {addr now : Int} (h : SlotOk s d addr now) {off : Nat} {l : List Int} (tot : Int) (ht : tot = s.total ∨ tot = (d.pay.length : Int)) (hl : ∀ j, off ≤ j → j < off + l.length → j < d.pay.length ∧ l.getD (j - off) 0 = d.pay.getD j 0) :
    SlotOk { s with total := tot, buf := layA s.buf off l, held := ((s.held.toNat ||| ((2 ^ l.length - 1) * 2 ^ off) : Nat) : Int) } d addr now := by
  refine ⟨h.dst, h.key, h.left, h.lf, ?_, fun j hj => ?_⟩
  · dsimp only
    rcases ht with k | k
    · rw [k]; exact h.total
    · exact .inr k
  · dsimp only at hj ⊢
    rw [Int.toNat_natCast, Nat.testBit_or, mask_bit, Bool.or_eq_true, Bool.and_eq_true, decide_eq_true_eq, decide_eq_true_eq] at hj
    unfold layA
    by_cases hc : off ≤ j ∧ j < off + l.length
    · rw [if_pos hc]; exact hl j hc.1 hc.2
    · rw [if_neg hc]; exact h.held j (hj.resolve_right hc)
theorem SlotOk.row {p : Ipt} {i : Nat} {d : Dgr} {addr now : Int} (h : SlotOk (p.tab i) d addr now) (hw : p.whole i = true) : p.row i = d.pay := by
  have h0 := Ipt.whole_total hw
  have ht : (p.tab i).total = (d.pay.length : Int) := h.total.resolve_left (by omega)
  unfold Ipt.whole at hw
  rw [if_neg (by omega), decide_eq_true_eq, ht, Int.toNat_natCast] at hw
  unfold Ipt.row
  rw [ht, Int.toNat_natCast]
  apply List.ext_getElem
  · simp
  · intro j h1 h2
    rw [List.getElem_map, List.getElem_range]
    have hb : ((p.tab i).held.toNat &&& (2 ^ d.pay.length - 1)).testBit j = true := by rw [hw, Nat.testBit_two_pow_sub_one]; simpa using h2
    rw [Nat.testBit_and, Bool.and_eq_true] at hb
    rw [(h.held j hb.1).2, List.getD_eq_getElem?_getD, List.getElem?_eq_getElem h2]; rfl
theorem RA.put {p p1 : Ipt} {D : List Dgr} {now : Int} (ra : RA p D now) {d : Dgr} (hd : d ∈ D) {i : Nat} (ha : p1.addr = p.addr) (hs : SlotOk (p1.tab i) d p.addr now) (hj : ∀ j, j ≠ i → p1.tab j = p.tab j) {off : Nat} {en : Int} {more : Bool} {l : List Int} (he : more = false → en = (d.pay.length : Int))
    (hl : ∀ j, off ≤ j → j < off + l.length → j < d.pay.length ∧ l.getD (j - off) 0 = d.pay.getD j 0) : RA (p1.put i off en more l).2.1 D now ∧ ((p1.put i off en more l).1 = 0 → (p1.put i off en more l).2.2 = d.pay) := by
  have hq : ∃ tot, (tot = (p1.tab i).total ∨ tot = (d.pay.length : Int)) ∧ (if more = true then p1 else p1.setTotal i en).lay i off l = { p1 with tab := upA p1.tab i { (p1.tab i) with total := tot, buf := layA (p1.tab i).buf off l, held := (((p1.tab i).held.toNat ||| ((2 ^ l.length - 1) * 2 ^ off) : Nat) : Int) } } := by
    cases more with
    | true => exact ⟨_, .inl rfl, by unfold Ipt.lay; rfl⟩
    | false => exact ⟨en, .inr (he rfl), by unfold Ipt.lay Ipt.setTotal; dsimp only; rw [if_neg (by decide)]; dsimp only; rw [upA_at, upA_upA]⟩
  obtain ⟨tot, t1, t2⟩ := hq
  unfold Ipt.put
  rw [t2]
  have hs2 := hs.lay tot t1 hl
  split
  · refine ⟨RA.drop ra (i := i) ha (fun j hji => ?_) (.inl ?_), fun h => absurd h (by decide : ¬ (9 : Int) = 0)⟩
    · unfold Ipt.drop; dsimp only; rw [upA_ne _ _ hji]; exact hj j hji
    · unfold Ipt.drop; dsimp only; rw [upA_at]
  · split
    · rename_i hw
      refine ⟨RA.drop ra (i := i) ha (fun j hji => ?_) (.inl ?_), fun _ => ?_⟩
      · unfold Ipt.drop; dsimp only; rw [upA_ne _ _ hji, upA_ne _ _ hji]; exact hj j hji
      · unfold Ipt.drop; dsimp only; rw [upA_at]
      · refine SlotOk.row (addr := p.addr) (now := now) ?_ hw
        dsimp only; rw [upA_at]; exact hs2
    · refine ⟨RA.drop ra (i := i) ha (fun j hji => ?_) (.inr ⟨d, hd, ?_⟩), fun h => absurd h (by decide : ¬ (10 : Int) = 0)⟩
      · dsimp only; rw [upA_ne _ _ hji]; exact hj j hji
      · dsimp only; rw [upA_at]; exact hs2
/-- WHAT A PACKET DOES -/
theorem RA.inp {p : Ipt} (ok : p.Ok) {D : List Dgr} {now : Int} {T M C : Int → Int} (H : Hist D T M C) (hT : ∀ s, T s ≤ now) (ra : RA p D now) {d : Dgr} (hd : d ∈ D) (hr : now - d.t ≤ 4) {pk : List Int} (hp : pk ∈ d.pkts) :
    RA (p.inp pk).2.1 D now ∧ ((p.inp pk).1 = 0 → d.dst = p.addr ∧ (p.inp pk).2.2 = d.pay) := by
  have hdo := (H.ok d hd).1
  have hlen := hdo.len
  have cs : ∃ om l, pk = ipPkt 6 d.src d.dst (d.m % 256) om l ∧ ((om = 0 ∧ l = d.pay) ∨ (om = 128 ∧ l = d.pay.take 16 ∧ 16 < d.pay.length) ∨ (om = 16 ∧ l = d.pay.drop 16 ∧ 16 < d.pay.length)) := by
    unfold Dgr.pkts at hp
    split at hp
    · simp only [List.mem_cons, List.not_mem_nil, or_false] at hp
      exact ⟨0, d.pay, hp, .inl ⟨rfl, rfl⟩⟩
    · rename_i h16
      simp only [List.mem_cons, List.not_mem_nil, or_false] at hp
      rcases hp with hp | hp
      · exact ⟨128, _, hp, .inr (.inl ⟨rfl, rfl, by omega⟩)⟩
      · exact ⟨16, _, hp, .inr (.inr ⟨rfl, rfl, by omega⟩)⟩
  obtain ⟨om, l, rfl, hcs⟩ := cs
  have e0 : (ipPkt 6 d.src d.dst (d.m % 256) om l).getD 0 0 = 6 := rfl
  have e1 : (ipPkt 6 d.src d.dst (d.m % 256) om l).getD 1 0 = 8 := rfl
  have e2 : (ipPkt 6 d.src d.dst (d.m % 256) om l).getD 2 0 = d.src := rfl
  have e3 : (ipPkt 6 d.src d.dst (d.m % 256) om l).getD 3 0 = d.dst := rfl
  have e4 : (ipPkt 6 d.src d.dst (d.m % 256) om l).getD 4 0 = d.m % 256 := rfl
  have e5 : (ipPkt 6 d.src d.dst (d.m % 256) om l).getD 5 0 = om := rfl
  have e6 : (ipPkt 6 d.src d.dst (d.m % 256) om l).getD 6 0 = (l.length : Int) := rfl
  have e7 : ipSum (ipPkt 6 d.src d.dst (d.m % 256) om l) = (ipPkt 6 d.src d.dst (d.m % 256) om l).getD 7 0 := rfl
  have e8 : (ipPkt 6 d.src d.dst (d.m % 256) om l).drop 8 = l := rfl
  unfold Ipt.inp
  rw [e0, e1, e2, e3, e4, e5, e6, e8, ipPkt_len, if_neg (by omega), if_neg (by omega), if_neg (by rw [e7]; simp), if_neg (by decide)]
  by_cases ha' : ¬ d.dst = p.addr
  · rw [if_pos ha']; exact ⟨ra, fun h => absurd h (by decide : ¬ (7 : Int) = 0)⟩
  have ha : d.dst = p.addr := Decidable.not_not.1 ha'
  rw [if_neg ha']
  rcases hcs with ⟨rfl, rfl⟩ | ⟨rfl, rfl, h16⟩ | ⟨rfl, rfl, h16⟩
  · rw [if_neg (by omega), if_neg (by omega), if_pos rfl]
    exact ⟨ra, fun _ => ⟨ha, rfl⟩⟩
  · have hl : (d.pay.take 16).length = 16 := by rw [List.length_take]; omega
    rw [hl, if_neg (by decide), if_neg (by decide), if_neg (by decide)]
    cases hlk : p.look (keyOf d.src 6 (d.m % 256)) with
    | none => exact ⟨ra, fun h => absurd h (by decide : ¬ (11 : Int) = 0)⟩
    | some ip =>
      obtain ⟨i, p1⟩ := ip
      obtain ⟨_, k2, k3, k4⟩ := RA.look ok H hT ra hd hr ha hlk
      have := RA.put ra hd (off := (128 % 128 : Int).toNat) (en := 128 % 128 + ((16 : Nat) : Int)) (more := decide (¬ (128 : Int) * (128 / 128) = 0)) (l := d.pay.take 16) k2 k3 k4 (fun h => absurd h (by decide)) (fun j h1 h2 => by
        rw [hl] at h2
        have h0 : (128 % 128 : Int).toNat = 0 := rfl
        rw [h0] at h1 h2 ⊢
        exact ⟨by omega, getD_take' _ _ _ (by omega)⟩)
      exact ⟨this.1, fun h => ⟨ha, this.2 h⟩⟩
  · have hl : (d.pay.drop 16).length = d.pay.length - 16 := by rw [List.length_drop]
    rw [hl, if_neg (by omega), if_neg (by omega), if_neg (by decide)]
    cases hlk : p.look (keyOf d.src 6 (d.m % 256)) with
    | none => exact ⟨ra, fun h => absurd h (by decide : ¬ (11 : Int) = 0)⟩
    | some ip =>
      obtain ⟨i, p1⟩ := ip
      obtain ⟨_, k2, k3, k4⟩ := RA.look ok H hT ra hd hr ha hlk
      have := RA.put ra hd (off := (16 % 128 : Int).toNat) (en := 16 % 128 + ((d.pay.length - 16 : Nat) : Int)) (more := decide (¬ (128 : Int) * (16 / 128) = 0)) (l := d.pay.drop 16) k2 k3 k4 (fun _ => by omega) (fun j h1 h2 => by
        rw [hl] at h2
        have h0 : (16 % 128 : Int).toNat = 16 := rfl
        rw [h0] at h1 h2 ⊢
        refine ⟨by omega, ?_⟩
        rw [getD_drop']
        congr 1; omega)
      exact ⟨this.1, fun h => ⟨ha, this.2 h⟩⟩
theorem RA.tick {p : Ipt} {D : List Dgr} {now : Int} (ra : RA p D now) : RA p.tick D (now + 1) := by
  intro i hi hu
  have e : p.tick.tab i = tickSlt (p.tab i) := by unfold Ipt.tick Ipt.tickTo; dsimp only; rw [if_pos hi]
  rw [e] at hu ⊢
  unfold tickSlt at hu ⊢
  by_cases h1 : (p.tab i).used = true
  · rw [if_pos h1] at hu ⊢
    by_cases h2 : (p.tab i).left - 1 ≤ 0
    · rw [if_pos h2] at hu; exact absurd (show false = true from hu) (by decide)
    · rw [if_neg h2]
      obtain ⟨d, d1, d2⟩ := ra i hi h1
      exact ⟨d, d1, ⟨d2.dst, d2.key, by have := d2.left; dsimp only; omega, by dsimp only; omega, d2.total, d2.held⟩⟩
  · rw [if_neg h1] at hu; exact absurd hu h1
theorem RA.ok_tick {p : Ipt} (ok : p.Ok) {D : List Dgr} {now : Int} (ra : RA p D now) : p.tick.Ok := by
  refine ⟨ok.addr, ok.nxt, by show 0 ≤ (24 : Int) ∧ (24 : Int) ≤ 24; omega, fun i => ?_⟩
  show (if i < 3 then tickSlt (p.tab i) else p.tab i).Ok
  have h := ok.slot i
  have h0 := h.left
  by_cases hi : i < 3
  · rw [if_pos hi]
    unfold tickSlt
    by_cases hu : (p.tab i).used = true
    · rw [if_pos hu]
      obtain ⟨d, d1, d2⟩ := ra i hi hu
      have := d2.lf
      split
      · exact ⟨by dsimp only; omega, h.total, h.held, h.buf⟩
      · exact ⟨by dsimp only; omega, h.total, h.held, h.buf⟩
    · rw [if_neg hu]; exact h
  · rw [if_neg hi]; exact h
theorem RA.mono {p : Ipt} {D : List Dgr} {now : Int} (ra : RA p D now) (d : Dgr) : RA p (D ++ [d]) now := fun i hi hu => by
  obtain ⟨e, e1, e2⟩ := ra i hi hu
  exact ⟨e, List.mem_append_left _ e1, e2⟩
theorem RA.sent {p : Ipt} {D : List Dgr} {now : Int} (ra : RA p D now) : RA p.sent D now := fun i hi hu => ra i hi hu
end Go.Proofs.Qxb6500351aGreat
