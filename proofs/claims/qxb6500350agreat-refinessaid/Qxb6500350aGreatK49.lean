/- PLAIN LAW: THE INDEX (1): ITS STATE; CHILDOF, PROBE. -/
import Derived.Test.Qxb6500350aGreatK48
import Derived.Test.Qxb6500350aGreatT204
import Derived.Test.Qxb6500350aGreatT205
set_option linter.unusedVariables false
set_option linter.unusedSimpArgs false
set_option maxHeartbeats 1000000
namespace Go.Proofs.Qxb6500350aGreat
open Go.Eng Go
/-- the fingerprint -/
def hv (s : Str) : Int := s.foldl (fun h (b : UInt8) => (h * 31 + b.toNat) % 65536) 0
theorem hv_snoc (s : Str) (b : UInt8) : hv (s ++ [b]) = (hv s * 31 + b.toNat) % 65536 := by unfold hv; rw [List.foldl_append]; rfl
theorem hv_rng (s : Str) : 0 ≤ hv s ∧ hv s < 65536 := by
  unfold hv
  suffices ∀ (s : Str) (h : Int), 0 ≤ h ∧ h < 65536 → 0 ≤ s.foldl (fun (h : Int) (b : UInt8) => (h * 31 + b.toNat) % 65536) h ∧ s.foldl (fun (h : Int) (b : UInt8) => (h * 31 + b.toNat) % 65536) h < 65536 from this s 0 (by omega)
  intro s
  induction s with
  | nil => intro h hh; exact hh
  | cons b s ih =>
    intro h hh
    refine ih _ ?_
    show 0 ≤ (h * 31 + (b.toNat : Int)) % 65536 ∧ (h * 31 + (b.toNat : Int)) % 65536 < 65536
    omega
theorem and16 {x : Int} (h0 : 0 ≤ x) (h1 : x < 9223372036854775808) : bAnd .i64 x 65535 = x % 65536 := by
  rw [bAnd_i h0 h1 (by omega) (by omega)]
  have := Nat.and_two_pow_sub_one_eq_mod x.toNat 16
  rw [show (65535 : Int).toNat = 2 ^ 16 - 1 by decide, this]
  omega
theorem hashX_ok {n : Nat} {s : Str} (hn : 100000 ≤ n) (hs : s.length ≤ 90000) : m267 n s = some (hv s) := by
  refine Ok.eq ?_
  unfold m267
  refine Ok_ob2 ?_
  unfold m267_w1
  refine Ok_pre2 s (by omega) hn (fun pre h => h = hv pre) rfl (fun Q lp h pre b r hQ e hI hlt hget hw ih => ?_) (fun Q lp h hQ hI => ?_)
  · subst hI
    have hr := hv_rng pre
    refine Ok_ite (fun _ => Ok_sIx (by omega) hlt (fun y hy => ?_)) (fun hh => absurd hlt hh)
    obtain rfl := hget y hy
    have hb : (b.toNat : Int) < 256 := by have := b.toNat_lt; omega
    rw [hw, wi_e (x := hv pre * 31) (by omega) (by omega), wi_e (x := hv pre * 31 + (b.toNat : Int)) (by omega) (by omega), and16 (by omega) (by omega)]
    exact ih _ (hv_snoc pre b).symm
  · exact Ok_ite (fun hh => absurd hh (by omega)) (fun _ => Ok.some' (hQ _ (Ok.some' hI)))
/-- a row of nodes -/
def Chx (pl : Int → Nod) : Int → List Int → Prop
  | b, [] => b = 0
  | b, i :: r => b = i ∧ 1 ≤ i ∧ i ≤ 48 ∧ Chx pl (pl i).nxt r
theorem Chx.rng {pl : Int → Nod} : ∀ {b : Int} {l : List Int}, Chx pl b l → ∀ i, i ∈ l → 1 ≤ i ∧ i ≤ 48
  | _, [], _, i, h => by cases h
  | b, j :: r, ⟨_, h1, h2, h3⟩, i, h => by
    rcases List.mem_cons.1 h with rfl | h
    · exact ⟨h1, h2⟩
    · exact h3.rng i h
theorem Chx.congr {pl pl' : Int → Nod} : ∀ {b : Int} {l : List Int}, Chx pl b l → (∀ i, i ∈ l → (pl' i).nxt = (pl i).nxt) → Chx pl' b l
  | _, [], h, _ => h
  | b, j :: r, ⟨h0, h1, h2, h3⟩, hx => ⟨h0, h1, h2, by rw [hx j (by simp)]; exact h3.congr (fun i hi => hx i (List.mem_cons_of_mem _ hi))⟩
theorem Chx.rng0 {pl : Int → Nod} {b : Int} {l : List Int} (h : Chx pl b l) : 0 ≤ b ∧ b ≤ 48 := by
  cases l with
  | nil => rw [show b = 0 from h]; omega
  | cons i r => obtain ⟨rfl, h1, h2, _⟩ := h; omega
def keyN (v : Nod) : Str := if v.file then v.name else v.name ++ [47]
/-- the state of the tree of path parts. T: the nodes that hang in it; L d: d's children; pp c: c's path with a slash behind each part -/
structure XI (pl : Int → Nod) (free : Int) (L : Int → List Int) (pp : Int → Str) (Fr : List Int) (T : Int → Prop) : Prop where
  rng : ∀ c, T c → 1 ≤ c ∧ c ≤ 48
  chn : ∀ d, (d = 0 ∨ T d) → Chx pl (pl d).child (L d)
  up : ∀ c, T c → ∃ d, (d = 0 ∨ T d) ∧ c ∈ L d
  dn : ∀ d c, (d = 0 ∨ T d) → c ∈ L d → T c ∧ pp c = pp d ++ ((pl c).name ++ [47]) ∧ (pl d).file = false
  pp0 : pp 0 = []
  nm : ∀ c, T c → (pl c).name ≠ [] ∧ (47 : UInt8) ∉ (pl c).name
  nml : ∀ c, T c → (pl c).name.length ≤ 12
  inj : ∀ c c', T c → T c' → pp c = pp c' → c = c'
  srt : ∀ d, (d = 0 ∨ T d) → (L d).Pairwise fun a b => sLt (keyN (pl a)) (keyN (pl b)) = true
  fil : ∀ c, T c → (pl c).file = true → (pl c).size = (pl c).data.length ∧ (pl c).hash = hv (pl c).data ∧ 0 ≤ (pl c).mode ∧ (pl c).mode ≤ 3 ∧ (pl c).data.length ≤ 180
  dir : ∀ c, T c → (pl c).file = false → (pl c).data = [] ∧ (pl c).mode = 0 ∧ (pl c).size = 0 ∧ (pl c).hash = 0
  root : pl 0 = { Nod.zero with child := (pl 0).child }
  frc : Chx pl free Fr
  frn : Fr.Nodup
  frm : ∀ c, c ∈ Fr ↔ 1 ≤ c ∧ c ≤ 48 ∧ ¬ T c
  frz : ∀ c, c ∈ Fr → pl c = { Nod.zero with nxt := (pl c).nxt }
theorem XI.lfile {pl : Int → Nod} {free : Int} {L : Int → List Int} {pp : Int → Str} {Fr : List Int} {T : Int → Prop} (h : XI pl free L pp Fr T) {c : Int} (hc : T c) (hf : (pl c).file = true) : L c = [] := by
  cases hl : L c with
  | nil => rfl
  | cons a r =>
    have := (h.dn c a (.inr hc) (by rw [hl]; simp)).2.2
    rw [hf] at this; cases this
theorem XI.nodup {pl : Int → Nod} {free : Int} {L : Int → List Int} {pp : Int → Str} {Fr : List Int} {T : Int → Prop} (h : XI pl free L pp Fr T) {d : Int} (hd : d = 0 ∨ T d) : (L d).Nodup := by
  refine List.Pairwise.imp ?_ (h.srt d hd)
  intro a b hab e
  subst e
  rw [sLt_irrefl] at hab; cases hab
theorem XI.len {pl : Int → Nod} {free : Int} {L : Int → List Int} {pp : Int → Str} {Fr : List Int} {T : Int → Prop} (h : XI pl free L pp Fr T) {d : Int} (hd : d = 0 ∨ T d) : (L d).length ≤ 48 := by
  have := nodup_sub_le (U := ids) (h.nodup hd) (fun c hc => mem_ids.2 (h.rng c (h.dn d c hd hc).1))
  rw [ids_len] at this; exact this
theorem snoc_inj {a b x y : Str} (hx : (47 : UInt8) ∉ x) (hy : (47 : UInt8) ∉ y) (hx0 : x ≠ [] ∨ True) (ha : a = [] ∨ ∃ a', a = a' ++ [47]) (hb : b = [] ∨ ∃ b', b = b' ++ [47]) (h : a ++ (x ++ [47]) = b ++ (y ++ [47])) : a = b ∧ x = y := by
  have h : a ++ x = b ++ y := by
    rw [← List.append_assoc, ← List.append_assoc] at h
    exact List.append_cancel_right h
  have key : ∀ (a b x y : Str), (47 : UInt8) ∉ x → (b = [] ∨ ∃ b', b = b' ++ [47]) → a ++ x = b ++ y → b.length ≤ a.length := by
    intro a b x y hx hb h
    rcases hb with rfl | ⟨b', rfl⟩
    · simp
    · apply Classical.byContradiction
      intro hlt
      have hlt : a.length ≤ b'.length := by simp at hlt; omega
      have h1 : (a ++ x)[b'.length]? = some 47 := by
        rw [h, List.getElem?_append_left (by simp), List.getElem?_append_right (Nat.le_refl _), Nat.sub_self]; rfl
      rw [List.getElem?_append_right hlt] at h1
      exact hx (List.mem_of_getElem? h1)
  have h1 := key a b x y hx hb h
  have h2 := key b a y x hy ha h.symm
  exact List.append_inj h (by omega)
section
variable {pl : Int → Nod} {free : Int} {L : Int → List Int} {pp : Int → Str} {Fr : List Int} {T : Int → Prop}
theorem XI.ppend (h : XI pl free L pp Fr T) {d : Int} (hd : d = 0 ∨ T d) : pp d = [] ∨ ∃ q, pp d = q ++ [47] := by
  rcases hd with rfl | hd
  · exact .inl h.pp0
  · obtain ⟨e, he, hm⟩ := h.up d hd
    have := (h.dn e d he hm).2.1
    exact .inr ⟨pp e ++ (pl d).name, by rw [this]; simp⟩
theorem XI.ppne (h : XI pl free L pp Fr T) {c : Int} (hc : T c) : pp c ≠ [] := by
  obtain ⟨e, he, hm⟩ := h.up c hc
  rw [(h.dn e c he hm).2.1]; simp
/-- a node with the path of a child is the child -/
theorem XI.child (h : XI pl free L pp Fr T) {d c : Int} {x : Str} (hd : d = 0 ∨ T d) (hx : (47 : UInt8) ∉ x) (hc : T c) (he : pp c = pp d ++ (x ++ [47])) : c ∈ L d ∧ (pl c).name = x := by
  obtain ⟨e, he2, hm⟩ := h.up c hc
  have h1 := (h.dn e c he2 hm).2.1
  obtain ⟨h2, h3⟩ := snoc_inj hx (h.nm c hc).2 (.inr trivial) (h.ppend hd) (h.ppend he2) (he.symm.trans h1)
  have : d = e := by
    rcases hd with rfl | hd
    · rcases he2 with rfl | he2
      · rfl
      · rw [h.pp0] at h2; exact absurd h2.symm (h.ppne he2)
    · rcases he2 with rfl | he2
      · rw [h.pp0] at h2; exact absurd h2 (h.ppne hd)
      · exact h.inj d e hd he2 h2
  subst this
  exact ⟨hm, h3.symm⟩
theorem XI.one (h : XI pl free L pp Fr T) {d d' c : Int} (hd : d = 0 ∨ T d) (hd' : d' = 0 ∨ T d') (hc : c ∈ L d) (hc' : c ∈ L d') : d = d' := by
  have h1 := h.dn d c hd hc
  have h2 := h.dn d' c hd' hc'
  have hn := (h.nm c h1.1).2
  obtain ⟨h3, _⟩ := snoc_inj hn hn (.inr trivial) (h.ppend hd) (h.ppend hd') (h1.2.1.symm.trans h2.2.1)
  rcases hd with rfl | hd
  · rcases hd' with rfl | hd'
    · rfl
    · rw [h.pp0] at h3; exact absurd h3.symm (h.ppne hd')
  · rcases hd' with rfl | hd'
    · rw [h.pp0] at h3; exact absurd h3 (h.ppne hd)
    · exact h.inj d d' hd hd' h3
theorem prefix_snoc {a b x : Str} (hx : (47 : UInt8) ∉ x) (ha : ∃ a', a = a' ++ [47]) (h : a <+: b ++ (x ++ [47])) (hne : a ≠ b ++ (x ++ [47])) : a <+: b := by
  obtain ⟨a', rfl⟩ := ha
  have hlen := h.length_le
  have hlt : (a' ++ [47]).length < (b ++ (x ++ [47])).length := by
    rcases Nat.lt_or_eq_of_le hlen with h1 | h1
    · exact h1
    · exact absurd (h.eq_of_length h1) hne
  simp only [List.length_append, List.length_singleton] at hlt
  have hle : (a' ++ [47]).length ≤ b.length := by
    apply Classical.byContradiction
    intro h2
    simp only [List.length_append, List.length_singleton] at h2
    obtain ⟨v, hv⟩ := h
    have h3 : (b ++ (x ++ [47]))[a'.length]? = some 47 := by
      rw [← hv, List.append_assoc, List.getElem?_append_right (Nat.le_refl _), Nat.sub_self]; rfl
    rw [List.getElem?_append_right (by omega), List.getElem?_append_left (by omega)] at h3
    exact hx (List.mem_of_getElem? h3)
  exact List.prefix_of_prefix_length_le h (List.prefix_append b _) hle
theorem anc_node (h : XI pl free L pp Fr T) {d : Int} {pre y : Str} (hd : d = 0 ∨ T d) (hpd : pp d = pre) (hy : (47 : UInt8) ∉ y) (hno : ∀ c, c ∈ L d → (pl c).name ≠ y) : ∀ c, T c → pre ++ (y ++ [47]) <+: pp c → False := by
  have : ∀ (m : Nat) c, (pp c).length ≤ m → T c → pre ++ (y ++ [47]) <+: pp c → False := by
    intro m
    induction m with
    | zero =>
      intro c hm hc
      exact absurd (List.eq_nil_of_length_eq_zero (by omega)) (h.ppne hc)
    | succ m ih =>
      intro c hm hc hp
      obtain ⟨e, he, hme⟩ := h.up c hc
      have h1 := (h.dn e c he hme).2.1
      by_cases heq : pre ++ (y ++ [47]) = pp c
      · obtain ⟨h2, h3⟩ := h.child hd hy hc (by rw [hpd]; exact heq.symm)
        exact hno c h2 h3
      · rw [h1] at hp heq
        have h2 := prefix_snoc (h.nm c hc).2 ⟨pre ++ y, by simp⟩ hp heq
        rcases he with rfl | he
        · rw [h.pp0] at h2
          have := h2.length_le
          simp at this
        · refine ih e ?_ he h2
          rw [h1] at hm
          simp only [List.length_append, List.length_singleton] at hm
          omega
  exact fun c hc hp => this _ c (Nat.le_refl _) hc hp
theorem file_short (h : XI pl free L pp Fr T) {d c : Int} {pre y w' q : Str} (hd : d = 0 ∨ T d) (hpd : pp d = pre) (hy : (47 : UInt8) ∉ y) (hf : (pl d).file = false) (hc : T c) (hfc : (pl c).file = true) (hq : pp c ++ q = pre ++ (y ++ 47 :: w')) (h1 : pre.length ≤ (pp c).length) (h2 : (pp c).length < pre.length + (y.length + 1)) : False := by
  by_cases he : (pp c).length = pre.length
  · obtain ⟨h3, _⟩ := List.append_inj hq he
    rcases hd with rfl | hd
    · rw [h.pp0] at hpd; rw [← hpd] at h3; exact h.ppne hc h3
    · have := h.inj c d hc hd (by rw [hpd]; exact h3)
      rw [this, hf] at hfc; cases hfc
  · rcases h.ppend (.inr hc) with h3 | ⟨p, h3⟩
    · exact h.ppne hc h3
    · have hpl : (pp c).length = p.length + 1 := by rw [h3]; simp
      have h4 : (pre ++ (y ++ 47 :: w'))[p.length]? = some 47 := by
        rw [← hq, h3, List.append_assoc, List.getElem?_append_right (Nat.le_refl _), Nat.sub_self]; rfl
      rw [List.getElem?_append_right (by omega), List.getElem?_append_left (by omega)] at h4
      exact hy (List.mem_of_getElem? h4)
theorem XI.d48 (h : XI pl free L pp Fr T) {d : Int} (hd : d = 0 ∨ T d) : 0 ≤ d ∧ d ≤ 48 := by
  rcases hd with rfl | hd
  · omega
  · have := h.rng d hd; omega
end
section
variable {n : Nat} {x : Index} {L : Int → List Int} {pp : Int → Str} {Fr : List Int} {T : Int → Prop}
theorem childOf_ok {d : Int} {l : List Int} {nm : Str} (hn : 100000 ≤ n) (d0 : 0 ≤ d) (d1 : d ≤ 48) (hl : Chx x.pool (x.pool d).child l) (hlen : l.length ≤ 48) :
    Ok (m269 n x d nm) (fun r => (r = 0 ∧ ∀ c, c ∈ l → (x.pool c).name ≠ nm) ∨ (r ∈ l ∧ (x.pool r).name = nm)) := by
  unfold m269
  refine Ok_ck (by omega) (by omega) (Ok_flow ?_)
  unfold m269_w1
  refine Ok_it2 (fun (c k : Int) => 0 ≤ k ∧ ∃ l1 l2, l = l1 ++ l2 ∧ k = l1.length ∧ Chx x.pool c l2 ∧ ∀ y, y ∈ l1 → (x.pool y).name ≠ nm) (fun (_ k : Int) => (49 - k).toNat) ?_ n _ 0 ⟨by omega, [], l, rfl, rfl, hl, by simp⟩ (by show ((49 : Int) - 0).toNat < n; omega)
  rintro Q lp c k hQ ⟨i0, l1, l2, rfl, rfl, i2, i3⟩ ih
  rw [List.length_append] at hlen
  cases l2 with
  | nil =>
    have hc : c = 0 := i2
    refine Ok_ite2 (fun _ e => absurd hc e) (fun _ => Ok.some' (hQ _ (Ok.some' (.inl ⟨rfl, by simpa using i3⟩))))
  | cons i r =>
    obtain ⟨rfl, h1, h2, h3⟩ := i2
    rw [List.length_cons] at hlen
    refine Ok_ite2 (fun _ _ => Ok_ck (by omega) (by omega) (Ok_ite (fun e => Ok_bs (Ok.some' (hQ _ (Ok.some' (.inr ⟨by simp, e⟩))))) (fun e => Ok_ck (by omega) (by omega) ?_))) (fun e => absurd (show ¬ c = 0 by omega) (e (by omega)))
    rw [wi_e (by omega) (by omega)]
    refine ih _ _ ⟨by omega, l1 ++ [c], r, by simp, by simp, h3, fun y hy => ?_⟩ (by omega)
    rcases List.mem_append.1 hy with hy | hy
    · exact i3 y hy
    · rw [List.mem_singleton.1 hy]; exact e
theorem keyOf_ok {v : Nod} (h : v.name.length ≤ 1000) : m266 n v.name v.file = some (keyN v) := by
  refine Ok.eq ?_
  unfold m266 keyN
  refine Ok_cond (fun e => ?_) (fun e => ?_)
  · rw [e]; exact Ok.some' rfl
  · rw [e]; exact Ok_sAdd (by simp; omega) (Ok.some' rfl)
/-- a way: parts with a slash behind each -/
def Way : Nat → Str → Prop
  | 0, w => w = []
  | m + 1, w => w = [] ∨ ∃ y w', w = y ++ 47 :: w' ∧ y ≠ [] ∧ (47 : UInt8) ∉ y ∧ Way m w'
theorem Rel.way : ∀ {m : Nat} {p : Str}, Rel m p → Way m (p ++ [47])
  | 0, _, h => h.elim
  | m + 1, p, ⟨h1, h2⟩ => by
    rcases h2 with h2 | ⟨y, q, rfl, h3, h4, h5⟩
    · exact .inr ⟨p, [], by simp, h1, h2, by cases m; rfl; exact .inl rfl⟩
    · exact .inr ⟨y, q ++ [47], by simp, h3, h4, h5.way⟩
theorem Way.cases {m : Nat} {w : Str} (h : Way m w) (hw : w ≠ []) : ∃ k y w', m = k + 1 ∧ w = y ++ 47 :: w' ∧ y ≠ [] ∧ (47 : UInt8) ∉ y ∧ Way k w' := by
  cases m with
  | zero => exact absurd h hw
  | succ m => exact h.elim (fun e => absurd e hw) (fun ⟨y, w', a, b, c, d⟩ => ⟨m, y, w', rfl, a, b, c, d⟩)
theorem Way.len {m : Nat} {w : Str} (h : Way m w) : w = [] ∨ 2 ≤ w.length := by
  rcases Classical.em (w = []) with e | e
  · exact .inl e
  · obtain ⟨k, y, w', _, rfl, h1, _⟩ := h.cases e
    have : 1 ≤ y.length := by cases y with | nil => exact absurd rfl h1 | cons a b => simp
    right; simp; omega
/-- the end of a part -/
theorem partEnd_ok {path pre y w' : Str} (hn : 100000 ≤ n) (hp : path.length ≤ 1000) (h : path ++ [47] = pre ++ (y ++ 47 :: w')) (hy : (47 : UInt8) ∉ y) : m268 n path pre.length = some ((pre.length : Int) + y.length) := by
  refine Ok.eq ?_
  have hlen := congrArg List.length h
  simp only [List.length_append, List.length_cons, List.length_nil] at hlen
  have hget : ∀ j : Nat, j < path.length → path[j]? = (pre ++ (y ++ 47 :: w'))[j]? := fun j hj => by rw [← h, List.getElem?_append_left hj]
  unfold m268
  refine Ok_ob1 ?_
  unfold m268_w1
  refine Ok_it1 (fun (c : Int) => (pre.length : Int) ≤ c ∧ c ≤ (pre.length : Int) + y.length) (fun (c : Int) => ((pre.length : Int) + y.length - c).toNat) ?_ n _ ⟨by omega, by omega⟩ (by show ((pre.length : Int) + y.length - pre.length).toNat < n; omega)
  rintro Q lp c hQ ⟨i0, i1⟩ ih
  refine Ok_ob1 (Ok_ite (fun hc => Ok_sIx (by omega) hc (fun b hb => Ok.some' ?_)) (fun hc => Ok.some' ?_))
  · rw [hget _ (by omega), List.getElem?_append_right (by omega)] at hb
    by_cases e : c = (pre.length : Int) + y.length
    · rw [show c.toNat - pre.length = y.length by omega, List.getElem?_append_right (Nat.le_refl _), Nat.sub_self] at hb
      obtain rfl := Option.some.inj hb
      exact Ok_cond (fun e => absurd e (by decide)) (fun _ => Ok.some' (hQ _ (Ok.some' e)))
    · rw [List.getElem?_append_left (by omega)] at hb
      have hne : b ≠ 47 := fun e2 => hy (by rw [← e2]; exact List.mem_of_getElem? hb)
      refine Ok_ite (fun _ => ?_) (fun e2 => absurd (fun e3 : (b.toNat : Int) = 47 => hne (UInt8.toNat_inj.1 (by show b.toNat = 47; omega))) e2)
      rw [wi_e (by omega) (by omega)]
      exact ih _ ⟨by omega, by omega⟩ (by omega)
  · exact Ok_cond (fun e => nomatch e) (fun _ => Ok.some' (hQ _ (Ok.some' (by omega))))
/-- what a part of the path is -/
theorem part_eq {path pre y w' : Str} (h : path ++ [47] = pre ++ (y ++ 47 :: w')) : (path.take ((pre.length : Int) + y.length).toNat).drop (pre.length : Int).toNat = y ∧ (pre.length : Int) + y.length ≤ path.length := by
  have hlen := congrArg List.length h
  simp only [List.length_append, List.length_cons, List.length_nil] at hlen
  refine ⟨?_, by omega⟩
  have : path.take (pre.length + y.length) = pre ++ y := by
    have h1 : (path ++ [47]).take (pre.length + y.length) = path.take (pre.length + y.length) := by rw [List.take_append_of_le_length (by omega)]
    rw [← h1, h, ← List.append_assoc, List.take_left' (by simp)]
  rw [show ((pre.length : Int) + y.length).toNat = pre.length + y.length by omega, this, Int.toNat_natCast, List.drop_left' rfl]
/-- how a path stands to the tree -/
theorem probe_ok {path : Str} (hn : 100000 ≤ n) (h : XI x.pool x.free L pp Fr T) (hp : goodP path = true) :
    Ok (m204 n x path) (fun r => (r = (0, true) ∧ ∃ c q, T c ∧ (x.pool c).file = true ∧ pp c ++ q = path ++ [47] ∧ q ≠ []) ∨ (r = (0, false) ∧ (∀ c, T c → ¬ path ++ [47] <+: pp c) ∧ ∀ c q, T c → (x.pool c).file = true → pp c ++ q = path ++ [47] → False) ∨
      ∃ c, r = (c, !(x.pool c).file) ∧ T c ∧ pp c = path ++ [47]) := by
  have hgl := goodP_len hp
  have hway := (goodP_rel hp).way
  unfold m204
  refine Ok_flow ?_
  unfold m204_w1
  refine Ok_it2 (fun (d at_ : Int) => ∃ pre w m, path ++ [47] = pre ++ w ∧ at_ = pre.length ∧ Way m w ∧ (d = 0 ∨ T d) ∧ pp d = pre ∧ ∀ c q, T c → (x.pool c).file = true → pp c ++ q = path ++ [47] → pre.length ≤ (pp c).length) (fun (_ at_ : Int) => ((path.length : Int) + 1 - at_).toNat) ?_ n 0 0 ⟨[], path ++ [47], 6, rfl, rfl, hway, .inl rfl, h.pp0, fun c q _ _ _ => by simp⟩ (by show ((path.length : Int) + 1 - 0).toNat < n; omega)
  rintro Q lp d at_ hQ ⟨pre, w, m, e, rfl, hw, hd, hpd, hlow⟩ ih
  have hlen := congrArg List.length e
  simp only [List.length_append, List.length_singleton] at hlen
  have hd48 := h.d48 hd
  by_cases hw0 : w = []
  · subst hw0
    refine Ok_ite (fun hc => by simp at hlen; omega) (fun _ => Ok.some' (hQ _ (Ok_ck (by show 0 ≤ d; omega) (by show d < 49; omega) (Ok.some' (.inr (.inr ⟨d, rfl, ?_, ?_⟩))))))
    · rcases hd with rfl | hd
      · rw [h.pp0] at hpd; subst hpd; simp at e
      · exact hd
    · rw [hpd, e]; simp
  · obtain ⟨k, y, w', rfl, rfl, hy0, hy, hw'⟩ := hw.cases hw0
    simp only [List.length_append, List.length_cons] at hlen
    have hyl : 1 ≤ y.length := by cases y with | nil => exact absurd rfl hy0 | cons a b => simp
    refine Ok_ite (fun _ => Ok_ck (by omega) (by omega) ?_) (fun hc => by omega)
    refine Ok_cond (fun hf => ?_) (fun hf => ?_)
    · have hTd : T d := by
        rcases hd with rfl | hd
        · have := h.root
          have : (x.pool 0).file = false := by rw [this]; rfl
          rw [this] at hf; cases hf
        · exact hd
      exact Ok_bs (Ok.some' (hQ _ (Ok.some' (.inl ⟨rfl, d, y ++ 47 :: w', hTd, hf, by rw [hpd, e], by simp⟩))))
    · have hpe := part_eq e
      refine Ok_cl1 (partEnd_ok hn (by omega) e hy) (Ok_sSl (by omega) (by omega) hpe.2 ?_)
      rw [hpe.1]
      refine Ok_ob1 ((childOf_ok (nm := y) hn hd48.1 hd48.2 (h.chn d hd) (h.len hd)).mono (fun c hc => ?_))
      rw [wi_e (by omega) (by omega)]
      have hpre' : path ++ [47] = (pre ++ (y ++ [47])) ++ w' := by rw [e]; simp
      rcases hc with ⟨rfl, hno⟩ | ⟨hcm, hcn⟩
      · refine Ok_ite (fun _ => Ok_bs (Ok.some' (hQ _ (Ok.some' (.inr (.inl ⟨rfl, fun c hc hpc => ?_, fun c q hc hfc0 hq => ?_⟩)))))) (fun e => absurd rfl e)
        · -- a node below the missing one has the missing one above it
          exact anc_node h hd hpd hy hno c hc (by rw [hpre'] at hpc; exact (List.prefix_append _ _).trans hpc)
        · have h1 := hlow c q hc hfc0 hq
          rw [hpre'] at hq
          -- pp c is a prefix of the path, longer than pre
          by_cases h2 : (pre ++ (y ++ [47])).length ≤ (pp c).length
          · refine anc_node h hd hpd hy hno c hc ?_
            have := List.prefix_of_prefix_length_le (List.prefix_append (pre ++ (y ++ [47])) w') (by rw [← hq]; exact List.prefix_append (pp c) q) h2
            exact this
          · exact file_short h hd hpd hy hf hc hfc0 (by rw [hq, ← hpre', e]) h1 (by simp only [List.length_append, List.length_singleton] at h2; omega)
      · have hTc := h.dn d c hd hcm
        have hcr := h.rng c hTc.1
        refine Ok_ite (fun e => by omega) (fun _ => ?_)
        refine ih _ _ ⟨pre ++ (y ++ [47]), w', k, hpre', by simp; omega, hw', .inr hTc.1, by rw [hTc.2.1, hpd, hcn], fun c' q hc' hf' hq => ?_⟩ (by omega)
        have h1 := hlow c' q hc' hf' hq
        apply Classical.byContradiction
        intro h2
        exact file_short h hd hpd hy hf hc' hf' (by rw [hq, e]) h1 (by simp only [List.length_append, List.length_singleton] at h2; omega)
end
end Go.Proofs.Qxb6500350aGreat
