/- PLAIN LAW: REACH, LOGOF, BASEOF, KEEP OF THE MODEL. -/
import Derived.Test.Qxb6500350aGreatK47
import Derived.Test.Qxb6500350aGreatT177
import Derived.Test.Qxb6500350aGreatT157
import Derived.Test.Qxb6500350aGreatT161
set_option linter.unusedVariables false
set_option linter.unusedSimpArgs false
set_option maxHeartbeats 1000000
namespace Go.Proofs.Qxb6500350aGreat
open Go.Eng Go
/-- a lawful list of nodes -/
structure WN (l : List Node) : Prop where
  len : l.length ≤ 40
  srt : l.Pairwise fun a b => a.seq < b.seq
  sh : ∀ x, x ∈ l → NodeS x
  par : ∀ x, x ∈ l → ∀ p, p ∈ x.parents → ∃ y, y ∈ l ∧ y.seq = p ∧ y.seq < x.seq
def parN (l : List Node) (q : Int) : List Int := match findN l q with | some x => x.parents | none => []
/-- q is one of the roots or an ancestor of one -/
def AncN (l : List Node) (roots : List Int) : Int → Prop := Anc (parN l) (fun y => y ∈ roots ∧ ∃ x, x ∈ l ∧ x.seq = y)
theorem WN.uniq {l : List Node} (h : WN l) {x y : Node} (hx : x ∈ l) (hy : y ∈ l) (he : x.seq = y.seq) : x = y := by
  obtain ⟨i, hi, rfl⟩ := List.mem_iff_getElem.1 hx
  obtain ⟨j, hj, rfl⟩ := List.mem_iff_getElem.1 hy
  rcases Nat.lt_trichotomy i j with h1 | h1 | h1
  · have := List.pairwise_iff_getElem.1 h.srt i j hi hj h1; omega
  · subst h1; rfl
  · have := List.pairwise_iff_getElem.1 h.srt j i hj hi h1; omega
theorem WN.find {l : List Node} (h : WN l) {x : Node} (hx : x ∈ l) : findN l x.seq = some x := by
  unfold findN
  cases hf : l.find? (fun y => decide (y.seq = x.seq)) with
  | none => have := List.find?_eq_none.1 hf x hx; simp at this
  | some y =>
    have h1 := List.mem_of_find?_eq_some hf
    have h2 : decide (y.seq = x.seq) = true := List.find?_some (p := fun (y : Node) => decide (y.seq = x.seq)) hf
    rw [h.uniq h1 hx (of_decide_eq_true h2)]
theorem findN_some {l : List Node} {q : Int} {x : Node} (h : findN l q = some x) : x ∈ l ∧ x.seq = q := ⟨List.mem_of_find?_eq_some h, of_decide_eq_true (p := x.seq = q) (List.find?_some (p := fun (y : Node) => decide (y.seq = q)) h)⟩
theorem findN_none {l : List Node} {q : Int} (h : findN l q = none) : ∀ x, x ∈ l → x.seq ≠ q := fun x hx e => by
  have := List.find?_eq_none.1 h x hx
  exact this (decide_eq_true e)
theorem findNode_ok {n : Nat} {l : List Node} {q : Int} (hn : 100000 ≤ n) (hl : l.length < 100000) : Ok (m147 n l q) (fun r => (r = -1 ∧ findN l q = none) ∨ (0 ≤ r ∧ r < l.length ∧ ∃ x, l[r.toNat]? = some x ∧ x.seq = q ∧ findN l q = some x)) := by
  unfold m147
  refine Ok_flow ?_
  unfold m147_w1
  refine Ok_pre1 l hl hn (fun pre => ∀ x, x ∈ pre → x.seq ≠ q) (by simp) (fun Q lp pre x r hQ e hI hlt hget hw ih => ?_) (fun Q lp hQ hI => ?_)
  · refine Ok_ite (fun _ => Ok_ix (by omega) hlt (fun y hy => ?_)) (fun h => absurd hlt h)
    obtain rfl := hget y hy
    refine Ok_ite (fun e2 => Ok_bs (Ok.some' (hQ _ (Ok.some' (.inr ⟨by omega, hlt, x, hy, e2, ?_⟩))))) (fun e2 => ?_)
    · unfold findN
      rw [e, List.find?_append, List.find?_eq_none.2 (fun y hy => by simpa using hI y hy)]
      simp [e2]
    · rw [hw]
      refine ih (fun y hy => ?_)
      rcases List.mem_append.1 hy with h | h
      · exact hI y h
      · rw [List.mem_singleton.1 h]; exact e2
  · refine Ok_ite (fun h => absurd h (by omega)) (fun _ => Ok.some' (hQ _ (Ok.some' (.inl ⟨rfl, ?_⟩))))
    exact List.find?_eq_none.2 (fun y hy => by simpa using hI y hy)
/-- the list of flags b is the set U of Seqs -/
structure RepB (l : List Node) (b : List Bool) (U : Int → Prop) : Prop where
  len : b.length = l.length
  get : ∀ (k : Nat) (x : Node), l[k]? = some x → (b[k]? = some true ↔ U x.seq)
theorem RepB.set {l : List Node} {b : List Bool} {U : Int → Prop} (h : RepB l b U) (hw : WN l) {j : Nat} {y : Node} (hj : l[j]? = some y) : RepB l (b.set j true) (fun q => U q ∨ q = y.seq) where
  len := by rw [List.length_set]; exact h.len
  get := fun k x hx => by
    have hjl := (List.getElem?_eq_some_iff.1 hj).1
    rw [List.getElem?_set]
    by_cases e : j = k
    · subst e
      rw [if_pos rfl, if_pos (by rw [h.len]; exact hjl)]
      rw [hj] at hx
      obtain rfl := Option.some.inj hx
      exact ⟨fun _ => .inr rfl, fun _ => rfl⟩
    · rw [if_neg e, h.get k x hx]
      refine ⟨.inl, fun hh => hh.resolve_right (fun e2 => e ?_)⟩
      have h1 := (List.getElem?_eq_some_iff.1 hx)
      have h2 := (List.getElem?_eq_some_iff.1 hj)
      rcases Nat.lt_trichotomy j k with h3 | h3 | h3
      · have := List.pairwise_iff_getElem.1 hw.srt j k h2.1 h1.1 h3; rw [h2.2, h1.2] at this; omega
      · exact h3
      · have := List.pairwise_iff_getElem.1 hw.srt k j h1.1 h2.1 h3; rw [h2.2, h1.2] at this; omega
theorem RepB.congr {l : List Node} {b : List Bool} {U V : Int → Prop} (h : RepB l b U) (k : ∀ x, x ∈ l → (U x.seq ↔ V x.seq)) : RepB l b V := ⟨h.len, fun j x hx => (h.get j x hx).trans (k x (List.mem_of_getElem? hx))⟩
section
variable {n : Nat} {l : List Node}
theorem reach_ok {roots : List Int} (hn : 100000 ≤ n) (h : WN l) (hr : roots.length ≤ 100) : Ok (m230 n l roots) (fun b => RepB l b (AncN l roots)) := by
  have hlen := h.len
  unfold m230
  refine Ok_mk (by omega) (by omega) (by omega) (Ok_ob2 ?_)
  unfold m230_w1
  refine Ok_pre2' roots (by omega) hn (fun pre b => RepB l b (fun q => q ∈ pre)) ⟨by simp, fun k x hx => ?_⟩ (fun Q lp b pre x r hQ e hI hlt hget hw ih => ?_) (fun Q lp b hQ hI => ?_)
  · have := (List.getElem?_eq_some_iff.1 hx).1
    rw [Int.toNat_natCast, List.getElem?_replicate, if_pos this]; simp
  · refine Ok_ite (fun _ => Ok_ix (by omega) hlt (fun y hy => ?_)) (fun hh => absurd hlt hh)
    obtain rfl := hget y hy
    rw [hw]
    refine Ok_ob1 ((findNode_ok hn (by omega)).mono (fun i hi => ?_))
    rcases hi with ⟨rfl, hf⟩ | ⟨h1, h2, y, h3, h4, h5⟩
    · refine Ok_ite (fun e => absurd e (by omega)) (fun _ => ih _ (hI.congr fun y hy => ?_))
      have := findN_none hf y hy
      simp [this]
    · refine Ok_ite (fun _ => Ok_ck (by omega) (by rw [hI.len]; omega) (Ok_st (by omega) (by rw [hI.len]; omega) (ih _ ?_))) (fun e => absurd h1 e)
      refine (hI.set h h3).congr fun z hz => ?_
      rw [List.mem_append, List.mem_singleton, h4]
  · refine Ok_ite (fun e => absurd e (by omega)) (fun _ => Ok.some' (hQ _ (Ok_ob2 ?_)))
    rw [wi_e (by omega) (by omega)]
    unfold m230_w2
    refine Ok_it2 (fun (k : Int) (b : List Bool) => -1 ≤ k ∧ k < l.length ∧ ∃ U, RepB l b U ∧ (∀ x, x ∈ l → x.seq ∈ roots → U x.seq) ∧ (∀ x, x ∈ l → U x.seq → AncN l roots x.seq) ∧ ∀ (j : Nat) x, k < j → l[j]? = some x → U x.seq → ∀ p, p ∈ x.parents → U p)
      (fun (k : Int) _ => (k + 1).toNat) ?_ n _ b ⟨by omega, by omega, _, hI, fun x hx hr => hr, fun x hx hr => .base ⟨hr, x, hx, rfl⟩, fun j x h1 h2 => ?_⟩ (by show ((l.length : Int) - 1 + 1).toNat < n; omega)
    rotate_left
    · have := (List.getElem?_eq_some_iff.1 h2).1; omega
    rintro Q2 lp2 k b2 hQ2 ⟨i0, i1, U, u1, u2, u3, u4⟩ ih2
    refine Ok_ite (fun hk => ?_) (fun hk => ?_)
    · obtain ⟨x, hx⟩ : ∃ x, l[k.toNat]? = some x := ⟨_, List.getElem?_eq_getElem (by omega)⟩
      have hxm := List.mem_of_getElem? hx
      have hpl := (h.sh x hxm).p
      have next : ∀ b' (U' : Int → Prop), RepB l b' U' → (∀ y, y ∈ l → (U' y.seq ↔ U y.seq ∨ (U x.seq ∧ y.seq ∈ x.parents))) → Ok (lp2 (wi (k - 1)) b') Q2 := by
        intro b' U' v1 v2
        rw [wi_e (by omega) (by omega)]
        refine ih2 _ _ ⟨by omega, by omega, U', v1, fun y hy hr => (v2 y hy).2 (.inl (u2 y hy hr)), fun y hy hu => ?_, fun j y hj hy hu p hp => ?_⟩ (by omega)
        · rcases (v2 y hy).1 hu with h1 | ⟨h1, h2⟩
          · exact u3 y hy h1
          · refine .step (u3 x hxm h1) ?_
            unfold parN; rw [h.find hxm]; exact h2
        · have hym := List.mem_of_getElem? hy
          obtain ⟨z, hz, rfl, hzlt⟩ := h.par y hym p hp
          rw [v2 z hz]
          rcases (v2 y hym).1 hu with h1 | ⟨h1, h2⟩
          · by_cases e : j = k.toNat
            · subst e
              rw [hx] at hy
              obtain rfl := Option.some.inj hy
              exact .inr ⟨h1, hp⟩
            · exact .inl (u4 j y (by omega) hy h1 _ hp)
          · exfalso
            obtain ⟨z2, hz2, e2, hlt2⟩ := h.par x hxm _ h2
            have hjl := List.getElem?_eq_some_iff.1 hy
            have hkl := List.getElem?_eq_some_iff.1 hx
            by_cases e : j = k.toNat
            · subst e
              rw [hx] at hy
              obtain rfl := Option.some.inj hy
              omega
            · have := List.pairwise_iff_getElem.1 h.srt k.toNat j hkl.1 hjl.1 (by omega)
              rw [hkl.2, hjl.2] at this; omega
      have hbx := u1.get k.toNat x hx
      refine Ok_ix (by omega) (by rw [u1.len]; exact i1) (fun v hv => Ok_cond (fun e => ?_) (fun e => ?_))
      · subst e
        have hU := hbx.1 hv
        refine Ok_ob2 ?_
        unfold m230_w3
        refine Ok_pre2' x.parents (by omega) hn (fun pre b' => ∃ U', RepB l b' U' ∧ ∀ y, y ∈ l → (U' y.seq ↔ U y.seq ∨ y.seq ∈ pre)) ⟨U, u1, fun y _ => by simp⟩ (fun Q3 lp3 b3 pre p r hQ3 e hI3 hlt hget hw ih3 => ?_) (fun Q3 lp3 b3 hQ3 hI3 => ?_)
        · obtain ⟨U', v1, v2⟩ := hI3
          refine Ok_ix (by omega) i1 (fun x4 hx4 => ?_)
          obtain rfl : x = x4 := Option.some.inj (hx.symm.trans hx4)
          refine Ok_ite (fun _ => Ok_ix (by omega) i1 (fun x5 hx5 => ?_)) (fun hh => absurd hlt hh)
          obtain rfl : x = x5 := Option.some.inj (hx.symm.trans hx5)
          refine Ok_ix (by omega) hlt (fun y hy => ?_)
          obtain rfl := hget y hy
          rw [hw]
          refine Ok_ob1 ((findNode_ok hn (by omega)).mono (fun i hi => ?_))
          have hpm : p ∈ x.parents := by rw [e]; simp
          rcases hi with ⟨rfl, hf⟩ | ⟨h1, h2, y, h3, h4, h5⟩
          · obtain ⟨z, hz, hz2, _⟩ := h.par x hxm p hpm
            exact absurd hz2 (findN_none hf z hz)
          · refine Ok_ite (fun _ => Ok_ck (by omega) (by rw [v1.len]; omega) (Ok_st (by omega) (by rw [v1.len]; omega) (ih3 _ ⟨_, v1.set h h3, fun z hz => ?_⟩))) (fun e => absurd h1 e)
            rw [v2 z hz, List.mem_append, List.mem_singleton, h4, or_assoc]
        · obtain ⟨U', v1, v2⟩ := hI3
          refine Ok_ix (by omega) i1 (fun x4 hx4 => ?_)
          obtain rfl : x = x4 := Option.some.inj (hx.symm.trans hx4)
          refine Ok_ite (fun hh => absurd hh (by omega)) (fun _ => Ok.some' (hQ3 _ (next _ U' v1 (fun y hy => ?_))))
          rw [v2 y hy]
          exact ⟨fun hh => hh.imp id (fun hh => ⟨hU, hh⟩), fun hh => hh.imp id (fun hh => hh.2)⟩
      · subst e
        have hU : ¬ U x.seq := fun hh => by have := hbx.2 hh; rw [this] at hv; cases hv
        exact next _ U u1 (fun y hy => ⟨.inl, fun hh => hh.elim id (fun hh => absurd hh.1 hU)⟩)
    · obtain rfl : k = -1 := by omega
      refine Ok.some' (hQ2 _ (Ok.some' (u1.congr fun x hx => ⟨u3 x hx, fun ha => ?_⟩)))
      have key : ∀ q, AncN l roots q → (∃ y, y ∈ l ∧ y.seq = q) ∧ U q := by
        intro q hq
        refine hq.least (U := fun q => (∃ y, y ∈ l ∧ y.seq = q) ∧ U q) (fun y hy => ?_) (fun p q hq hp => ?_)
        · obtain ⟨h1, z, hz, rfl⟩ := hy
          exact ⟨⟨z, hz, rfl⟩, u2 z hz h1⟩
        · obtain ⟨⟨y, hy, rfl⟩, hu⟩ := hq
          unfold parN at hp
          rw [h.find hy] at hp
          have hp : p ∈ y.parents := hp
          obtain ⟨z, hz, rfl, _⟩ := h.par y hy p hp
          obtain ⟨j, hj, hj2⟩ := List.mem_iff_getElem.1 hy
          exact ⟨⟨z, hz, rfl⟩, u4 j y (by omega) (by rw [List.getElem?_eq_getElem hj, hj2]) hu _ hp⟩
      exact (key _ ha).2
open Classical in
noncomputable def logN (l : List Node) (q : Int) : List Int := ((l.filter fun x => decide (AncN l [q] x.seq)).map (·.seq)).reverse
open Classical in
theorem logOf_ok {q : Int} (hn : 100000 ≤ n) (h : WN l) : m177 n l q = some (logN l q) := by
  have hlen := h.len
  refine Ok.eq ?_
  unfold m177
  refine Ok_ob1 ((reach_ok hn h (by simp)).mono (fun b hb => Ok_ob2 ?_))
  rw [wi_e (by omega) (by omega)]
  unfold m177_w1
  refine Ok_it2 (fun (z : List Int) (k : Int) => -1 ≤ k ∧ k < l.length ∧ z = (((l.drop (k + 1).toNat).filter fun x => decide (AncN l [q] x.seq)).map (·.seq)).reverse) (fun _ (k : Int) => (k + 1).toNat) ?_ n [] _ ⟨by omega, by omega, ?_⟩ (by show ((l.length : Int) - 1 + 1).toNat < n; omega)
  rotate_left
  · rw [List.drop_eq_nil_of_le (by omega)]; rfl
  rintro Q lp z k hQ ⟨i0, i1, rfl⟩ ih
  refine Ok_ite (fun hk => ?_) (fun hk => ?_)
  · obtain ⟨x, hx⟩ : ∃ x, l[k.toNat]? = some x := ⟨_, List.getElem?_eq_getElem (by omega)⟩
    have hd : l.drop k.toNat = x :: l.drop (k + 1).toNat := by
      have hlt : k.toNat < l.length := by omega
      rw [List.drop_eq_getElem_cons hlt, show (k + 1).toNat = k.toNat + 1 by omega]
      congr 1
      rw [List.getElem?_eq_getElem hlt] at hx; exact Option.some.inj hx
    have hbx := hb.get k.toNat x hx
    refine Ok_ix (by omega) (by rw [hb.len]; exact i1) (fun v hv => Ok_cond (fun e => ?_) (fun e => ?_))
    · subst e
      have hA := hbx.1 hv
      refine Ok_ix (by omega) i1 (fun y hy => ?_)
      obtain rfl : x = y := Option.some.inj (hx.symm.trans hy)
      refine Ok_apd ?_ ?_
      · rw [List.length_reverse, List.length_map]
        have := List.length_filter_le (fun x => decide (AncN l [q] x.seq)) (l.drop (k + 1).toNat)
        rw [List.length_drop] at this; omega
      · rw [wi_e (by omega) (by omega)]
        refine ih _ _ ⟨by omega, by omega, ?_⟩ (by omega)
        rw [show (k - 1 + 1).toNat = k.toNat by omega, hd, List.filter_cons, if_pos (by simpa using hA)]; simp
    · subst e
      have hA : ¬ AncN l [q] x.seq := fun hh => by have := hbx.2 hh; rw [this] at hv; cases hv
      rw [wi_e (by omega) (by omega)]
      refine ih _ _ ⟨by omega, by omega, ?_⟩ (by omega)
      rw [show (k - 1 + 1).toNat = k.toNat by omega, hd, List.filter_cons, if_neg (by simpa using hA)]
  · obtain rfl : k = -1 := by omega
    exact Ok.some' (hQ _ (Ok.some' rfl))
theorem baseOf_ok {a c : Int} (hn : 100000 ≤ n) (h : WN l) : Ok (m157 n l a c) (fun r => (r = 0 ∧ ∀ x, x ∈ l → ¬ (AncN l [a] x.seq ∧ AncN l [c] x.seq)) ∨ ∃ x, x ∈ l ∧ r = x.seq ∧ AncN l [a] x.seq ∧ AncN l [c] x.seq ∧ ∀ z, z ∈ l → AncN l [a] z.seq → AncN l [c] z.seq → z.seq ≤ x.seq) := by
  have hlen := h.len
  unfold m157
  refine Ok_ob1 ((reach_ok hn h (by simp)).mono (fun b hb => Ok_ob1 ((reach_ok hn h (by simp)).mono (fun b' hb' => Ok_flow ?_))))
  rw [wi_e (by omega) (by omega)]
  unfold m157_w1
  refine Ok_it1 (fun (k : Int) => -1 ≤ k ∧ k < l.length ∧ ∀ (j : Nat) x, k < j → l[j]? = some x → ¬ (AncN l [a] x.seq ∧ AncN l [c] x.seq)) (fun (k : Int) => (k + 1).toNat) ?_ n _ ⟨by omega, by omega, fun j x h1 h2 => ?_⟩ (by show ((l.length : Int) - 1 + 1).toNat < n; omega)
  rotate_left
  · have := (List.getElem?_eq_some_iff.1 h2).1; omega
  rintro Q lp k hQ ⟨i0, i1, i2⟩ ih
  refine Ok_ite (fun hk => ?_) (fun hk => ?_)
  · obtain ⟨x, hx⟩ : ∃ x, l[k.toNat]? = some x := ⟨_, List.getElem?_eq_getElem (by omega)⟩
    have hxm := List.mem_of_getElem? hx
    have g1 := hb.get k.toNat x hx
    have g2 := hb'.get k.toNat x hx
    have next : ¬ (AncN l [a] x.seq ∧ AncN l [c] x.seq) → Ok (lp (wi (k - 1))) Q := by
      intro hno
      rw [wi_e (by omega) (by omega)]
      refine ih _ ⟨by omega, by omega, fun j y hj hy => ?_⟩ (by omega)
      by_cases e : j = k.toNat
      · subst e; rw [hx] at hy; obtain rfl := Option.some.inj hy; exact hno
      · exact i2 j y (by omega) hy
    refine Ok_ob1 (Ok_ix (by omega) (by rw [hb.len]; exact i1) (fun v hv => Ok_cond (fun e => ?_) (fun e => ?_)))
    · subst e
      refine Ok_ix (by omega) (by rw [hb'.len]; exact i1) (fun v' hv' => Ok.some' (Ok_cond (fun e => ?_) (fun e => ?_)))
      · subst e
        refine Ok_ix (by omega) i1 (fun y hy => ?_)
        obtain rfl : x = y := Option.some.inj (hx.symm.trans hy)
        refine Ok_bs (Ok.some' (hQ _ (Ok.some' (.inr ⟨x, hxm, rfl, g1.1 hv, g2.1 hv', fun z hz z1 z2 => ?_⟩))))
        obtain ⟨j, hj, hj2⟩ := List.mem_iff_getElem.1 hz
        have hzg : l[j]? = some z := by rw [List.getElem?_eq_getElem hj, hj2]
        have hkl := List.getElem?_eq_some_iff.1 hx
        rcases Nat.lt_trichotomy j k.toNat with h1 | h1 | h1
        · have := List.pairwise_iff_getElem.1 h.srt j k.toNat hj hkl.1 h1; rw [hj2, hkl.2] at this; omega
        · subst h1; rw [hx] at hzg; obtain rfl := Option.some.inj hzg; omega
        · exact absurd ⟨z1, z2⟩ (i2 j z (by omega) hzg)
      · subst e
        exact next (fun hh => by have := g2.2 hh.2; rw [this] at hv'; cases hv')
    · subst e
      exact Ok.some' (Ok_cond (fun e => nomatch e) (fun _ => next (fun hh => by have := g1.2 hh.1; rw [this] at hv; cases hv)))
  · obtain rfl : k = -1 := by omega
    refine Ok.some' (hQ _ (Ok.some' (.inl ⟨rfl, fun x hx => ?_⟩)))
    obtain ⟨j, hj, hj2⟩ := List.mem_iff_getElem.1 hx
    exact i2 j x (by omega) (by rw [List.getElem?_eq_getElem hj, hj2])
open Classical in
theorem keep_ok {r : List Ref_} {hd : Head} (hn : 100000 ≤ n) (h : WN l) (hr : r.length ≤ 4) : m161 n l r hd = some (l.filter fun x => decide (AncN l (rootsN r hd) x.seq)) := by
  have hlen := h.len
  refine Ok.eq ?_
  unfold m161
  have hrl : (rootsN r hd).length ≤ 100 := by unfold rootsN; simp only [List.length_append, List.length_map]; split <;> split <;> simp <;> omega
  refine Ok_cl1 (roots_ok hn (by omega)) (Ok_ob1 ((reach_ok hn h hrl).mono (fun b hb => Ok_ob2 ?_)))
  unfold m161_w1
  refine Ok_pre2 l (by omega) hn (fun pre z => z = pre.filter fun x => decide (AncN l (rootsN r hd) x.seq)) rfl (fun Q lp z pre x rr hQ e hI hlt hget hw ih => ?_) (fun Q lp z hQ hI => ?_)
  · subst hI
    have hpl := pre_len e
    have hfl := List.length_filter_le (fun x => decide (AncN l (rootsN r hd) x.seq)) pre
    have hx : l[pre.length]? = some x := by rw [e, List.getElem?_append_right (Nat.le_refl _), Nat.sub_self]; rfl
    have hxm := List.mem_of_getElem? hx
    have hs := h.sh x hxm
    have hsf := hs.f
    have hsp := hs.p
    have hbx := hb.get pre.length x hx
    refine Ok_ite (fun _ => Ok_ix (by omega) (by rw [hb.len]; exact hlt) (fun v hv => ?_)) (fun hh => absurd hlt hh)
    rw [Int.toNat_natCast] at hv
    rw [hw]
    refine Ok_cond (fun e2 => ?_) (fun e2 => ?_)
    · subst e2
      have hA := hbx.1 hv
      refine Ok_ix (by omega) hlt (fun y hy => ?_)
      obtain rfl := hget y hy
      refine Ok_cl1 (copyNode_ok hn (by omega) (by omega)) (Ok_apd (by omega) (ih _ ?_))
      rw [List.filter_append]; simp [hA]
    · subst e2
      have hA : ¬ AncN l (rootsN r hd) x.seq := fun hh => by have := hbx.2 hh; rw [this] at hv; cases hv
      refine ih _ ?_
      rw [List.filter_append]; simp [hA]
  · exact Ok_ite (fun hh => absurd hh (by omega)) (fun _ => Ok.some' (hQ _ (Ok.some' hI)))
end
/-- sets of ids and sets of Seqs -/
theorem anc_bridge {ord : List Int} {K : Int → CI} {S : Int → Prop} {roots : List Int} (hps : ∀ i, i ∈ ord → ∀ p, p ∈ (K i).ps → p ∈ ord) (hinj : ∀ i j, i ∈ ord → j ∈ ord → (K i).seq = (K j).seq → i = j) (hS : ∀ i, S i → i ∈ ord)
    (hr : ∀ i, i ∈ ord → (S i ↔ (K i).seq ∈ roots)) (hw : WN (ord.map (nodeOf K))) : ∀ i, i ∈ ord → (Anc (fun i => (K i).ps) S i ↔ AncN (ord.map (nodeOf K)) roots (K i).seq) := by
  have hpar : ∀ i, i ∈ ord → parN (ord.map (nodeOf K)) (K i).seq = (K i).ps.map fun p => (K p).seq := by
    intro i hi
    unfold parN
    rw [show (K i).seq = (nodeOf K i).seq from rfl, hw.find (List.mem_map_of_mem hi)]; rfl
  intro i hi
  constructor
  · intro h
    have key : ∀ j, Anc (fun i => (K i).ps) S j → j ∈ ord ∧ AncN (ord.map (nodeOf K)) roots (K j).seq := by
      intro j hj
      refine hj.least (U := fun j => j ∈ ord ∧ AncN (ord.map (nodeOf K)) roots (K j).seq) (fun x hx => ⟨hS x hx, .base ⟨(hr x (hS x hx)).1 hx, nodeOf K x, List.mem_map_of_mem (hS x hx), rfl⟩⟩) (fun x y hy hxy => ?_)
      refine ⟨hps y hy.1 x hxy, .step hy.2 ?_⟩
      rw [hpar y hy.1]; exact List.mem_map_of_mem hxy
    exact (key i h).2
  · intro h
    have key : ∀ q, AncN (ord.map (nodeOf K)) roots q → ∃ j, j ∈ ord ∧ (K j).seq = q ∧ Anc (fun i => (K i).ps) S j := by
      intro q hq
      refine hq.least (U := fun q => ∃ j, j ∈ ord ∧ (K j).seq = q ∧ Anc (fun i => (K i).ps) S j) (fun y hy => ?_) (fun p q hq hp => ?_)
      · obtain ⟨h1, z, hz, rfl⟩ := hy
        obtain ⟨j, hj, rfl⟩ := List.mem_map.1 hz
        exact ⟨j, hj, rfl, .base ((hr j hj).2 h1)⟩
      · obtain ⟨j, hj, rfl, ha⟩ := hq
        rw [hpar j hj] at hp
        obtain ⟨p', hp', rfl⟩ := List.mem_map.1 hp
        exact ⟨p', hps j hj p' hp', rfl, .step ha hp'⟩
    obtain ⟨j, hj, he, ha⟩ := key _ h
    rw [hinj i j hi hj he.symm]; exact ha
end Go.Proofs.Qxb6500350aGreat
