/- PLAIN LAW: DIFF (6): MERGE. -/
import Derived.Test.Qxb6500350aGreatK63
import Derived.Test.Qxb6500350aGreatT228
import Derived.Test.Qxb6500350aGreatT233
set_option linter.unusedVariables false
set_option linter.unusedSimpArgs false
set_option maxHeartbeats 2000000
namespace Go.Proofs.Qxb6500350aGreat
open Go.Eng Go
/-- a text that ends with its line -/
def clS (s : Str) : Str := if s.getLast? = none ∨ s.getLast? = some 10 then s else s ++ [10]
def mk1 : Str := [60, 60, 60, 60, 60, 60, 60, 10]
def mk2 : Str := [61, 61, 61, 61, 61, 61, 61, 10]
def mk3 : Str := [62, 62, 62, 62, 62, 62, 62, 10]
/-- what stands between two lines that all three share -/
def pieceP (b o t : List Str) : Str × Int :=
  if o = b then (t.flatten, 0) else if t = b then (o.flatten, 0) else if o = t then (o.flatten, 0) else (mk1 ++ clS o.flatten ++ mk2 ++ clS t.flatten ++ mk3, 1)
theorem clS_len (s : Str) : s.length ≤ (clS s).length ∧ (clS s).length ≤ s.length + 1 := by unfold clS; split <;> simp
theorem pieceP_len (b o t : List Str) : (pieceP b o t).1.length ≤ o.flatten.length + t.flatten.length + 30 ∧ 0 ≤ (pieceP b o t).2 ∧ (pieceP b o t).2 ≤ 1 := by
  unfold pieceP
  have h1 := clS_len o.flatten
  have h2 := clS_len t.flatten
  split
  · exact ⟨by show t.flatten.length ≤ _; omega, by show (0 : Int) ≤ 0; decide, by show (0 : Int) ≤ 1; decide⟩
  split
  · exact ⟨by show o.flatten.length ≤ _; omega, by show (0 : Int) ≤ 0; decide, by show (0 : Int) ≤ 1; decide⟩
  split
  · exact ⟨by show o.flatten.length ≤ _; omega, by show (0 : Int) ≤ 0; decide, by show (0 : Int) ≤ 1; decide⟩
  · refine ⟨?_, by show (0 : Int) ≤ 1; decide, by show (1 : Int) ≤ 1; decide⟩
    show (mk1 ++ clS o.flatten ++ mk2 ++ clS t.flatten ++ mk3).length ≤ _
    have e1 : mk1.length = 8 := rfl
    have e2 : mk2.length = 8 := rfl
    have e3 : mk3.length = 8 := rfl
    simp only [List.length_append, e1, e2, e3]
    omega
section
variable {n : Nat}
theorem sameLines_ok {a b : List Str} (hn : 100000 ≤ n) (ha : a.length < 100000) : m187 n a b = some (decide (a = b)) := by
  refine Ok.eq ?_
  unfold m187
  refine Ok_ite (fun h => Ok.some' ?_) (fun h => Ok_flow ?_)
  · rw [decide_eq_false (fun e => h (by rw [e]))]
  have hl : a.length = b.length := by omega
  unfold m187_w1
  refine Ok_it1 (fun (c : Int) => ∃ i : Nat, c = i ∧ i ≤ a.length ∧ ∀ j, j < i → a[j]? = b[j]?) (fun (c : Int) => ((a.length : Int) - c).toNat) ?_ n 0 ⟨0, rfl, by omega, fun j hj => by omega⟩ (by show ((a.length : Int) - 0).toNat < n; omega)
  rintro Q lp c hQ ⟨i, rfl, h1, h2⟩ ih
  refine Ok_ite (fun hlt => Ok_ix (by omega) hlt (fun x hx => Ok_ix (by omega) (by omega) (fun y hy => ?_))) (fun hge => Ok.some' (hQ _ ?_))
  · rw [Int.toNat_natCast] at hx hy
    rw [wi_e (x := (i : Int) + 1) (by omega) (by omega)]
    refine Ok_iteN (fun e => ?_) (fun e => ?_)
    · have e := of_decide_eq_false e
      refine Ok_bs (Ok.some' (hQ _ (Ok.some' ?_)))
      rw [decide_eq_false (fun e2 => e (by rw [e2, hy] at hx; exact (Option.some.inj hx).symm))]
    · have e := of_decide_eq_true e
      subst e
      refine ih _ ⟨i + 1, by omega, by omega, fun j hj => ?_⟩ (by omega)
      by_cases ej : j = i
      · subst ej; rw [hx, hy]
      · exact h2 j (by omega)
  · refine Ok.some' ?_
    rw [decide_eq_true]
    refine List.ext_getElem? (fun j => ?_)
    by_cases hj : j < a.length
    · exact h2 j (by omega)
    · rw [List.getElem?_eq_none (by omega), List.getElem?_eq_none (by omega)]
theorem cutL_eq_iff {x y : List Int} {p q r s : Nat} (h1 : q ≤ x.length) (h2 : s ≤ y.length) (hp : p ≤ q) (hr : r ≤ s) (hl : q - p = s - r) (h : ∀ j, j < q - p → x[p + j]? = y[r + j]?) : cutL x p q = cutL y r s := by
  refine List.ext_getElem? (fun j => ?_)
  unfold cutL
  by_cases hj : j < q - p
  · rw [List.getElem?_take_of_lt hj, List.getElem?_take_of_lt (by omega), List.getElem?_drop, List.getElem?_drop, h j hj]
  · rw [List.getElem?_eq_none (by rw [List.length_take]; omega), List.getElem?_eq_none (by rw [List.length_take]; omega)]
theorem cutL_get {α : Type} {x : List α} {p q j : Nat} (hj : j < q - p) : (cutL x p q)[j]? = x[p + j]? := by
  unfold cutL; rw [List.getElem?_take_of_lt hj, List.getElem?_drop]
theorem same_ok {x y : List Int} {p q r s : Nat} (hn : 100000 ≤ n) (hx : x.length ≤ 10000) (hy : y.length ≤ 10000) (h1 : q ≤ x.length) (h2 : s ≤ y.length) (hp : p ≤ q) (hr : r ≤ s) : m307 n x p q y r s = some (decide (cutL x p q = cutL y r s)) := by
  refine Ok.eq ?_
  unfold m307
  rw [wi_e (x := (q : Int) - p) (by omega) (by omega), wi_e (x := (s : Int) - r) (by omega) (by omega)]
  have l1 := cutL_len (l := x) (p := p) h1
  have l2 := cutL_len (l := y) (p := r) h2
  refine Ok_ite (fun h => Ok.some' ?_) (fun h => Ok_flow ?_)
  · rw [decide_eq_false (fun e => h (by rw [e] at l1; omega))]
  unfold m307_w1
  rw [wi_e (x := (q : Int) - p) (by omega) (by omega)]
  refine Ok_it1 (fun (c : Int) => ∃ i : Nat, c = i ∧ i ≤ q - p ∧ ∀ j, j < i → x[p + j]? = y[r + j]?) (fun (c : Int) => ((q : Int) - p - c).toNat) ?_ n 0 ⟨0, rfl, by omega, fun j hj => by omega⟩ (by show ((q : Int) - p - 0).toNat < n; omega)
  rintro Q lp c hQ ⟨i, rfl, g1, g2⟩ ih
  refine Ok_ite (fun hlt => ?_) (fun hge => Ok.some' (hQ _ ?_))
  · rw [wi_e (x := (i : Int) + 1) (by omega) (by omega), wi_e (x := (p : Int) + i) (by omega) (by omega), wi_e (x := (r : Int) + i) (by omega) (by omega)]
    refine Ok_ix (by omega) (by omega) (fun u hu => Ok_ix (by omega) (by omega) (fun v hv => ?_))
    rw [show ((p : Int) + i).toNat = p + i by omega] at hu
    rw [show ((r : Int) + i).toNat = r + i by omega] at hv
    refine Ok_ite (fun e => ?_) (fun e => ?_)
    · refine Ok_bs (Ok.some' (hQ _ (Ok.some' ?_)))
      rw [decide_eq_false (fun e2 => e ?_)]
      have h3 := cutL_get (x := x) (p := p) (q := q) (j := i) (by omega)
      have h4 := cutL_get (x := y) (p := r) (q := s) (j := i) (by omega)
      rw [e2, h4, hu, hv] at h3
      exact (Option.some.inj h3).symm
    · have e : u = v := Classical.byContradiction e
      subst e
      refine ih _ ⟨i + 1, by omega, by omega, fun j hj => ?_⟩ (by omega)
      by_cases ej : j = i
      · subst ej; rw [hu, hv]
      · exact g2 j (by omega)
  · refine Ok.some' ?_
    rw [decide_eq_true]
    exact cutL_eq_iff h1 h2 hp hr (by omega) (fun j hj => g2 j (by omega))
theorem NumOf.cut {L a : List Str} {x : List Int} {p q : Nat} (h : NumOf L a x) : NumOf L (cutL a p q) (cutL x p q) := by
  refine ⟨?_, fun i s hi => ?_⟩
  · unfold cutL; rw [List.length_take, List.length_take, List.length_drop, List.length_drop, h.len]
  · by_cases hj : i < q - p
    · rw [cutL_get hj] at hi ⊢; exact h.get _ s hi
    · rw [List.getElem?_eq_none (by unfold cutL; rw [List.length_take]; omega)] at hi; cases hi
theorem NumOf.inj {L a b : List Str} {x y : List Int} (hL : ∀ (j k : Nat) s, L[j]? = some s → L[k]? = some s → j = k) (h : NumOf L a x) (k : NumOf L b y) : x = y ↔ a = b := by
  constructor
  · rintro rfl
    refine List.ext_getElem? (fun i => ?_)
    have hl : a.length = b.length := by rw [← h.len, ← k.len]
    cases ha : a[i]? with
    | none => rw [List.getElem?_eq_none_iff] at ha; rw [List.getElem?_eq_none (by omega)]
    | some s =>
      obtain ⟨p, h1, h2⟩ := h.get i s ha
      have hi := (List.getElem?_eq_some_iff.1 ha).1
      obtain ⟨t, ht⟩ : ∃ t, b[i]? = some t := ⟨_, List.getElem?_eq_getElem (by omega)⟩
      obtain ⟨q, h3, h4⟩ := k.get i t ht
      rw [h1] at h3
      have : p = q := by have := Option.some.inj h3; omega
      subst this
      rw [ht, ← h4, h2]
  · rintro rfl
    refine List.ext_getElem? (fun i => ?_)
    cases ha : a[i]? with
    | none =>
      rw [List.getElem?_eq_none_iff] at ha
      rw [List.getElem?_eq_none (by rw [h.len]; exact ha), List.getElem?_eq_none (by rw [k.len]; exact ha)]
    | some s =>
      obtain ⟨p, h1, h2⟩ := h.get i s ha
      obtain ⟨q, h3, h4⟩ := k.get i s ha
      rw [h1, h3, hL p q s h2 h4]
theorem join_ok {l : List Str} (hn : 100000 ≤ n) (hl : l.length < 100000) (hf : l.flatten.length < 100000000) : m310 n l = some l.flatten := by
  refine Ok.eq ?_
  unfold m310
  refine Ok_ob2 ?_
  unfold m310_w1
  refine Ok_pre2 l hl hn (fun pre s => s = pre.flatten) rfl (fun Q lp b pre x r hQ e hI hlt hget hw ih => ?_) (fun Q lp b hQ hI => ?_)
  · subst hI
    refine Ok_ite (fun _ => Ok_ix (by omega) hlt (fun y hy => ?_)) (fun h => absurd hlt h)
    obtain rfl := hget y hy
    have : l.flatten.length = pre.flatten.length + (x.length + r.flatten.length) := by rw [e]; simp
    refine Ok_sAdd (by omega) ?_
    rw [hw]; exact ih _ (by simp)
  · exact Ok_ite (fun h => absurd h (by omega)) (fun _ => Ok.some' (hQ _ (Ok.some' hI)))
theorem last_get {s : Str} {x : UInt8} (h : 0 < s.length) (hx : s[s.length - 1]? = some x) : s.getLast? = some x := by
  rw [List.getLast?_eq_getElem?]; exact hx
theorem closed_ok {l : List Str} (hn : 100000 ≤ n) (hl : l.length < 100000) (hf : l.flatten.length < 100000000) : m311 n l = some (clS l.flatten) := by
  refine Ok.eq ?_
  unfold m311
  refine Ok_cl1 (join_ok hn hl hf) (Ok_ob1 ?_)
  generalize l.flatten = s at hf ⊢
  unfold clS
  refine Ok_ite (fun h => ?_) (fun h => Ok.some' ?_)
  · rw [wi_e (x := (s.length : Int) - 1) (by omega) (by omega)]
    refine Ok_sIx (by omega) (by omega) (fun x hx => Ok.some' ?_)
    rw [show ((s.length : Int) - 1).toNat = s.length - 1 by omega] at hx
    have hg := last_get (by omega) hx
    rw [hg]
    refine Ok_ite (fun e => Ok_sAdd (by show s.length + 1 ≤ _; omega) (Ok.some' ?_)) (fun e => Ok.some' ?_)
    · rw [if_neg]
      rintro (e2 | e2)
      · cases e2
      · obtain rfl := Option.some.inj e2; exact e rfl
    · have e : (x.toNat : Int) = 10 := Classical.byContradiction e
      have : x = 10 := UInt8.toNat_inj.1 (by show x.toNat = 10; omega)
      rw [if_pos (.inr (by rw [this]))]
  · have : s = [] := List.eq_nil_of_length_eq_zero (by omega)
    subst this
    exact Ok_cond (fun e => nomatch e) (fun _ => Ok.some' rfl)
theorem piece_ok {b o t : List Str} (hn : 100000 ≤ n) (hb : b.length < 100000) (ho : o.length < 100000) (ht : t.length < 100000) (hfo : o.flatten.length < 1000000) (hft : t.flatten.length < 1000000) : m282 n b o t = some (pieceP b o t) := by
  refine Ok.eq ?_
  unfold m282 pieceP
  have h1 := clS_len o.flatten
  have h2 := clS_len t.flatten
  refine Ok_cl1 (sameLines_ok hn ho) (Ok_ite (fun e => ?_) (fun e => ?_))
  · rw [if_pos e]; exact Ok_cl1 (join_ok hn ht (by omega)) (Ok.some' rfl)
  rw [if_neg e]
  refine Ok_cl1 (sameLines_ok hn ht) (Ok_ite (fun e => ?_) (fun e => ?_))
  · rw [if_pos e]; exact Ok_cl1 (join_ok hn ho (by omega)) (Ok.some' rfl)
  rw [if_neg e]
  refine Ok_cl1 (sameLines_ok hn ho) (Ok_ite (fun e => ?_) (fun e => ?_))
  · rw [if_pos e]; exact Ok_cl1 (join_ok hn ho (by omega)) (Ok.some' rfl)
  rw [if_neg e]
  refine Ok_cl1 (closed_ok hn ho (by omega)) (Ok_cl1 (closed_ok hn ht (by omega)) ?_)
  refine Ok_sAdd (by simp; omega) (Ok_sAdd (by simp; omega) (Ok_sAdd (by simp; omega) (Ok_sAdd (by simp; omega) (Ok.some' rfl))))
theorem add_ok {out : List UInt8} {s : Str} (h1 : out.length < 268435456) (h2 : s.length < 268435456) : m281 n out s = some (out ++ s) := by
  refine Ok.eq ?_
  unfold m281
  exact Ok_apds (by simp) h2 (Ok_apds h1 (by simpa using h2) (Ok.some' (by simp)))
theorem flatten_cut_le {l : List Str} {p q : Nat} : (cutL l p q).flatten.length ≤ l.flatten.length := by
  have h1 : l.flatten.length = (l.take p).flatten.length + (l.drop p).flatten.length := by
    rw [← List.length_append, ← List.flatten_append, List.take_append_drop]
  have h2 : (l.drop p).flatten.length = (cutL l p q).flatten.length + ((l.drop p).drop (q - p)).flatten.length := by
    unfold cutL
    rw [← List.length_append, ← List.flatten_append, List.take_append_drop]
  omega
theorem addAll_ok {out : List UInt8} {l : List Str} {p q : Nat} (hn : 100000 ≤ n) (hp : p ≤ q) (hq : q ≤ l.length) (hl : l.length ≤ 10000) (h1 : out.length < 100000000) (h2 : l.flatten.length < 100000000) : m308 n out l p q = some (out ++ (cutL l p q).flatten) := by
  refine Ok.eq ?_
  unfold m308
  refine Ok_ob2 ?_
  unfold m308_w1
  refine Ok_it2 (fun (b : List UInt8) (c : Int) => ∃ i : Nat, c = i ∧ p ≤ i ∧ i ≤ q ∧ b = out ++ (cutL l p i).flatten) (fun _ (c : Int) => ((q : Int) - c).toNat) ?_ n out p ⟨p, rfl, by omega, hp, by rw [cutL_self]; simp⟩ (by show ((q : Int) - p).toNat < n; omega)
  rintro Q lp b c hQ ⟨i, rfl, g1, g2, rfl⟩ ih
  refine Ok_ite (fun hlt => Ok_ix (by omega) (by omega) (fun x hx => ?_)) (fun hge => Ok.some' (hQ _ (Ok.some' ?_)))
  · rw [Int.toNat_natCast] at hx
    have hc := flatten_cut_le (l := l) (p := p) (q := i)
    have hxl : x.length ≤ l.flatten.length := List.Sublist.length_le (List.sublist_flatten_of_mem (List.mem_of_getElem? hx))
    rw [wi_e (x := (i : Int) + 1) (by omega) (by omega)]
    refine Ok_cl1 (add_ok (by rw [List.length_append]; omega) (by omega)) (ih _ _ ⟨i + 1, by omega, by omega, by omega, ?_⟩ (by omega))
    rw [← cutL_snoc g1 hx]; simp
  · have : i = q := by omega
    subst this; rfl
theorem closedA_ok {out : List UInt8} {l : List Str} {p q : Nat} (hn : 100000 ≤ n) (hp : p ≤ q) (hq : q ≤ l.length) (hl : l.length ≤ 10000) (h1 : out.length < 100000000) (h2 : l.flatten.length < 100000000) (hne : ∀ x, x ∈ l → x ≠ []) : m309 n out l p q = some (out ++ clS (cutL l p q).flatten) := by
  refine Ok.eq ?_
  unfold m309
  have hc := flatten_cut_le (l := l) (p := p) (q := q)
  refine Ok_cl1 (addAll_ok hn hp hq hl h1 h2) (Ok_ite (fun hlt => ?_) (fun hge => Ok.some' ?_))
  · rw [wi_e (x := (q : Int) - 1) (by omega) (by omega)]
    refine Ok_ix (by omega) (by omega) (fun x hx => Ok_ob1 ?_)
    rw [show ((q : Int) - 1).toNat = q - 1 by omega] at hx
    have hx0 := hne x (List.mem_of_getElem? hx)
    have hxl : 0 < x.length := List.length_pos_iff.2 hx0
    have hxl2 : x.length ≤ l.flatten.length := List.Sublist.length_le (List.sublist_flatten_of_mem (List.mem_of_getElem? hx))
    refine Ok_ite (fun _ => ?_) (fun h => absurd h (by omega))
    rw [wi_e (x := (x.length : Int) - 1) (by omega) (by omega)]
    refine Ok_sIx (by omega) (by omega) (fun y hy => Ok.some' ?_)
    rw [show ((x.length : Int) - 1).toNat = x.length - 1 by omega] at hy
    have hcut : (cutL l p q).flatten = (cutL l p (q - 1)).flatten ++ x := by
      have := cutL_snoc (l := l) (p := p) (q := q - 1) (by omega) hx
      rw [show q - 1 + 1 = q by omega] at this
      rw [← this]; simp
    have hg : (cutL l p q).flatten.getLast? = some y := by
      rw [hcut, List.getLast?_append, last_get hxl hy]; rfl
    unfold clS
    rw [hg]
    refine Ok_ite (fun e => Ok_apd (by rw [List.length_append]; omega) (Ok.some' ?_)) (fun e => Ok.some' ?_)
    · rw [if_neg]
      · rw [List.append_assoc]
      · rintro (e2 | e2)
        · cases e2
        · obtain rfl := Option.some.inj e2; exact e rfl
    · have e : (y.toNat : Int) = 10 := Classical.byContradiction e
      have : y = 10 := UInt8.toNat_inj.1 (by show y.toNat = 10; omega)
      rw [if_pos (.inr (by rw [this]))]
  · have : p = q := by omega
    subst this
    rw [cutL_self]; rfl
/-- the three texts as the merge holds them -/
structure TX (tx : Texts) (L B O T : List Str) : Prop where
  b : tx.b = B
  o : tx.o = O
  t : tx.t = T
  nb : NumOf L B tx.nb
  no : NumOf L O tx.no
  nt : NumOf L T tx.nt
  nd : ∀ (j k : Nat) s, L[j]? = some s → L[k]? = some s → j = k
  lb : B.length ≤ 1024
  lo : O.length ≤ 1024
  lt : T.length ≤ 1024
  fo : O.flatten.length ≤ 1024
  ft : T.flatten.length ≤ 1024
  neo : ∀ x, x ∈ O → x ≠ []
  net : ∀ x, x ∈ T → x ≠ []
theorem pieceA_ok {tx : Texts} {L B O T : List Str} {out : List UInt8} {b0 b1 o0 o1 t0 t1 : Nat} (hn : 100000 ≤ n) (h : TX tx L B O T) (hb : b0 ≤ b1) (hb1 : b1 ≤ B.length) (ho : o0 ≤ o1) (ho1 : o1 ≤ O.length) (ht : t0 ≤ t1) (ht1 : t1 ≤ T.length) (hout : out.length < 50000000) :
    m280 n tx out b0 b1 o0 o1 t0 t1 = some (out ++ (pieceP (cutL B b0 b1) (cutL O o0 o1) (cutL T t0 t1)).1, (pieceP (cutL B b0 b1) (cutL O o0 o1) (cutL T t0 t1)).2) := by
  refine Ok.eq ?_
  unfold m280 pieceP
  rw [h.o, h.t]
  have lb := h.nb.len
  have lo := h.no.len
  have lt := h.nt.len
  have h1 := h.lb
  have h2 := h.lo
  have h3 := h.lt
  have h4 := h.fo
  have h5 := h.ft
  have c1 := flatten_cut_le (l := O) (p := o0) (q := o1)
  have c2 := flatten_cut_le (l := T) (p := t0) (q := t1)
  have d1 := clS_len (cutL O o0 o1).flatten
  have d2 := clS_len (cutL T t0 t1).flatten
  refine Ok_cl1 (same_ok hn (by omega) (by omega) (by omega) (by omega) ho hb) (Ok_ite (fun e => ?_) (fun e => ?_))
  · rw [if_pos (((h.no.cut).inj h.nd h.nb.cut).1 e)]
    exact Ok_cl1 (addAll_ok hn ht ht1 (by omega) (by omega) (by omega)) (Ok.some' rfl)
  rw [if_neg (fun e2 => e (((h.no.cut).inj h.nd h.nb.cut).2 e2))]
  refine Ok_cl1 (same_ok hn (by omega) (by omega) (by omega) (by omega) ht hb) (Ok_ite (fun e => ?_) (fun e => ?_))
  · rw [if_pos (((h.nt.cut).inj h.nd h.nb.cut).1 e)]
    exact Ok_cl1 (addAll_ok hn ho ho1 (by omega) (by omega) (by omega)) (Ok.some' rfl)
  rw [if_neg (fun e2 => e (((h.nt.cut).inj h.nd h.nb.cut).2 e2))]
  refine Ok_cl1 (same_ok hn (by omega) (by omega) (by omega) (by omega) ho ht) (Ok_ite (fun e => ?_) (fun e => ?_))
  · rw [if_pos (((h.no.cut).inj h.nd h.nt.cut).1 e)]
    exact Ok_cl1 (addAll_ok hn ho ho1 (by omega) (by omega) (by omega)) (Ok.some' rfl)
  rw [if_neg (fun e2 => e (((h.no.cut).inj h.nd h.nt.cut).2 e2))]
  refine Ok_cl1 (add_ok (by omega) (by simp)) (Ok_cl1 (closedA_ok hn ho ho1 (by omega) (by simp; omega) (by omega) h.neo) ?_)
  refine Ok_cl1 (add_ok (by simp; omega) (by simp)) (Ok_cl1 (closedA_ok hn ht ht1 (by omega) (by simp; omega) (by omega) h.net) ?_)
  refine Ok_cl1 (add_ok (by simp; omega) (by simp)) (Ok.some' ?_)
  show (_, _) = (_, _)
  simp only [mk1, mk2, mk3, List.append_assoc]
end
end Go.Proofs.Qxb6500350aGreat
