/- PLAIN LAW: THE BYTES OF A TREE. -/
import Derived.Test.Qxb6500350aGreatK15
import Derived.Test.Qxb6500350aGreatT195
set_option linter.unusedVariables false
set_option linter.unusedSimpArgs false
set_option maxHeartbeats 1000000
namespace Go.Proofs.Qxb6500350aGreat
open Go.Eng Go
/-- the bytes of a row -/
def encL (r : Line) : List UInt8 := u8 (if r.dir then 1 else r.mode * 2) :: u8 r.id :: u8 r.name.length :: r.name
/-- a row that decodes to itself -/
structure Line.Ok (r : Line) : Prop where
  id0 : 1 ≤ r.id
  id1 : r.id ≤ 48
  n0 : 1 ≤ r.name.length
  n1 : r.name.length ≤ 180
  m0 : 0 ≤ r.mode
  m1 : r.mode ≤ 3
  dm : r.dir = true → r.mode = 0
theorem encL_len (r : Line) : (encL r).length = 3 + r.name.length := by simp [encL]; omega
theorem shr1 {x : Int} (h0 : 0 ≤ x) : Int.fdiv x (2 ^ (min (Int.toNat 1) (IntKind.bits .i64))) = x / 2 := by
  have : (2 : Int) ^ (min (Int.toNat 1) (IntKind.bits .i64)) = 2 := by decide
  rw [this, Int.fdiv_eq_ediv_of_nonneg _ (by omega)]
theorem and1 {x : Int} (h0 : 0 ≤ x) (h1 : x < 256) : bAnd .i64 x 1 = x % 2 := by
  rw [bAnd_i h0 (by omega) (by omega) (by omega), show (1 : Int).toNat = 1 from rfl, Nat.and_one_is_mod]
  omega
theorem rows_ok {n : Nat} {rs : List Line} (hn : 100000 ≤ n) (h : ∀ r, r ∈ rs → r.Ok) (hl : (rs.flatMap encL).length ≤ 1000) : m195 n (rs.flatMap encL) = some rs := by
  refine Ok.eq ?_
  unfold m195
  refine Ok_flow ?_
  unfold m195_w1
  generalize hD : rs.flatMap encL = D at hl
  refine Ok_it2 (fun (l : List Line) (p : Int) => 0 ≤ p ∧ p ≤ D.length ∧ ∃ r, rs = l ++ r ∧ D.drop p.toNat = r.flatMap encL) (fun _ (p : Int) => (D.length - p).toNat) ?_ n [] 0 ⟨by omega, by omega, rs, rfl, by simpa using hD.symm⟩ (by show ((D.length : Int) - 0).toNat < n; omega)
  rintro Q lp l p hQ ⟨i0, i1, r, rfl, e2⟩ ih
  have hlen : D.length - p.toNat = (r.flatMap encL).length := by rw [← e2, List.length_drop]
  refine Ok_ite (fun hp => ?_) (fun hp => ?_)
  · cases r with
    | nil => simp at hlen; omega
    | cons a r =>
      have ha := h a (by simp)
      rw [List.flatMap_cons, List.length_append, encL_len] at hlen
      have hget : ∀ (j : Nat) (k : Int), k = p + j → ∀ v, D[k.toNat]? = some v → (encL a ++ r.flatMap encL)[j]? = some v := by
        intro j k hk v hv
        rw [← List.flatMap_cons, ← e2, List.getElem?_drop, ← hv]
        congr 1; omega
      have hh : ∀ v, (encL a ++ r.flatMap encL)[0]? = some v → v = u8 (if a.dir then 1 else a.mode * 2) := fun v hv => by simp [encL] at hv; exact hv.symm
      have hi : ∀ v, (encL a ++ r.flatMap encL)[1]? = some v → v = u8 a.id := fun v hv => by simp [encL] at hv; exact hv.symm
      have hnm : ∀ v, (encL a ++ r.flatMap encL)[2]? = some v → v = u8 a.name.length := fun v hv => by simp [encL] at hv; exact hv.symm
      have a1 := ha.id0
      have a2 := ha.id1
      have a3 := ha.n0
      have a4 := ha.n1
      have a5 := ha.m0
      have a6 := ha.m1
      simp (disch := omega) only [wi_of]
      refine Ok_ite (fun h => by omega) (fun _ => ?_)
      refine Ok_ix (by omega) (by omega) (fun x1 hx1 => Ok_ix (by omega) (by omega) (fun x2 hx2 => Ok_ix (by omega) (by omega) (fun x3 hx3 => ?_)))
      obtain rfl := hh _ (hget 0 p (by omega) _ hx1)
      obtain rfl := hi _ (hget 1 (p + 1) (by omega) _ hx2)
      obtain rfl := hnm _ (hget 2 (p + 2) (by omega) _ hx3)
      have hhr : 0 ≤ (if a.dir then (1 : Int) else a.mode * 2) ∧ (if a.dir then (1 : Int) else a.mode * 2) ≤ 6 := by split <;> omega
      rw [u8_nat (by omega) (by omega), u8_nat (by omega) (by omega), u8_nat hhr.1 (by omega), shr1 hhr.1, and1 hhr.1 (by omega)]
      have hb1 : ((((decide ((a.name.length : Int) < 1)) || (decide ((D.length : Int) - p - 3 < (a.name.length : Int)))) || (decide (a.id < 1))) || (decide ((48 : Int) < a.id))) = false := by
        rw [decide_eq_false (by omega), decide_eq_false (by omega), decide_eq_false (by omega), decide_eq_false (by omega)]; rfl
      rw [hb1]
      refine Ok_cond (fun h => nomatch h) (fun _ => Ok_cond (fun hb => ?_) (fun _ => ?_))
      · exfalso
        simp only [Bool.and_eq_true, Bool.or_eq_true, decide_eq_true_eq] at hb
        split at hb <;> omega
      · simp (disch := omega) only [wi_of]
        refine Ok_sl (by omega) (by omega) (by omega) (Ok_apd ?_ ?_)
        · have : ∀ q : List Line, q.length ≤ (q.flatMap encL).length := by
            intro q
            induction q with
            | nil => simp
            | cons b q ih => rw [List.flatMap_cons, List.length_append, encL_len, List.length_cons]; omega
          have h2 := this (l ++ a :: r)
          rw [hD] at h2
          simp at h2
          omega
        · have hline : ({ dir := decide ((if a.dir then (1 : Int) else a.mode * 2) = 1), mode := (if a.dir then (1 : Int) else a.mode * 2) / 2, id := a.id, name := (D.drop (p + 3).toNat).take ((p + 3 + (a.name.length : Int)).toNat - (p + 3).toNat) } : Line) = a := by
            have hname : (D.drop (p + 3).toNat).take ((p + 3 + (a.name.length : Int)).toNat - (p + 3).toNat) = a.name := by
              rw [show (p + 3).toNat = p.toNat + 3 by omega, ← List.drop_drop, e2, List.flatMap_cons]
              show ((a.name ++ r.flatMap encL)).take _ = _
              rw [show (p + 3 + (a.name.length : Int)).toNat - (p.toNat + 3) = a.name.length by omega, List.take_left']
              rfl
            rw [hname]
            obtain ⟨dir, mode, id, name⟩ := a
            cases dir with
            | true =>
              have := ha.dm rfl
              simp only at this
              subst this
              rfl
            | false =>
              simp only [Bool.false_eq_true, if_false]
              congr 1
              · exact decide_eq_false (by omega)
              · omega
          rw [hline]
          refine ih _ _ ⟨by omega, by omega, r, by simp, ?_⟩ (by omega)
          rw [show (p + (3 + (a.name.length : Int))).toNat = p.toNat + (encL a).length by rw [encL_len]; omega, ← List.drop_drop, e2, List.flatMap_cons, List.drop_left']
          rfl
  · have hr : r = [] := by
      cases r with
      | nil => rfl
      | cons a r => rw [List.flatMap_cons, List.length_append, encL_len] at hlen; omega
    subst hr
    refine Ok.some' (hQ _ (Ok.some' ?_))
    simp
end Go.Proofs.Qxb6500350aGreat
