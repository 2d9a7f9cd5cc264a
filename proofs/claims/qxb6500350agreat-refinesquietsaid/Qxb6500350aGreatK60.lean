/- PLAIN LAW: DIFF (2): THE FLAT TABLE; THE WALK THROUGH IT. -/
import Derived.Test.Qxb6500350aGreatK59
import Derived.Test.Qxb6500350aGreatT257
import Derived.Test.Qxb6500350aGreatT255
set_option linter.unusedVariables false
set_option linter.unusedSimpArgs false
set_option maxHeartbeats 2000000
namespace Go.Proofs.Qxb6500350aGreat
open Go.Eng Go
theorem cell_lt {i j na nb : Nat} (hi : i ≤ na) (hj : j ≤ nb) : i * (nb + 1) + j < (na + 1) * (nb + 1) := by
  have : i * (nb + 1) ≤ na * (nb + 1) := Nat.mul_le_mul_right _ hi
  have h2 : (na + 1) * (nb + 1) = na * (nb + 1) + (nb + 1) := Nat.succ_mul _ _
  omega
theorem cell_inj {i j k m nb : Nat} (hj : j ≤ nb) (hm : m ≤ nb) (h : i * (nb + 1) + j = k * (nb + 1) + m) : i = k ∧ j = m := by
  have h1 : (i * (nb + 1) + j) / (nb + 1) = i := by rw [Nat.add_comm, Nat.add_mul_div_right _ _ (by omega), Nat.div_eq_of_lt (by omega), Nat.zero_add]
  have h2 : (k * (nb + 1) + m) / (nb + 1) = k := by rw [Nat.add_comm, Nat.add_mul_div_right _ _ (by omega), Nat.div_eq_of_lt (by omega), Nat.zero_add]
  have : i = k := by rw [← h1, ← h2, h]
  subst this
  exact ⟨rfl, by omega⟩
theorem cell_big {na nb : Nat} (ha : na ≤ 1024) (hb : nb ≤ 1024) : (na + 1) * (nb + 1) ≤ 1050625 := by
  have : (na + 1) * (nb + 1) ≤ 1025 * 1025 := Nat.mul_le_mul (by omega) (by omega)
  omega
structure Flat2 (t : Tabl) (na nb : Nat) (f : Nat → Nat → Int) : Prop where
  w : t.w = nb + 1
  len : t.flat.length = (na + 1) * (nb + 1)
  get : ∀ i j : Nat, i ≤ na → j ≤ nb → t.flat[i * (nb + 1) + j]? = some (f i j)
section
variable {n na nb : Nat} {t : Tabl} {f : Nat → Nat → Int} {i j : Nat}
theorem cell_int (hi : i ≤ na) (hj : j ≤ nb) (ha : na ≤ 1024) (hb : nb ≤ 1024) (hw : t.w = nb + 1) : wi (wi ((i : Int) * t.w) + j) = ((i * (nb + 1) + j : Nat) : Int) := by
  have h1 := cell_lt hi hj
  have h2 := cell_big ha hb
  have h3 : (i : Int) * t.w = ((i * (nb + 1) : Nat) : Int) := by rw [hw]; push_cast; rfl
  rw [h3, wi_e (x := ((i * (nb + 1) : Nat) : Int)) (by omega) (by omega), wi_e (by omega) (by omega)]
  omega
theorem tat_ok (h : Flat2 t na nb f) (hi : i ≤ na) (hj : j ≤ nb) (ha : na ≤ 1024) (hb : nb ≤ 1024) : m292 n t i j = some (f i j) := by
  refine Ok.eq ?_
  unfold m292
  rw [cell_int hi hj ha hb h.w]
  have h1 := cell_lt hi hj
  refine Ok_ix (by omega) (by rw [h.len]; omega) (fun x hx => Ok.some' ?_)
  rw [Int.toNat_natCast, h.get i j hi hj] at hx
  exact (Option.some.inj hx).symm
theorem tset_ok {v : Int} (h : Flat2 t na nb f) (hi : i ≤ na) (hj : j ≤ nb) (ha : na ≤ 1024) (hb : nb ≤ 1024) : ∃ t', m318 n t i j v = some t' ∧ Flat2 t' na nb (upd2 f i j v) := by
  suffices Ok (m318 n t i j v) (fun t' => Flat2 t' na nb (upd2 f i j v)) from this
  unfold m318
  rw [cell_int hi hj ha hb h.w]
  have h1 := cell_lt hi hj
  refine Ok_ck (by omega) (by rw [h.len]; omega) (Ok_st (by omega) (by rw [h.len]; omega) (Ok_nm (Ok.some' ⟨h.w, ?_, fun i' j' hi' hj' => ?_⟩)))
  · show (t.flat.set _ _).length = _
    rw [List.length_set, h.len]
  · show (t.flat.set _ _)[_]? = _
    rw [Int.toNat_natCast]
    by_cases e : i' = i ∧ j' = j
    · obtain ⟨rfl, rfl⟩ := e
      rw [upd2_hit, List.getElem?_set_self (by rw [h.len]; omega)]
    · rw [upd2_ne e, List.getElem?_set_ne (fun x => e (by have := cell_inj hj hj' x; exact ⟨this.1.symm, this.2.symm⟩)), h.get i' j' hi' hj']
end
theorem blank_ok {n na nb : Nat} (ha : na ≤ 1024) (hb : nb ≤ 1024) : ∃ t, m317 n na nb = some t ∧ Flat2 t na nb (fun _ _ => 0) := by
  suffices Ok (m317 n na nb) (fun t => Flat2 t na nb (fun _ _ => 0)) from this
  unfold m317
  have h2 := cell_big ha hb
  have h3 : ((na : Int) + 1) * ((nb : Int) + 1) = (((na + 1) * (nb + 1) : Nat) : Int) := by push_cast; rfl
  rw [wi_e (x := (na : Int) + 1) (by omega) (by omega), wi_e (x := (nb : Int) + 1) (by omega) (by omega), h3, wi_e (by omega) (by omega)]
  refine Ok_mk (by omega) (by omega) (by omega) (Ok_nm (Ok.some' ⟨rfl, ?_, fun i j hi hj => ?_⟩))
  · show (List.replicate _ _).length = _
    rw [List.length_replicate]; omega
  · show (List.replicate _ _)[_]? = _
    have := cell_lt hi hj
    rw [List.getElem?_replicate, if_pos (by omega)]
theorem suf_ok {n : Nat} {x y : List Int} (hn : 100000 ≤ n) (ha : x.length ≤ 1024) (hb : y.length ≤ 1024) :
    ∃ t, m291 n x y = some t ∧ Flat2 t x.length y.length (fun i j => if i ≤ x.length ∧ j ≤ y.length then LC (eqE x y) x.length y.length i j else 0) := by
  suffices Ok (m291 n x y) (fun t => Flat2 t x.length y.length (fun i j => if i ≤ x.length ∧ j ≤ y.length then LC (eqE x y) x.length y.length i j else 0)) from this
  unfold m291
  obtain ⟨t0, hb0, hF0⟩ := blank_ok (n := n) ha hb
  refine Ok_cl1 hb0 (Ok_ob2 ?_)
  unfold m291_w1
  rw [wi_e (x := (x.length : Int) - 1) (by omega) (by omega)]
  refine Ok_it2 (fun (p : Int) (t : Tabl) => -1 ≤ p ∧ p < x.length ∧ ∃ f, Flat2 t x.length y.length f ∧ Done2 (eqE x y) x.length y.length f p ((y.length : Int) - 1)) (fun (p : Int) _ => (p + 1).toNat) ?_ n _ t0
    ⟨by omega, by omega, fun _ _ => 0, hF0, fun i j hi hj hc => by rw [LC_z (by omega)]⟩ (by show ((x.length : Int) - 1 + 1).toNat < n; omega)
  rintro Q2 lp2 p t2 hQ2 ⟨p1, p2, f, hR, hD⟩ ih2
  refine Ok_ite (fun hp => ?_) (fun hp => ?_)
  · rw [wi_e (x := (y.length : Int) - 1) (by omega) (by omega), wi_e (x := p - 1) (by omega) (by omega)]
    refine Ok_ob2 ?_
    unfold m291_w2
    obtain ⟨k, rfl⟩ : ∃ k : Nat, p = k := ⟨p.toNat, by omega⟩
    refine Ok_it2 (fun (q : Int) (t : Tabl) => -1 ≤ q ∧ q < y.length ∧ ∃ f, Flat2 t x.length y.length f ∧ Done2 (eqE x y) x.length y.length f k q) (fun (q : Int) _ => (q + 1).toNat) ?_ n _ t2
      ⟨by omega, by omega, f, hR, hD⟩ (by show ((y.length : Int) - 1 + 1).toNat < n; omega)
    rintro Q3 lp3 q t3 hQ3 ⟨q1, q2, f3, hR3, hD3⟩ ih3
    refine Ok_ite (fun hq => ?_) (fun hq => ?_)
    · obtain ⟨m, rfl⟩ : ∃ m : Nat, q = m := ⟨q.toNat, by omega⟩
      refine Ok_ix (by omega) p2 (fun u hu => Ok_ix (by omega) q2 (fun v hv => ?_))
      rw [Int.toNat_natCast] at hu hv
      have hE := eqE_of hu hv
      rw [wi_e (x := (m : Int) - 1) (by omega) (by omega), wi_e (x := (k : Int) + 1) (by omega) (by omega), wi_e (x := (m : Int) + 1) (by omega) (by omega)]
      rw [show (k : Int) + 1 = ((k + 1 : Nat) : Int) by omega, show (m : Int) + 1 = ((m + 1 : Nat) : Int) by omega]
      refine Ok_ite (fun e => ?_) (fun e => ?_)
      · refine Ok_cl1 (tat_ok hR3 (by omega) (by omega) ha hb) ?_
        rw [hD3 (k + 1) (m + 1) (by omega) (by omega) (by omega)]
        have h0 := LC_0 (E := eqE x y) (na := x.length) (nb := y.length) (i := k + 1) (j := m + 1)
        have h1 := LC_le (E := eqE x y) (na := x.length) (nb := y.length) (i := k + 1) (j := m + 1)
        rw [wi_e (by omega) (by omega)]
        obtain ⟨t', h2, h3⟩ := tset_ok (n := n) (v := LC (eqE x y) x.length y.length (k + 1) (m + 1) + 1) hR3 (i := k) (j := m) (by omega) (by omega) ha hb
        refine Ok_cl1 h2 (ih3 _ _ ⟨by omega, by omega, _, h3, hD3.upd ?_⟩ (by omega))
        exact (LC_eq (by omega) (by omega) (by rw [hE]; exact decide_eq_true e)).symm
      · have hne : eqE x y k m = false := by rw [hE]; exact decide_eq_false e
        refine Ok_cl1 (tat_ok hR3 (by omega) (by omega) ha hb) (Ok_cl1 (tat_ok hR3 (by omega) (by omega) ha hb) ?_)
        rw [hD3 (k + 1) m (by omega) (by omega) (by omega), hD3 k (m + 1) (by omega) (by omega) (by omega)]
        have hmx := LC_ne (E := eqE x y) (na := x.length) (nb := y.length) (i := k) (j := m) (by omega) (by omega) hne
        refine Ok_ite (fun hle => ?_) (fun hlt => ?_)
        · obtain ⟨t', h2, h3⟩ := tset_ok (n := n) (v := LC (eqE x y) x.length y.length k (m + 1)) hR3 (i := k) (j := m) (by omega) (by omega) ha hb
          exact Ok_cl1 h2 (ih3 _ _ ⟨by omega, by omega, _, h3, hD3.upd (by omega)⟩ (by omega))
        · obtain ⟨t', h2, h3⟩ := tset_ok (n := n) (v := LC (eqE x y) x.length y.length (k + 1) m) hR3 (i := k) (j := m) (by omega) (by omega) ha hb
          exact Ok_cl1 h2 (ih3 _ _ ⟨by omega, by omega, _, h3, hD3.upd (by omega)⟩ (by omega))
    · refine Ok.some' (hQ3 _ ?_)
      dsimp only
      exact ih2 _ _ ⟨by omega, by omega, f3, hR3, hD3.next (by omega)⟩ (by omega)
  · refine Ok.some' (hQ2 _ (Ok.some' ⟨hR.w, hR.len, fun i j hi hj => ?_⟩))
    rw [hR.get i j hi hj, hD i j hi hj (by omega), if_pos ⟨hi, hj⟩]
/-- the walk: for each line of a the line of b that it matches, or -1 -/
def walkM (E : Nat → Nat → Bool) (na nb : Nat) (i j : Nat) : List Int :=
  if h : na ≤ i then [] else
  if h2 : nb ≤ j then -1 :: walkM E na nb (i + 1) j else
  if E i j then (j : Int) :: walkM E na nb (i + 1) (j + 1) else
  if LC E na nb i (j + 1) ≤ LC E na nb (i + 1) j then -1 :: walkM E na nb (i + 1) j else walkM E na nb i (j + 1)
  termination_by (na - i) + (nb - j)
section
variable {E : Nat → Nat → Bool} {na nb i j : Nat}
theorem walkM_z (h : na ≤ i) : walkM E na nb i j = [] := by rw [walkM, dif_pos h]
theorem walkM_o (h : i < na) (h2 : nb ≤ j) : walkM E na nb i j = -1 :: walkM E na nb (i + 1) j := by rw [walkM, dif_neg (by omega), dif_pos h2]
theorem walkM_e (h : i < na) (h2 : j < nb) (he : E i j = true) : walkM E na nb i j = (j : Int) :: walkM E na nb (i + 1) (j + 1) := by rw [walkM, dif_neg (by omega), dif_neg (by omega), if_pos he]
theorem walkM_d (h : i < na) (h2 : j < nb) (he : E i j = false) (hl : LC E na nb i (j + 1) ≤ LC E na nb (i + 1) j) : walkM E na nb i j = -1 :: walkM E na nb (i + 1) j := by rw [walkM, dif_neg (by omega), dif_neg (by omega), he, if_neg (by simp), if_pos hl]
theorem walkM_r (h : i < na) (h2 : j < nb) (he : E i j = false) (hl : ¬ LC E na nb i (j + 1) ≤ LC E na nb (i + 1) j) : walkM E na nb i j = walkM E na nb i (j + 1) := by rw [walkM, dif_neg (by omega), dif_neg (by omega), he, if_neg (by simp), if_neg hl]
end
theorem walkM_pre {E : Nat → Nat → Bool} {na nb : Nat} {c : Nat} (hc : c ≤ na) (hd : c ≤ nb) (h : ∀ k, k < c → E k k = true) : ∀ k, k ≤ c → ∃ l : List Int, walkM E na nb (c - k) (c - k) = l ++ walkM E na nb c c ∧ l.length = k ∧ ∀ m, m < k → l[m]? = some ((c - k + m : Nat) : Int)
  | 0, _ => ⟨[], rfl, rfl, fun m hm => by omega⟩
  | k + 1, hk => by
    obtain ⟨l, h1, h2, h3⟩ := walkM_pre hc hd h k (by omega)
    refine ⟨((c - (k + 1) : Nat) : Int) :: l, ?_, by rw [List.length_cons, h2], fun m hm => ?_⟩
    · rw [walkM_e (by omega) (by omega) (h _ (by omega)), show c - (k + 1) + 1 = c - k by omega, h1]; rfl
    · cases m with
      | zero => simp
      | succ m =>
        rw [List.getElem?_cons_succ, h3 m (by omega)]
        congr 2
        omega
theorem set_snoc {α : Type} {l : List α} {pre : List α} {v : α} (h : pre.length < l.length) (he : l.take pre.length = pre) : (l.set pre.length v).take (pre.length + 1) = pre ++ [v] := by
  rw [List.take_add_one, List.getElem?_set_self h, List.take_set_of_le (Nat.le_refl _), he]
  rfl
theorem match_ok {n : Nat} {a b : List Str} (hn : 100000 ≤ n) (ha : a.length ≤ 1024) (hb : b.length ≤ 1024) : m257 n a b = some (walkM (eqE a b) a.length b.length 0 0) := by
  refine Ok.eq ?_
  unfold m257
  obtain ⟨tb, htb, hR⟩ := lcs_ok hn ha hb
  refine Ok_cl1 htb (Ok_mk (by omega) (by omega) (by omega) (Ok_ob3 ?_))
  unfold m257_w1
  refine Ok_it3 (fun (c1 c2 : Int) (l : List Int) => ∃ i j : Nat, ∃ pre : List Int, c1 = i ∧ c2 = j ∧ i ≤ a.length ∧ j ≤ b.length ∧ l.length = a.length ∧ pre.length = i ∧ l.take i = pre ∧ pre ++ walkM (eqE a b) a.length b.length i j = walkM (eqE a b) a.length b.length 0 0) (fun (c1 c2 : Int) _ => ((a.length : Int) - c1 + (b.length - c2)).toNat) ?_ n 0 0 _
    ⟨0, 0, [], rfl, rfl, by omega, by omega, by rw [List.length_replicate]; omega, rfl, rfl, rfl⟩ (by show ((a.length : Int) - 0 + (b.length - 0)).toNat < n; omega)
  rintro Q lp c1 c2 l hQ ⟨i, j, pre, rfl, rfl, hi, hj, hl, hp, hlp, hw⟩ ih
  subst hp
  refine Ok_ite (fun hlt => Ok_ob1 ?_) (fun hge => ?_)
  · rw [wi_e (x := (pre.length : Int) + 1) (by omega) (by omega), wi_e (x := (j : Int) + 1) (by omega) (by omega)]
    have hset : ∀ v, (l.set (pre.length : Int).toNat v).take (pre.length + 1) = pre ++ [v] := fun v => by rw [Int.toNat_natCast]; exact set_snoc (by omega) hlp
    have rd : ∀ {i j : Nat} {row : List Int} {v : Int}, tb[i]? = some row → row[j]? = some v → v = LC (eqE a b) a.length b.length i j := fun hr hv => (hR.row _ _ hr).2 _ _ hv
    refine Ok_ite (fun hjb => Ok_ix (by omega) hlt (fun u hu => Ok_ix (by omega) hjb (fun v hv => Ok.some' ?_))) (fun hjb => Ok.some' ?_)
    · rw [Int.toNat_natCast] at hu hv
      have hE := eqE_of hu hv
      refine Ok_ite (fun e => ?_) (fun e => Ok_ob1 (Ok_ite (fun e => by omega) (fun _ => ?_)))
      · refine Ok_ck (by omega) (by omega) (Ok_st (by omega) (by omega) (ih _ _ _ ⟨pre.length + 1, j + 1, pre ++ [(j : Int)], by omega, by omega, by omega, by omega, by rw [List.length_set, hl], by simp, hset _, ?_⟩ (by omega)))
        rw [← hw, walkM_e (i := pre.length) (j := j) (by omega) (by omega) (by rw [hE]; exact decide_eq_true e)]
        simp
      · have hne : eqE a b pre.length j = false := by rw [hE]; exact decide_eq_false e
        refine Ok_ix (by omega) (by rw [hR.len]; omega) (fun r1 hr1 => ?_)
        rw [show ((pre.length : Int) + 1).toNat = pre.length + 1 by omega] at hr1
        have hl1 := (hR.row _ _ hr1).1
        refine Ok_ix (by omega) (by omega) (fun v1 hv1 => Ok_ix (by omega) (by rw [hR.len]; omega) (fun r0 hr0 => ?_))
        rw [Int.toNat_natCast] at hv1 hr0
        have hl0 := (hR.row _ _ hr0).1
        refine Ok_ix (by omega) (by omega) (fun v0 hv0 => Ok.some' ?_)
        rw [show ((j : Int) + 1).toNat = j + 1 by omega] at hv0
        have e1 := rd hr1 hv1
        have e0 := rd hr0 hv0
        refine Ok_ite (fun hle => ?_) (fun hle => ?_)
        · refine Ok_ck (by omega) (by omega) (Ok_st (by omega) (by omega) (ih _ _ _ ⟨pre.length + 1, j, pre ++ [-1], by omega, by omega, by omega, by omega, by rw [List.length_set, hl], by simp, hset _, ?_⟩ (by omega)))
          rw [← hw, walkM_d (i := pre.length) (j := j) (by omega) (by omega) hne (by omega)]
          simp
        · refine ih _ _ _ ⟨pre.length, j + 1, pre, rfl, by omega, by omega, by omega, hl, rfl, hlp, ?_⟩ (by omega)
          rw [← hw, walkM_r (i := pre.length) (j := j) (by omega) (by omega) hne (by omega)]
    · refine Ok_cond (fun e => nomatch e) (fun _ => Ok_ob1 (Ok_ite (fun _ => Ok.some' ?_) (fun e => absurd e (by omega))))
      refine Ok_cond (fun _ => ?_) (fun e => nomatch e)
      refine Ok_ck (by omega) (by omega) (Ok_st (by omega) (by omega) (ih _ _ _ ⟨pre.length + 1, j, pre ++ [-1], by omega, by omega, by omega, by omega, by rw [List.length_set, hl], by simp, hset _, ?_⟩ (by omega)))
      rw [← hw, walkM_o (i := pre.length) (j := j) (by omega) (by omega)]
      simp
  · refine Ok.some' (hQ _ (Ok.some' ?_))
    dsimp only
    rw [walkM_z (by omega), List.append_nil] at hw
    rw [← hw, ← hlp, List.take_of_length_le (by omega)]
end Go.Proofs.Qxb6500350aGreat
