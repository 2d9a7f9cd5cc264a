/- PLAIN LAW: THE TREE LAYER'S CHECK. -/
import Derived.Test.Qxb6500350aGreatK32
import Derived.Test.Qxb6500350aGreatT107
set_option linter.unusedVariables false
set_option linter.unusedSimpArgs false
set_option maxHeartbeats 1000000
namespace Go.Proofs.Qxb6500350aGreat
open Go.Eng Go
section
variable {n : Nat} {t : Trees} {s : Store} {d : Dev} {A : Int → Ob} {root : Int}
theorem soundRows_ok (hn : 100000 ≤ n) (h : LT t s d A root) {j : Int} (hj : isTr A j) : m196 n t s d (Rw A j) = some true := by
  have hlen := (gtree hn h hj).2.2.2
  have hr := h.ts.rows hj
  refine Ok.eq ?_
  unfold m196
  refine Ok_flow ?_
  unfold m196_w1
  generalize hR : Rw A j = R at hlen hr
  refine Ok_it1 (fun (c : Int) => 0 ≤ c ∧ c ≤ R.length) (fun (c : Int) => ((R.length : Int) - c).toNat) ?_ n 0 ⟨by omega, by omega⟩ (by show ((R.length : Int) - 0).toNat < n; omega)
  rintro Q lp c hQ ⟨i0, i1⟩ ih
  refine Ok_ite (fun hc => ?_) (fun hc => Ok.some' (hQ _ (Ok.some' rfl)))
  refine Ok_flow ?_
  have next : Ok (lp (wi (c + 1))) Q := by
    rw [wi_e (by omega) (by omega)]
    exact ih _ ⟨by omega, by omega⟩ (by omega)
  have rest : Ok (ob1 (Option.bind (ixL R c) fun x3 => cond (!x3.dir) (Option.bind (ixL R c) fun x4 => Option.bind (ckA x4.id 49) fun _ => some ((decide (¬ ((t.kind x4.id) = 1))))) (some (false))) fun c5 =>
      cond c5 (Option.bind (some false) fun q3 => some (.ret q3)) (Option.bind (ixL R c) fun x5 => cond x5.dir (Option.bind (ixL R c) fun x6 => Option.bind (ckA x6.id 49) fun _ =>
      cond (decide (¬ ((t.kind x6.id) = 2))) (Option.bind (some false) fun q4 => some (.ret q4)) (Option.bind (ixL R c) fun x7 => ob3 (m194 n s d x7.id) fun c6 l1 c7 =>
      cond (decide ((l1.length : Int) = 0)) (Option.bind (some false) fun q5 => some (.ret q5)) (lp (wi (c + 1))))) (lp (wi (c + 1))))) Q := by
    refine Ok_ob1 (Ok_ix (by omega) hc (fun r hrg => ?_))
    have hrm := List.mem_of_getElem? hrg
    have hok := hr.ok r hrm
    have a1 := hok.id0
    have a2 := hok.id1
    have uniq : ∀ x, R[c.toNat]? = some x → r = x := fun x hx => Option.some.inj (hrg.symm.trans hx)
    have hfirst : Ok (cond (!r.dir) (Option.bind (ixL R c) fun x4 => Option.bind (ckA x4.id 49) fun _ => some ((decide (¬ ((t.kind x4.id) = 1))))) (some (false))) (fun b => b = false) := by
      refine Ok_iteN (fun hd => Ok_ix (by omega) hc (fun x hx => ?_)) (fun hd => Ok.some' rfl)
      obtain rfl := uniq x hx
      refine Ok_ck (by omega) (by omega) (Ok.some' (decide_eq_false (fun e => e ((kindOf_1 h a1 a2).2 (hr.fil r hrm hd)))))
    refine Ok.mono hfirst (fun b hb => ?_)
    subst hb
    refine Ok_cond (fun e => nomatch e) (fun _ => Ok_ix (by omega) hc (fun x hx => ?_))
    obtain rfl := uniq x hx
    refine Ok_cond (fun hd => Ok_ix (by omega) hc (fun x2 hx2 => ?_)) (fun _ => next)
    obtain rfl := uniq x2 hx2
    have hdir := hr.dir r hrm hd
    refine Ok_ck (by omega) (by omega) (Ok_ite (fun e => absurd ((kindOf_2 h a1 a2).2 hdir.1) e) (fun _ => Ok_ix (by omega) hc (fun x3 hx3 => ?_)))
    obtain rfl := uniq x3 hx3
    have hg := get_ok hn h.gd.toWf h.st r.id
    rw [if_pos ⟨a1, a2, hdir.1.2.2.1⟩] at hg
    refine Ok_cl3 hg (Ok_ite (fun e => absurd (List.eq_nil_of_length_eq_zero (by omega)) hdir.2) (fun _ => next))
  refine Ok_ite (fun hc0 => ?_) (fun _ => Ok.some' rest)
  rw [wi_e (by omega) (by omega)]
  refine Ok_ix (by omega) (by omega) (fun a ha => ?_)
  have ham := List.mem_of_getElem? ha
  have han := (hr.ok a ham).n1
  refine Ok_cl1 (key_ok (by omega)) (Ok_ix (by omega) hc (fun b hb => ?_))
  have hbm := List.mem_of_getElem? hb
  have hbn := (hr.ok b hbm).n1
  refine Ok_cl1 (key_ok (by omega)) ?_
  have hlt : sLt (keyL a) (keyL b) = true := by
    obtain ⟨p1, p2⟩ := List.getElem?_eq_some_iff.1 ha
    obtain ⟨q1, q2⟩ := List.getElem?_eq_some_iff.1 hb
    have := List.pairwise_iff_getElem.1 hr.srt (c - 1).toNat c.toNat p1 q1 (by omega)
    rw [p2, q2] at this; exact this
  rw [hlt]
  exact Ok_cond (fun e => nomatch e) (fun _ => Ok.some' rest)
theorem cnt_take {rs : List Line} {c : Nat} {r : Line} {x : Int} (h : rs[c]? = some r) : cntR (rs.take (c + 1)) x = cntR (rs.take c) x + if r.id = x then 1 else 0 := by
  rw [List.take_add_one, h]
  unfold cntR
  rw [List.filter_append, List.length_append]
  by_cases e : r.id = x <;> simp [e]
theorem tcheck_ok (hn : 100000 ≤ n) (h : LT t s d A root) : m107 n t s d = some true := by
  refine Ok.eq ?_
  unfold m107
  refine Ok_flow ?_
  have hcl : ∀ j, (Rw A j).length ≤ 180 := fun j => h.ts.rowsOf.len h.st.dlen j
  have hlowl : ∀ c j, (lowR (Rw A) c j).length ≤ 180 := fun c j => by unfold lowR; split; exact hcl j; simp
  unfold m107_w1
  refine Ok_it2 (fun (c : Int) (z : Int → Int) => 1 ≤ c ∧ c ≤ 49 ∧ ∀ x, 0 ≤ x → x ≤ 48 → z x = cntAll (lowR (Rw A) c) x) (fun (c : Int) _ => ((49 : Int) - c).toNat) ?_ n 1 _ ⟨by omega, by omega, fun x x0 x1 => ?_⟩ (by show ((49 : Int) - 1).toNat < n; omega)
  rotate_left
  · have : cntAll (lowR (Rw A) 1) x = 0 := by
      unfold cntAll
      have key : ∀ l : List Int, (∀ j, j ∈ l → 1 ≤ j) → (l.map fun j => cntR (lowR (Rw A) 1 j) x).sum = 0 := by
        intro l
        induction l with
        | nil => intro _; rfl
        | cons a r ih =>
          intro hl
          have ha := hl a (by simp)
          simp only [List.map_cons, List.sum_cons, ih (fun j hj => hl j (List.mem_cons_of_mem _ hj))]
          unfold lowR; rw [if_neg (by omega)]; rfl
      exact key ids (fun j hj => (mem_ids.1 hj).1)
    rw [this]; rfl
  rintro Q lp c z hQ ⟨i0, i1, i2⟩ ih
  refine Ok_ite (fun hc => ?_) (fun hc => ?_)
  · have hg := get_ok hn h.gd.toWf h.st c
    have next : ∀ z' : Int → Int, (∀ x, 0 ≤ x → x ≤ 48 → z' x = cntAll (lowR (Rw A) (c + 1)) x) → Ok (lp (wi (c + 1)) z') Q := by
      intro z' hz'
      rw [wi_e (by omega) (by omega)]
      exact ih _ _ ⟨by omega, by omega, hz'⟩ (by omega)
    have hlow : Rw A c = [] → ∀ x, 0 ≤ x → x ≤ 48 → z x = cntAll (lowR (Rw A) (c + 1)) x := fun e x x0 x1 => by
      rw [cntAll_low i0 hc, e, i2 x x0 x1]; simp [cntR]
    by_cases hl : 1 ≤ c ∧ c ≤ 48 ∧ (A c).lv
    · rw [if_pos hl] at hg
      refine Ok_cl3 hg (Ok_ob1 (Ok_ite (fun e => absurd rfl e) (fun _ => Ok.some' ?_)))
      have hk : t.kind c = (A c).kind := by rw [h.kind (by omega) hc]; unfold kindOf; rw [if_pos hl]
      refine Ok_ck (by omega) (by omega) (Ok_ite (fun e => absurd hk e) (fun _ => ?_))
      refine Ok_ite (fun hk2 => ?_) (fun hk2 => ?_)
      · have ht : isTr A c := ⟨hl.1, hl.2.1, hl.2.2, hk2⟩
        obtain ⟨g1, g2, g3, g4⟩ := gtree hn h ht
        rw [h.ts.dat c ht]
        refine Ok_cl1 g2 ?_
        have hlen2 := rows_len (Rw A c)
        have hne : Rw A c = [] → (Rw A c).flatMap encL = [] := fun e => by rw [e]; rfl
        refine Ok_ite2 (fun e1 e2 => ?_) (fun _ => ?_)
        · exact absurd (by rw [hne (List.eq_nil_of_length_eq_zero (by omega))]; rfl) e2
        · refine Ok_cl1 (soundRows_ok hn h ht) (Ok_iteN (fun e => nomatch e) (fun _ => Ok_ob2 ?_))
          unfold m107_w2
          refine Ok_it2 (fun (k : Int) (y : Int → Int) => 0 ≤ k ∧ k ≤ (Rw A c).length ∧ ∀ x, 0 ≤ x → x ≤ 48 → y x = z x + cntR ((Rw A c).take k.toNat) x) (fun (k : Int) _ => (((Rw A c).length : Int) - k).toNat) ?_ n 0 z ⟨by omega, by omega, fun x _ _ => by simp [cntR]⟩ (by show (((Rw A c).length : Int) - 0).toNat < n; omega)
          rintro Q2 lp2 k y hQ2 ⟨j0, j1, j2⟩ ih2
          refine Ok_ite (fun hkk => Ok_ix (by omega) hkk (fun r hr => ?_)) (fun hkk => ?_)
          · have hok := h.ts.ok c r ht (List.mem_of_getElem? hr)
            have a1 := hok.id0
            have a2 := hok.id1
            refine Ok_ck (by omega) (by omega) (Ok_ck (by omega) (by omega) (Ok_nm ?_))
            rw [wi_e (x := k + 1) (by omega) (by omega)]
            refine ih2 _ _ ⟨by omega, by omega, fun x x0 x1 => ?_⟩ (by omega)
            have hct := cnt_take (x := x) hr
            have hcl2 := cntR_le ((Rw A c).take k.toNat) x
            have hcl3 : ((Rw A c).take k.toNat).length ≤ (Rw A c).length := by rw [List.length_take]; omega
            have hcz := cntAll_le (R := lowR (Rw A) c) (hlowl c) x
            have hz := i2 x x0 x1
            have hy := j2 x x0 x1
            rw [show (k + 1).toNat = k.toNat + 1 by omega, hct]
            unfold upI
            by_cases e : x = r.id
            · subst e
              rw [if_pos rfl, if_pos rfl, wi_e (by omega) (by omega), hy]; omega
            · rw [if_neg e, if_neg (fun h => e h.symm), hy]; rfl
          · obtain rfl : k = (Rw A c).length := by omega
            refine Ok.some' (hQ2 _ (next _ fun x x0 x1 => ?_))
            show y x = _
            rw [j2 x x0 x1, Int.toNat_natCast, List.take_length, i2 x x0 x1, cntAll_low i0 hc]
            rfl
      · exact next z (hlow (Rw_no (fun e => hk2 e.2.2.2)))
    · rw [if_neg hl] at hg
      refine Ok_cl3 hg (Ok_ob1 (Ok_ite (fun _ => Ok.some' ?_) (fun e => absurd (show ¬ ((6 : Int) = 0) by decide) e)))
      have hk : t.kind c = 0 := by rw [h.kind (by omega) hc]; unfold kindOf; rw [if_neg hl]
      refine Ok_ck (by omega) (by omega) (Ok_ite (fun e => absurd hk e) (fun _ => ?_))
      refine Ok_ite (fun hk2 => absurd hk2 (by decide)) (fun _ => next z (hlow (Rw_no (fun e => hl ⟨e.1, e.2.1, e.2.2.1⟩))))
  · obtain rfl : c = 49 := by omega
    refine Ok.some' (hQ _ (Ok_flow ?_))
    have hz : ∀ x, 0 ≤ x → x ≤ 48 → z x = cntAll (Rw A) x := by
      intro x x0 x1
      rw [i2 x x0 x1]
      have : (ids.map fun j => cntR (lowR (Rw A) 49 j) x) = ids.map fun j => cntR (Rw A j) x := List.map_congr_left (fun j hj => by have := mem_ids.1 hj; unfold lowR; rw [if_pos (by omega)])
      unfold cntAll
      rw [this]
    clear ih hQ
    unfold m107_w3
    refine Ok_it1 (fun (c : Int) => 0 ≤ c ∧ c ≤ 49) (fun (c : Int) => ((49 : Int) - c).toNat) ?_ n 0 ⟨by omega, by omega⟩ (by show ((49 : Int) - 0).toNat < n; omega)
    rintro Q2 lp2 k hQ2 ⟨j0, j1⟩ ih2
    refine Ok_ite (fun hk => Ok_ck (by omega) (by omega) (Ok_ck (by omega) (by omega) (Ok_ite (fun e => absurd (by rw [h.tr.ct k j0 hk]; exact (hz k j0 hk).symm) e) (fun _ => ?_)))) (fun hk => ?_)
    · rw [wi_e (by omega) (by omega)]; exact ih2 _ ⟨by omega, by omega⟩ (by omega)
    · refine Ok.some' (hQ2 _ (Ok.some' ?_))
      have : t.kind 0 = 0 := by rw [h.kind (by omega) (by omega)]; unfold kindOf; rw [if_neg (by omega)]
      exact decide_eq_true this
end
end Go.Proofs.Qxb6500350aGreat
