/- PLAIN LAW: REBUILD. -/
import Derived.Test.Qxb6500350aGreatK19
set_option linter.unusedVariables false
set_option linter.unusedSimpArgs false
set_option maxHeartbeats 1000000
namespace Go.Proofs.Qxb6500350aGreat
open Go.Eng Go
theorem Sto.dlen {s : Store} {D : Int → List UInt8} {A : Int → Ob} {root : Int} (h : Sto s D A root) (j : Int) (h0 : 1 ≤ j) (h1 : j ≤ 48) : (A j).data.length ≤ 180 := by
  have he := h.ent j h0 h1
  rcases Classical.em ((A j).st = 0) with h2 | h2
  · rw [(he.fr h2).2]; simp [Ob.free]
  · exact (he.nf h2).2.2.2.2.1
theorem rebuild_ok {n : Nat} {t : Trees} {s : Store} {d : Dev} {A : Int → Ob} {R : Int → List Line} {root : Int} (hn : 100000 ≤ n) (hd : d.Wf) (h : Sto s d.B A root) (hR : RowsOf A R) : Ok (m167 n t s d) (fun t' => Tre t' A R) := by
  have hRl := hR.len h.dlen
  unfold m167
  refine Ok_ob2 ?_
  unfold m167_w1
  refine Ok_it2 (fun (c : Int) (z : Trees) => 0 ≤ c ∧ c ≤ 49 ∧ ∀ i, 0 ≤ i → i < c → z.kind i = 0 ∧ z.count i = 0) (fun (c : Int) _ => (49 - c).toNat) ?_ n 0 t ⟨by omega, by omega, fun i h1 h2 => by omega⟩ (by show (49 - 0 : Int).toNat < n; omega)
  rintro Q lp c z hQ ⟨i0, i1, i2⟩ ih
  refine Ok_ite (fun hc => ?_) (fun hc => ?_)
  · refine Ok_ck (by omega) (by omega) (Ok_nm (Ok_ck (by omega) (by omega) (Ok_nm ?_)))
    simp (disch := omega) only [wi_of]
    refine ih _ _ ⟨by omega, by omega, fun i h1 h2 => ?_⟩ (by omega)
    by_cases e : i = c
    · subst e; simp [upI]
    · have := i2 i h1 (by omega)
      simp [upI, e, this.1, this.2]
  · have hc49 : c = 49 := by omega
    subst hc49
    refine Ok.some' (hQ _ (Ok_ob2 ?_))
    clear ih hQ
    unfold m167_w2
    refine Ok_it2 (fun (c : Int) (z : Trees) => 1 ≤ c ∧ c ≤ 49 ∧ (∀ i, 0 ≤ i → i ≤ 48 → z.kind i = if i < c then kindOf A i else 0) ∧ ∀ i, 0 ≤ i → i ≤ 48 → z.count i = cntAll (lowR R c) i) (fun (c : Int) _ => (49 - c).toNat) ?_ n 1 z ⟨by omega, by omega, fun i h1 h2 => ?_, fun i h1 h2 => ?_⟩ (by show (49 - 1 : Int).toNat < n; omega)
    rotate_left
    · rw [(i2 i h1 (by omega)).1]
      split
      · unfold kindOf; rw [if_neg (by omega)]
      · rfl
    · rw [(i2 i h1 (by omega)).2]
      have : cntAll (lowR R 1) i = 0 := by
        unfold cntAll
        have key : ∀ l : List Int, (∀ j, j ∈ l → 1 ≤ j) → (l.map fun j => cntR (lowR R 1 j) i).sum = 0 := by
          intro l
          induction l with
          | nil => intro _; rfl
          | cons a r ih =>
            intro hl
            have ha := hl a (by simp)
            simp only [List.map_cons, List.sum_cons, ih (fun j hj => hl j (List.mem_cons_of_mem _ hj))]
            unfold lowR; rw [if_neg (by omega)]; rfl
        exact key ids (fun j hj => (mem_ids.1 hj).1)
      rw [this]; rfl
    clear i2 z
    rintro Q lp c z hQ ⟨i0, i1, i2, i3⟩ ih
    refine Ok_ite (fun hc => ?_) (fun hc => ?_)
    · have hg := get_ok hn hd h c
      have hlow : ∀ i, R c = [] → cntAll (lowR R (c + 1)) i = cntAll (lowR R c) i := fun i e => by rw [cntAll_low i0 hc, e]; exact Nat.add_zero _
      by_cases hl : 1 ≤ c ∧ c ≤ 48 ∧ (A c).lv
      · rw [if_pos hl] at hg
        refine Ok_cl3 hg ?_
        refine Ok_ite (fun _ => ?_) (fun h => (h rfl).elim)
        refine Ok_ck (by omega) (by omega) ?_
        refine Ok_nm ?_
        have hkd : ∀ i, 0 ≤ i → i ≤ 48 → upI z.kind c (A c).kind i = if i < c + 1 then kindOf A i else 0 := by
          intro i h1 h2
          unfold upI
          by_cases e : i = c
          · subst e; rw [if_pos rfl, if_pos (by omega)]; unfold kindOf; rw [if_pos hl]
          · rw [if_neg e, i2 i h1 h2]
            by_cases e2 : i < c
            · rw [if_pos e2, if_pos (by omega)]
            · rw [if_neg e2, if_neg (by omega)]
        refine Ok_ite (fun hk => ?_) (fun hk => ?_)
        · have ht := hR.tr c i0 hc ⟨hl.2.2, hk⟩
          have hdl := h.dlen c i0 hc
          rw [ht.1] at hdl ⊢
          refine Ok_cl1 (tally_ok (t := { z with kind := upI z.kind c (A c).kind }) hn ht.2 (by omega) (.inl rfl) (fun i g0 g1 => ?_)) ?_
          · show _ ≤ z.count i ∧ z.count i ≤ _
            rw [i3 i (by omega) g1]
            have := cntAll_le (R := lowR R c) (b := 180) (fun j => by unfold lowR; split; exact hRl j; simp) i
            omega
          · simp (disch := omega) only [wi_of]
            refine ih _ _ ⟨by omega, by omega, hkd, fun i g0 g1 => ?_⟩ (by omega)
            show z.count i + 1 * ((cntR (R c) i : Nat) : Int) = _
            rw [i3 i g0 g1, cntAll_low i0 hc]
            omega
        · simp (disch := omega) only [wi_of]
          have hRc : R c = [] := hR.no c (fun g => hk g.2.2.2)
          refine ih _ _ ⟨by omega, by omega, hkd, fun i g0 g1 => ?_⟩ (by omega)
          rw [hlow i hRc]; exact i3 i g0 g1
      · rw [if_neg hl] at hg
        refine Ok_cl3 hg (Ok_ite (fun h => by omega) (fun _ => ?_))
        simp (disch := omega) only [wi_of]
        have hRc : R c = [] := hR.no c (fun g => hl ⟨g.1, g.2.1, g.2.2.1⟩)
        refine ih _ _ ⟨by omega, by omega, fun i g0 g1 => ?_, fun i g0 g1 => by rw [hlow i hRc]; exact i3 i g0 g1⟩ (by omega)
        rw [i2 i g0 g1]
        by_cases e : i = c
        · subst e; rw [if_neg (by omega), if_pos (by omega)]; unfold kindOf; rw [if_neg hl]
        · by_cases e2 : i < c
          · rw [if_pos e2, if_pos (by omega)]
          · rw [if_neg e2, if_neg (by omega)]
    · obtain rfl : c = 49 := by omega
      refine Ok.some' (hQ _ (Ok.some' ⟨fun i h1 h2 => ?_, fun i h1 h2 => ?_⟩))
      · rw [i2 i h1 h2, if_pos (by omega)]
      · rw [i3 i h1 h2]
        have : (ids.map fun j => cntR (lowR R 49 j) i) = ids.map fun j => cntR (R j) i := List.map_congr_left (fun j hj => by have := mem_ids.1 hj; unfold lowR; rw [if_pos (by omega)])
        unfold cntAll
        rw [this]
end Go.Proofs.Qxb6500350aGreat
