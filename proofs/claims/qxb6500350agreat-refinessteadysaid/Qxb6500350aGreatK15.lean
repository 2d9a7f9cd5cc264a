/- PLAIN LAW: THE STORE'S CHECK. -/
import Derived.Test.Qxb6500350aGreatK14
import Derived.Test.Qxb6500350aGreatT189
import Derived.Test.Qxb6500350aGreatT106
set_option linter.unusedVariables false
set_option linter.unusedSimpArgs false
set_option maxHeartbeats 1000000
namespace Go.Proofs.Qxb6500350aGreat
open Go.Eng Go
section
variable {n : Nat} {s : Store} {d : Dev} {A : Int → Ob} {root : Int}
theorem soundChain_ok {z : Store} {U : Int → Bool} {e : Entr} {o : Ob} (hn : 100000 ≤ n) (hd : d.Wf) (he : EntOk d.B e o) (ho : o.st ≠ 0) (hU : Marks z.used U) (hdis : ∀ b, b ∈ o.bl → U b = false) :
    Ok (m189 n s d z e) (fun r => r.1 = true ∧ ∃ u, r.2 = { z with used := u } ∧ Marks u (fun b => U b || o.bl.contains b)) := by
  obtain ⟨f1, f2, f3, f4, f5, f6, f7, f8, f9, f10⟩ := he.nf ho
  have hle := nbk_le _ f5
  have h3 := nbk_3 o.data.length
  unfold m189
  rw [f6, f7, f8]
  have hbad : (((decide (o.kind < 1) || decide ((4 : Int) < o.kind)) || decide ((o.data.length : Int) < 0)) || decide ((180 : Int) < (o.data.length : Int))) = false := by
    rw [decide_eq_false (by omega), decide_eq_false (by omega), decide_eq_false (by omega), decide_eq_false (by omega)]; rfl
  rw [hbad]
  refine Ok_cond (fun h => nomatch h) (fun _ => Ok_cl1 blocksOf_ok (Ok_flow ?_))
  unfold m189_w1
  refine Ok_it5 (fun (left h b i : Int) (z' : Store) => 0 ≤ i ∧ ∃ (done rest : List UInt8) (m : Nat) (dl rl : List Int) (u : Int → Int), o.data = done ++ rest ∧ left = rest.length ∧ Chn d.B o.kind b (chunkN m rest) rl ∧ (m : Int) + i = nbk o.data.length ∧ rest.length ≤ 60 * m ∧
      h = hashV o.kind done ∧ o.bl = dl ++ rl ∧ z' = { z with used := u } ∧ Marks u (fun b => U b || dl.contains b))
    (fun _ _ _ (i : Int) _ => (3 - i).toNat) ?_ n _ _ _ 0 z ⟨by omega, [], o.data, nbk o.data.length, [], o.bl, z.used, rfl, rfl, f9, by omega, hle, ?_, rfl, rfl, by simpa using hU⟩ (by show (3 - 0 : Int).toNat < n; omega)
  rotate_left
  · show IntKind.u32.wrap _ = _
    rw [ww_eq]; rfl
  rintro Q lp left h b i z' hQ ⟨i0, done, rest, m, dl, rl, u, e1, rfl, e3, e4, e5, rfl, e7, rfl, e9⟩ ih
  have hlen : done.length + rest.length = o.data.length := by rw [e1]; simp
  refine Ok_ite (fun hi => ?_) (fun hi => ?_)
  · cases m with
    | zero => omega
    | succ m =>
      obtain ⟨f, bl', hb1, hb2, hb3, hb4, hb5, hb6⟩ := e3
      have hf := hb6.rng
      generalize hch : rest.take 60 = ch at *
      have hcl : (ch.length : Int) = if (60 : Int) < rest.length then 60 else rest.length := by
        rw [← hch, List.length_take]; split <;> omega
      refine Ok_iteO (fun h => by omega) (fun _ _ => ?_)
      refine Ok_cl1 (isUsed_ok (s := { z with used := u }) e9 (by omega) hb3) ?_
      have hnd := f10
      rw [e7, hb1, List.nodup_append] at hnd
      have hbd : dl.contains b = false := by
        rw [Bool.eq_false_iff]
        intro hc
        exact hnd.2.2 b (List.contains_iff_mem.1 hc) b (by simp) rfl
      rw [hdis b (by rw [e7, hb1]; simp), hbd]
      refine Ok_cond (fun h => nomatch h) (fun _ => ?_)
      obtain ⟨u', hu1, hu2⟩ := mark_ok' (n := n) (s := { z with used := u }) (on := true) e9 (show 0 ≤ b by omega) hb3
      refine Ok_cl1 hu1 (Ok_cl1 (block_ok hn hd (by omega) hb3) ?_)
      rw [show d.B b = packB o.kind f ch from hb5]
      have hif : (cond (decide ((60 : Int) < (rest.length : Int))) (some (60 : Int)) (some (rest.length : Int))) = some (ch.length : Int) := by
        rw [hcl]; by_cases h : (60 : Int) < rest.length <;> simp [h]
      refine Ok_cl1 hif ?_
      have hp0 : (packB o.kind f ch)[0]? = some (u8 o.kind) := rfl
      have hp1 : (packB o.kind f ch)[1]? = some (u8 f) := rfl
      have hp2 : (packB o.kind f ch)[2]? = some (u8 ch.length) := rfl
      have hp3 : (packB o.kind f ch)[3]? = some 0 := rfl
      have hhead : Ok (Option.bind (ixL (packB o.kind f ch) 0) fun x1 => cond (decide (¬ ((x1.toNat : Int) = e.kind))) (some true) (Option.bind (ixL (packB o.kind f ch) 2) fun x2 =>
          cond (decide (¬ ((x2.toNat : Int) = ch.length))) (some true) (Option.bind (ixL (packB o.kind f ch) 3) fun x3 => some (decide (¬ ((x3.toNat : Int) = 0)))))) (fun b => b = false) := by
        refine Ok_ix (by omega) (by rw [packB_len hb4]; omega) (fun y hy => ?_)
        obtain rfl : u8 o.kind = y := Option.some.inj (hp0.symm.trans hy)
        rw [u8_nat (by omega) (by omega)]
        refine Ok_ite (fun h => absurd f6.symm h) (fun _ => Ok_ix (by omega) (by rw [packB_len hb4]; omega) (fun y2 hy2 => ?_))
        obtain rfl : u8 (ch.length : Int) = y2 := Option.some.inj (hp2.symm.trans hy2)
        rw [u8_nat (by omega) (by omega)]
        refine Ok_ite (fun h => absurd rfl h) (fun _ => Ok_ix (by omega) (by rw [packB_len hb4]; omega) (fun y3 hy3 => ?_))
        obtain rfl : 0 = y3 := Option.some.inj (hp3.symm.trans hy3)
        exact Ok.some' rfl
      refine Ok_cl1 hhead.eq (Ok_cond (fun h => nomatch h) (fun _ => Ok_flow ?_))
      unfold m189_w2
      refine Ok_it2 (fun (h j : Int) => 0 ≤ j ∧ j ≤ 60 ∧ h = hashV o.kind (done ++ ch.take j.toNat)) (fun _ (j : Int) => (60 - j).toNat) ?_ n _ 0 ⟨by omega, by omega, by simp⟩ (by show (60 - 0 : Int).toNat < n; omega)
      rintro Q2 lp2 h j hQ2 ⟨j0, j1, rfl⟩ ih2
      refine Ok_ite (fun hj => ?_) (fun hj => ?_)
      · refine Ok_ite (fun hjc => ?_) (fun hjc => ?_)
        · simp (disch := omega) only [wi_of]
          refine Ok_ix (by omega) (by rw [packB_len hb4]; omega) (fun v hv => ?_)
          have hv := packB_at j0 hjc hv
          refine ih2 _ _ ⟨by omega, by omega, ?_⟩ (by omega)
          rw [show (j + 1).toNat = j.toNat + 1 by omega, List.take_add_one, hv, ← List.append_assoc]
          exact hash_step.trans (hashV_snoc _ _ _).symm
        · simp (disch := omega) only [wi_of]
          refine Ok_ix (by omega) (by rw [packB_len hb4]; omega) (fun v hv => ?_)
          have hz := packB_zero (k := o.kind) (f := f) (c := ch) (j := j.toNat) (by omega) (by omega)
          rw [show (4 + j).toNat = 4 + j.toNat by omega, hz] at hv
          obtain rfl := Option.some.inj hv
          refine Ok_ite (fun h => absurd rfl h) (fun _ => ?_)
          refine ih2 _ _ ⟨by omega, by omega, ?_⟩ (by omega)
          rw [List.take_of_length_le (by omega), List.take_of_length_le (by omega)]
      · refine Ok.some' (hQ2 _ ?_)
        rw [List.take_of_length_le (by omega)]
        dsimp only
        refine Ok_un2 ?_
        refine Ok_ix (by omega) (by rw [packB_len hb4]; omega) (fun y3 hy3 => ?_)
        obtain rfl : u8 f = y3 := Option.some.inj (hp1.symm.trans hy3)
        rw [u8_nat hf.1 (by omega)]
        simp (disch := omega) only [wi_of]
        refine ih _ _ _ _ _ ⟨by omega, done ++ ch, rest.drop 60, m, dl ++ [b], bl', u', ?_, ?_, hb6, by omega, ?_, rfl, by rw [e7, hb1]; simp, rfl, ?_⟩ (by omega)
        · rw [e1, List.append_assoc, ← hch, List.take_append_drop]
        · rw [List.length_drop, hcl]; split <;> omega
        · rw [List.length_drop]; omega
        · intro w w0 w1
          obtain ⟨c1, c2, c3⟩ := hu2 w w0 w1
          refine ⟨c1, c2, fun j hj => ?_⟩
          rw [c3 j hj]
          unfold upd
          by_cases hbj : 64 * w + (j : Int) = b
          · simp [hbj]
          · simp [hbj]
  · have hm : m = 0 := by omega
    subst hm
    have hr0 : rest = [] := List.eq_nil_of_length_eq_zero (by omega)
    subst hr0
    obtain ⟨rfl, rfl⟩ := e3
    rw [List.append_nil] at e1 e7
    subst e1 e7
    refine Ok.some' (hQ _ (Ok.some' ⟨?_, u, rfl, e9⟩))
    simp
/-- a count goes on by one id -/
theorem cnt_step {p : Int → Bool} {c : Int} (h0 : 1 ≤ c) (h1 : c ≤ 48) : (ids.filter fun j => decide (j < c + 1) && p j).length = (ids.filter fun j => decide (j < c) && p j).length + if p c then 1 else 0 := by
  cases hp : p c with
  | true =>
    refine cnt_one (i := c) (by simp [hp]; omega) (by simp) (fun j hj => ?_) ids_nodup (mem_ids.2 ⟨h0, h1⟩)
    have : (j < c + 1) ↔ j < c := by omega
    simp [this]
  | false =>
    show _ = _ + 0
    rw [Nat.add_zero]
    congr 1
    refine List.filter_congr (fun j _ => ?_)
    by_cases hj : j = c
    · subst hj; simp [hp]
    · have : (j < c + 1) ↔ j < c := by omega
      simp [this]
/-- THE STORE'S CHECK IS TRUE -/
theorem check_ok (hn : 100000 ≤ n) (hd : d.Wf) (h : Sto s d.B A root) : m106 n s d = some true := by
  refine Ok.eq ?_
  unfold m106
  refine Ok_flow ?_
  unfold m106_w1
  have hle : ∀ p : Int → Bool, (ids.filter p).length ≤ 48 := fun p => by
    have h2 : (ids.filter p).length ≤ ids.length := List.length_filter_le _ _
    rw [ids_len] at h2; exact h2
  refine Ok_it4 (fun (a b c : Int) (z : Store) => 1 ≤ c ∧ c ≤ 49 ∧ a = (ids.filter fun j => decide (j < c) && decide ((A j).st = 0)).length ∧ b = (ids.filter fun j => decide (j < c) && decide (A j).lv).length ∧ Marks z.used (usedB (lowA A c)))
    (fun _ _ (c : Int) _ => (49 - c).toNat) ?_ n 0 0 1 Store.zero ⟨by omega, by omega, ?_, ?_, ?_⟩ (by show (49 - 1 : Int).toNat < n; omega)
  · rintro Q lp a b c z hQ ⟨i0, i1, rfl, rfl, i4⟩ ih
    have l1 := hle fun j => decide (j < c) && decide ((A j).st = 0)
    have l2 := hle fun j => decide (j < c) && decide (A j).lv
    refine Ok_ite (fun hc => Ok_ck (by omega) (by omega) (Ok_nm ?_)) (fun hc => ?_)
    · have he := h.ent c i0 hc
      have s1 := cnt_step (p := fun j => decide ((A j).st = 0)) i0 hc
      have s2 := cnt_step (p := fun j => decide (A j).lv) i0 hc
      rw [he.st]
      refine Ok_ite (fun h0 => ?_) (fun h0 => ?_)
      · have hz := (he.fr h0).1
        rw [hz]
        refine Ok_cond (fun h => nomatch h) (fun _ => Ok_cl1 (live_ok h c) ?_)
        have hnl : ¬ (A c).lv := by rintro (h | h) <;> omega
        rw [decide_eq_false (fun g => hnl g.2.2)]
        refine Ok_cond (fun h => nomatch h) (fun _ => ?_)
        simp (disch := omega) only [wi_of]
        rw [decide_eq_true h0, if_pos rfl] at s1
        rw [decide_eq_false hnl, if_neg (by simp)] at s2
        refine ih _ _ _ _ ⟨by omega, by omega, by omega, by omega, ?_⟩ (by omega)
        have : lowA A (c + 1) = lowA A c := by
          rw [lowA_succ]; funext j; unfold upd
          by_cases hj : j = c
          · subst hj; rw [if_pos rfl, (he.fr h0).2, lowA_at]
          · rw [if_neg hj]
        rw [this]; exact i4
      · obtain ⟨f1, f2, _⟩ := he.nf h0
        refine Ok_iteO (fun h => by omega) (fun _ _ => ?_)
        have hdis : ∀ b, b ∈ (A c).bl → usedB (lowA A c) b = false := by
          intro b hb
          rw [Bool.eq_false_iff]
          intro hu
          obtain ⟨j, j0, j1, hj⟩ := usedB_iff.1 hu
          unfold lowA at hj
          split at hj
          · have := h.dis j c b j0 j1 i0 hc hj hb; omega
          · cases hj
        refine Ok_ob2 ((soundChain_ok hn hd he h0 i4 hdis).mono ?_)
        rintro ⟨t, z'⟩ ⟨rfl, u, rfl, hu⟩
        have hU : usedB (lowA A (c + 1)) = fun b => usedB (lowA A c) b || (A c).bl.contains b := by
          funext b
          rw [Bool.eq_iff_iff, usedB_iff, Bool.or_eq_true, usedB_iff, List.contains_iff_mem, lowA_succ]
          constructor
          · rintro ⟨j, j0, j1, hj⟩
            by_cases g : j = c
            · subst g; simp [upd] at hj; exact .inr hj
            · simp [upd, g] at hj; exact .inl ⟨j, j0, j1, hj⟩
          · rintro (⟨j, j0, j1, hj⟩ | hb)
            · have g : j ≠ c := by rintro rfl; rw [lowA_at] at hj; cases hj
              exact ⟨j, j0, j1, by simp [upd, g]; exact hj⟩
            · exact ⟨c, i0, hc, by simp [upd]; exact hb⟩
        dsimp only
        refine Ok_iteN (fun h => nomatch h) (fun _ => Ok_cl1 (live_ok h c) ?_)
        rw [decide_eq_false h0, if_neg (by simp)] at s1
        by_cases hl : (A c).lv
        · rw [decide_eq_true (show 1 ≤ c ∧ c ≤ 48 ∧ (A c).lv from ⟨i0, hc, hl⟩)]
          refine Ok_cond (fun _ => ?_) (fun h => nomatch h)
          simp (disch := omega) only [wi_of]
          rw [decide_eq_true hl, if_pos rfl] at s2
          exact ih _ _ _ _ ⟨by omega, by omega, by omega, by omega, by rw [hU]; exact hu⟩ (by omega)
        · rw [decide_eq_false (fun g => hl g.2.2)]
          refine Ok_cond (fun h => nomatch h) (fun _ => ?_)
          simp (disch := omega) only [wi_of]
          rw [decide_eq_false hl, if_neg (by simp)] at s2
          exact ih _ _ _ _ ⟨by omega, by omega, by omega, by omega, by rw [hU]; exact hu⟩ (by omega)
    · obtain rfl : c = 49 := by omega
      refine Ok.some' (hQ _ ?_)
      have e1 : (ids.filter fun j => decide (j < 49) && decide ((A j).st = 0)) = ids.filter fun j => decide ((A j).st = 0) := List.filter_congr (fun j hj => by
        have := mem_ids.1 hj
        rw [decide_eq_true (show j < 49 by omega)]; rfl)
      have e2 : (ids.filter fun j => decide (j < 49) && decide (A j).lv) = ids.filter fun j => decide (A j).lv := List.filter_congr (fun j hj => by
        have := mem_ids.1 hj
        rw [decide_eq_true (show j < 49 by omega)]; rfl)
      rw [e1, e2]
      have hU : usedB (lowA A 49) = usedB A := by
        funext b
        rw [Bool.eq_iff_iff, usedB_iff, usedB_iff]
        exact ⟨fun ⟨j, j0, j1, hj⟩ => ⟨j, j0, j1, by unfold lowA at hj; rwa [if_pos (by omega)] at hj⟩, fun ⟨j, j0, j1, hj⟩ => ⟨j, j0, j1, by unfold lowA; rwa [if_pos (by omega)]⟩⟩
      rw [hU] at i4
      have w0 := i4.ext h.um 0 (by omega) (by omega)
      have w1 := i4.ext h.um 1 (by omega) (by omega)
      have w2 := i4.ext h.um 2 (by omega) (by omega)
      have hnf : (((ids.filter fun j => decide ((A j).st = 0)).length : Nat) : Int) = s.nfree := h.nf.symm
      show Ok (cond _ _ _) _
      rw [w0, w1, w2, hnf]
      refine Ok_cond (fun h => by simp at h) (fun _ => ?_)
      refine Ok_cl1 (soundSuper_ok hn hd h) (Ok_iteN (fun h => nomatch h) (fun _ => ?_))
      refine Ok_cl1 (soundBuckets_ok hn h) (Ok_iteN (fun h => nomatch h) (fun _ => ?_))
      exact Ok_cl1 (noTwins_ok hn hd h) (Ok.some' rfl)
  · have : (ids.filter fun j => decide (j < 1) && decide ((A j).st = 0)) = [] := List.filter_eq_nil_iff.2 (fun j hj => by have := mem_ids.1 hj; simp; omega)
    rw [this]; rfl
  · have : (ids.filter fun j => decide (j < 1) && decide (A j).lv) = [] := List.filter_eq_nil_iff.2 (fun j hj => by have := mem_ids.1 hj; simp; omega)
    rw [this]; rfl
  · have : usedB (lowA A 1) = fun _ => false := by
      funext b
      rw [Bool.eq_false_iff]
      intro hu
      obtain ⟨j, j0, j1, hj⟩ := usedB_iff.1 hu
      unfold lowA at hj
      rw [if_neg (by omega)] at hj; cases hj
    rw [this]
    intro w w0 w1
    exact ⟨Int.le_refl 0, (by show (0 : Int) < 18446744073709551616; omega), fun j hj => by show (0 : Int).toNat.testBit j = false; simp⟩
end
end Go.Proofs.Qxb6500350aGreat
