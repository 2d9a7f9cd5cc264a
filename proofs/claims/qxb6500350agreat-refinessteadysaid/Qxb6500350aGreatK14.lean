/- PLAIN LAW: THE STORE'S CHECK (super block, twins, buckets). -/
import Derived.Test.Qxb6500350aGreatK13
import Derived.Test.Qxb6500350aGreatT191
import Derived.Test.Qxb6500350aGreatT192
import Derived.Test.Qxb6500350aGreatT193
set_option linter.unusedVariables false
set_option linter.unusedSimpArgs false
set_option maxHeartbeats 1000000
namespace Go.Proofs.Qxb6500350aGreat
open Go.Eng Go
section
variable {n : Nat} {s : Store} {d : Dev} {A : Int → Ob} {root : Int}
theorem soundSuper_ok (hn : 100000 ≤ n) (hd : d.Wf) (h : Sto s d.B A root) : m191 n s d = some true := by
  have hroot : 0 ≤ root ∧ root ≤ 48 := by rcases h.rt with h | h <;> omega
  refine Ok.eq ?_
  unfold m191
  refine Ok_cl1 (block_ok hn hd (by omega) (by omega)) ?_
  rw [show d.B 0 = supB A root from h.sup]
  refine Ok_ix (by omega) (by rw [supB_len]; omega) (fun y hy => ?_)
  obtain rfl : u8 root = y := Option.some.inj ((supB_zero A root).symm.trans hy)
  rw [u8_nat hroot.1 (by omega), h.rd]
  refine Ok_ite (fun h => absurd rfl h) (fun _ => Ok_flow ?_)
  have hst : ∀ i, 1 ≤ i → i ≤ 48 → (s.tab i).state = (A i).st := fun i h0 h1 => (h.ent i h0 h1).st
  refine Ok.mono (P := fun f => f = Flow.nx ()) ?_ ?_
  · refine Ok_ite (fun h0 => ?_) (fun _ => Ok.some' rfl)
    rcases h.rt with h1 | ⟨h1, h2, h3⟩
    · exact absurd h1 h0
    · refine Ok_iteO (fun h => by omega) (fun _ _ => Ok_ob1 (Ok_ck (by omega) (by omega) ?_))
      rw [hst root h1 h2]
      refine Ok_ite (fun h4 => Ok_ck (by omega) (by omega) (Ok.some' ?_)) (fun h4 => Ok.some' (Ok_cond (fun h => nomatch h) (fun _ => Ok.some' rfl)))
      have h5 : (A root).st = 3 := by rcases h3 with h3 | h3; exact absurd h3 h4; exact h3
      rw [h5]
      exact Ok_cond (fun h => nomatch h) (fun _ => Ok.some' rfl)
  · rintro f rfl
    show Ok (flow _ _ _) _
    refine Ok_flow ?_
    unfold m191_w1
    refine Ok_it1 (fun (c : Int) => 1 ≤ c ∧ c ≤ 64) (fun (c : Int) => (64 - c).toNat) ?_ n 1 ⟨by omega, by omega⟩ (by show (64 - 1 : Int).toNat < n; omega)
    rintro Q lp c hQ ⟨i0, i1⟩ ih
    refine Ok_ite (fun hc => ?_) (fun hc => Ok.some' (hQ _ (Ok.some' rfl)))
    have hx := supB_get A root i0 (by omega)
    have next : Ok (lp (wi (c + 1))) Q := by
      simp (disch := omega) only [wi_of]
      exact ih _ ⟨by omega, by omega⟩ (by omega)
    refine Ok_ite (fun h48 => ?_) (fun h48 => ?_)
    · have hcond : Ok (Option.bind (ckA c 49) fun _ => cond (decide ((s.tab c).state = 2)) (some true) (Option.bind (ckA c 49) fun _ => some (decide ((s.tab c).state = 3)))) (fun b => b = decide ((A c).st = 2 ∨ (A c).st = 3)) := by
        refine Ok_ck (by omega) (by omega) ?_
        rw [hst c i0 h48]
        refine Ok_ite (fun g => Ok.some' ?_) (fun g => Ok_ck (by omega) (by omega) (Ok.some' ?_))
        · rw [decide_eq_true (.inl g)]
        · by_cases g3 : (A c).st = 3
          · rw [decide_eq_true g3, decide_eq_true (.inr g3)]
          · rw [decide_eq_false g3, decide_eq_false (by rintro (h | h); exact g h; exact g3 h)]
      refine Ok_cl1 hcond.eq (Ok_ite (fun g => ?_) (fun g => ?_))
      · refine Ok_ck (by omega) (by omega) (Ok_ix (by omega) (by rw [supB_len]; omega) (fun x hx2 => ?_))
        rw [hx, if_pos ⟨h48, g⟩] at hx2
        obtain rfl := Option.some.inj hx2
        have hf := (h.ent c i0 h48).first (by rcases g with g | g <;> omega)
        rw [← hf.1, u8_nat (by omega) (by omega)]
        exact Ok_ite (fun h => absurd rfl h) (fun _ => next)
      · refine Ok_ix (by omega) (by rw [supB_len]; omega) (fun x hx2 => ?_)
        rw [hx, if_neg (fun k => g k.2)] at hx2
        obtain rfl := Option.some.inj hx2
        exact Ok_ite (fun h => absurd rfl h) (fun _ => next)
    · refine Ok_ix (by omega) (by rw [supB_len]; omega) (fun x hx2 => ?_)
      rw [hx, if_neg (fun k => h48 k.1)] at hx2
      obtain rfl := Option.some.inj hx2
      exact Ok_ite (fun h => absurd rfl h) (fun _ => next)
theorem noTwins_ok (hn : 100000 ≤ n) (hd : d.Wf) (h : Sto s d.B A root) : m193 n s d = some true := by
  have hst : ∀ i, 1 ≤ i → i ≤ 48 → (s.tab i).state = (A i).st := fun i h0 h1 => (h.ent i h0 h1).st
  refine Ok.eq ?_
  unfold m193
  refine Ok_flow ?_
  unfold m193_w1
  refine Ok_it1 (fun (c : Int) => 1 ≤ c ∧ c ≤ 49) (fun (c : Int) => (49 - c).toNat) ?_ n 1 ⟨by omega, by omega⟩ (by show (49 - 1 : Int).toNat < n; omega)
  rintro Q lp c hQ ⟨i0, i1⟩ ih
  refine Ok_ite (fun hc => Ok_flow ?_) (fun hc => Ok.some' (hQ _ (Ok.some' rfl)))
  unfold m193_w2
  have hw : wi (c + 1) = c + 1 := wi_of (by omega) (by omega)
  rw [hw]
  refine Ok_it1 (fun (j : Int) => c + 1 ≤ j ∧ j ≤ 49) (fun (j : Int) => (49 - j).toNat) ?_ n (c + 1) ⟨by omega, by omega⟩ (by show (49 - (c + 1) : Int).toNat < n; omega)
  rintro Q2 lp2 j hQ2 ⟨j0, j1⟩ ih2
  have done : ∀ x, Ok (some (Flow.nx (ρ := Flow Bool Int) x)) Q2 := fun x => Ok.some' (hQ2 _ (ih _ ⟨by omega, by omega⟩ (by omega)))
  refine Ok_ob1 (Ok_ite (fun hj => Ok_ck (by omega) (by omega) (Ok.some' ?_)) (fun hj => Ok.some' (Ok_cond (fun h => nomatch h) (fun _ => done _))))
  refine Ok_cond (fun hc0 => ?_) (fun _ => done _)
  have next : Ok (lp2 (wi (j + 1))) Q2 := by
    simp (disch := omega) only [wi_of]
    exact ih2 _ ⟨by omega, by omega⟩ (by omega)
  refine Ok_ck (by omega) (by omega) (Ok_ck (by omega) (by omega) (Ok_nm (Ok_nm ?_)))
  refine Ok_cond (fun ht => ?_) (fun _ => next)
  rw [hst c i0 hc, hst j (by omega) hj] at ht
  simp only [Bool.and_eq_true, Bool.or_eq_true, decide_eq_true_eq] at ht
  obtain ⟨⟨⟨⟨t1, t2⟩, t3⟩, t4⟩, t5⟩ := ht
  obtain ⟨f1, f2, f3, f4, f5, f6, f7, f8, f9, f10⟩ := (h.ent c i0 hc).nf (by rcases t1 with g | g <;> omega)
  obtain ⟨g1, g2, g3, g4, g5, g6, g7, g8, g9, g10⟩ := (h.ent j (by omega) hj).nf (by rcases t2 with g | g <;> omega)
  refine Ok_cl1 (bytesOf_ok hn hd (by omega) (by omega) f7 f5 f9) ?_
  refine Ok_cl1 (holds_ok (x := (A j).data) hn hd (by omega) (by omega) (by omega) g5 g9) (Ok_ite (fun he => ?_) (fun _ => next))
  have := h.tw c j i0 hc (by omega) hj t1 t2 (by rw [← f6, t3, g6]) he.symm
  omega
/-- how many live -/
def nlv (A : Int → Ob) : Nat := (ids.filter fun i => decide (A i).lv).length
theorem soundBuckets_ok (hn : 100000 ≤ n) (h : Sto s d.B A root) : m192 n s (nlv A) = some true := by
  obtain ⟨L, hL⟩ := h.hg
  have htot : ((List.range 8).flatMap fun (b : Nat) => L (b : Int)).length = nlv A := by
    refine Nat.le_antisymm (nodup_sub_le ?_ (fun i hi => ?_)) (nodup_sub_le (ids_nodup.sublist List.filter_sublist) (fun i hi => ?_))
    · unfold List.Nodup
      rw [List.pairwise_flatMap]
      refine ⟨fun b hb => (hL b (by omega) (by have := List.mem_range.1 hb; omega)).2.1, ?_⟩
      refine List.Pairwise.imp_of_mem ?_ List.nodup_range
      intro a b ha hb hab i hi i' hj hii
      subst hii
      have ha := List.mem_range.1 ha
      have hb := List.mem_range.1 hb
      have e1 := (((hL a (by omega) (by omega)).2.2 i).1 hi).2.2.2
      have e2 := (((hL b (by omega) (by omega)).2.2 i).1 hj).2.2.2
      omega
    · obtain ⟨b, hb, hi⟩ := List.mem_flatMap.1 hi
      have hb := List.mem_range.1 hb
      have e1 := ((hL b (by omega) (by omega)).2.2 i).1 hi
      exact List.mem_filter.2 ⟨mem_ids.2 ⟨e1.1, e1.2.1⟩, decide_eq_true e1.2.2.1⟩
    · obtain ⟨h1, h2⟩ := List.mem_filter.1 hi
      have h1 := mem_ids.1 h1
      have h2 := of_decide_eq_true h2
      have hr := hashV_rng (A i).kind (A i).data
      refine List.mem_flatMap.2 ⟨(hashV (A i).kind (A i).data % 8).toNat, List.mem_range.2 (by omega), ?_⟩
      rw [Int.toNat_of_nonneg (by omega)]
      exact ((hL _ (by omega) (by omega)).2.2 i).2 ⟨h1.1, h1.2, h2, rfl⟩
  have hn48 : nlv A ≤ 48 := by
    have h2 : (ids.filter fun i => decide (A i).lv).length ≤ ids.length := List.length_filter_le _ _
    rw [ids_len] at h2; exact h2
  refine Ok.eq ?_
  unfold m192
  refine Ok_flow ?_
  unfold m192_w1
  refine Ok_it2 (fun (c b : Int) => 0 ≤ b ∧ b ≤ 8 ∧ c = ((List.range b.toNat).flatMap fun (b : Nat) => L (b : Int)).length) (fun _ (b : Int) => (8 - b).toNat) ?_ n 0 0 ⟨by omega, by omega, rfl⟩ (by show (8 - 0 : Int).toNat < n; omega)
  rintro Q lp c b hQ ⟨i0, i1, rfl⟩ ih
  refine Ok_ite (fun hb => ?_) (fun hb => ?_)
  · obtain ⟨l1, l2, l3⟩ := hL b i0 hb
    have hlen : (L b).length ≤ 48 := by
      have := nodup_sub_le (U := ids) l2 (fun j hj => mem_ids.2 ⟨((l3 j).1 hj).1, ((l3 j).1 hj).2.1⟩)
      rwa [ids_len] at this
    have hsub : ((List.range b.toNat).flatMap fun (b : Nat) => L (b : Int)).length + (L b).length = ((List.range (b + 1).toNat).flatMap fun (b : Nat) => L (b : Int)).length := by
      rw [show (b + 1).toNat = b.toNat + 1 by omega, List.range_succ, List.flatMap_append, List.length_append]
      simp [Int.toNat_of_nonneg i0]
    have hsmall : ∀ m : Nat, m ≤ 8 → ((List.range m).flatMap fun (b : Nat) => L (b : Int)).length ≤ 48 * m := by
      intro m
      induction m with
      | zero => intro _; simp
      | succ m ihm =>
          intro hm
          have h8 := ihm (by omega)
          obtain ⟨_, q2, q3⟩ := hL (m : Int) (by omega) (by omega)
          have h9 := nodup_sub_le (U := ids) q2 (fun j hj => mem_ids.2 ⟨((q3 j).1 hj).1, ((q3 j).1 hj).2.1⟩)
          rw [ids_len] at h9
          rw [List.range_succ, List.flatMap_append, List.length_append]
          simp only [List.flatMap_cons, List.flatMap_nil, List.append_nil]
          omega
    have hs1 := hsmall b.toNat (by omega)
    refine Ok_ck (by omega) (by omega) (Ok_flow ?_)
    unfold m192_w2
    refine Ok_it3 (fun (c x m : Int) => 0 ≤ m ∧ ∃ r : List Int, Hng s.tab x r ∧ m + r.length ≤ 48 ∧ 0 ≤ c ∧ c + r.length = ((List.range (b + 1).toNat).flatMap fun (b : Nat) => L (b : Int)).length ∧ ∀ i, i ∈ r → i ∈ L b)
      (fun _ _ (m : Int) => (49 - m).toNat) ?_ n _ (s.heads b) 0 ⟨by omega, L b, l1, by omega, by omega, by omega, fun i hi => hi⟩ (by show (49 - 0 : Int).toNat < n; omega)
    rintro Q2 lp2 c x m hQ2 ⟨m0, r, r1, r2, r3, r4, r5⟩ ih2
    refine Ok_ite (fun hx => ?_) (fun hx => ?_)
    · cases r with
      | nil => exact absurd r1 hx
      | cons i r =>
        obtain ⟨rfl, x0, x1, r6⟩ := r1
        simp only [List.length_cons] at r2 r4
        have hi := (l3 x).1 (r5 x (by simp))
        have hbad : ((decide ((48 : Int) ≤ m) || decide (x < 1)) || decide ((48 : Int) < x)) = false := by
          rw [decide_eq_false (by omega), decide_eq_false (by omega), decide_eq_false (by omega)]; rfl
        rw [hbad]
        refine Ok_cond (fun h => nomatch h) (fun _ => Ok_cl1 (live_ok h x) ?_)
        rw [decide_eq_true ⟨x0, x1, hi.2.2.1⟩]
        refine Ok_iteN (fun h => nomatch h) (fun _ => Ok_ck (by omega) (by omega) ?_)
        have hash := h.sti.hash x0 x1 (by rcases hi.2.2.1 with h | h <;> omega)
        have hr := hashV_rng (A x).kind (A x).data
        rw [hash]
        refine Ok_cl1 (bucketOf_ok hr.1 hr.2) ?_
        rw [hi.2.2.2]
        refine Ok_ite (fun h => absurd rfl h) (fun _ => Ok_ck (by omega) (by omega) ?_)
        have hs2 := hsmall (b + 1).toNat (by omega)
        simp (disch := omega) only [wi_of]
        exact ih2 _ _ _ ⟨by omega, r, r6, by omega, by omega, by omega, fun i hi => r5 i (List.mem_cons_of_mem _ hi)⟩ (by omega)
    · have hr0 : r = [] := by
        cases r with
        | nil => rfl
        | cons i r => obtain ⟨rfl, x0, x1, r6⟩ := r1; omega
      subst hr0
      refine Ok.some' (hQ2 _ ?_)
      show Ok (lp c (wi (b + 1))) Q
      simp (disch := omega) only [wi_of]
      exact ih _ _ ⟨by omega, by omega, by simpa using r4⟩ (by omega)
  · refine Ok.some' (hQ _ (Ok.some' ?_))
    obtain rfl : b = 8 := by omega
    exact decide_eq_true (by rw [← htot]; rfl)
end
end Go.Proofs.Qxb6500350aGreat
