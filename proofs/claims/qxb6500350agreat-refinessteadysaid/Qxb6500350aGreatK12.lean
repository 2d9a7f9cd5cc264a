/- PLAIN LAW: OPEN. -/
import Derived.Test.Qxb6500350aGreatK11
import Derived.Test.Qxb6500350aGreatT72
set_option linter.unusedVariables false
set_option linter.unusedSimpArgs false
set_option maxHeartbeats 1000000
namespace Go.Proofs.Qxb6500350aGreat
open Go.Eng Go
section
variable {n : Nat} {s : Store} {d : Dev} {A : Int → Ob} {root : Int} {H : Int → Prop}
theorem survey_ok {k first : Int} {x : List UInt8} {bl : List Int} (hn : 100000 ≤ n) (hd : d.Wf) (k0 : 1 ≤ k) (k1 : k ≤ 4) (hx : x.length ≤ 180) (hc : Chn d.B k first (chunks x) bl) :
    m164 n s d first = some ({ state := 2, kind := k, size := (x.length : Int), first := first, hash := hashV k x, nxt := 0 }, true) := by
  refine Ok.eq ?_
  unfold m164
  refine Ok_nm (Ok_flow ?_)
  unfold m164_w1
  refine Ok_it3 (fun (b c : Int) (e : Entr) => 0 ≤ c ∧ ∃ (done : List UInt8) (r : List (List UInt8)) (bl : List Int), r ≠ [] ∧ Chn d.B k b r bl ∧ (r.length : Int) + c ≤ 3 ∧ done ++ r.flatten = x ∧
      e = { state := 2, kind := if c = 0 then 0 else k, size := (done.length : Int), first := first, hash := if c = 0 then 0 else hashV k done, nxt := 0 } ∧ (c = 0 → done = []))
    (fun _ (c : Int) _ => (3 - c).toNat) ?_ n first 0 _ ⟨by omega, [], chunks x, bl, ?_, hc, ?_, ?_, rfl, fun _ => rfl⟩ (by show (3 - 0 : Int).toNat < n; omega)
  · rintro Q lp b c e hQ ⟨i0, done, r, bl, e1, e2, e3, e4, rfl, e6⟩ ih
    cases r with
    | nil => exact absurd rfl e1
    | cons ch r =>
      obtain ⟨f, bl', hb1, hb2, hb3, hb4, hb5, hb6⟩ := e2
      have hf := hb6.rng
      simp only [List.length_cons, List.flatten_cons] at e3 e4
      have hxl : done.length + ch.length + r.flatten.length = x.length := by rw [← e4]; simp; omega
      refine Ok_ite (fun hc3 => ?_) (fun hc3 => by omega)
      refine Ok_iteO (fun h => by omega) (fun _ _ => ?_)
      refine Ok_cl1 (block_ok hn hd (by omega) hb3) ?_
      rw [show d.B b = packB k f ch from hb5]
      have hp0 : (packB k f ch)[0]? = some (u8 k) := rfl
      have hp1 : (packB k f ch)[1]? = some (u8 f) := rfl
      have hp2 : (packB k f ch)[2]? = some (u8 ch.length) := rfl
      refine Ok_ix (by omega) (by rw [packB_len hb4]; omega) (fun y hy => ?_)
      obtain rfl : u8 k = y := Option.some.inj (hp0.symm.trans hy)
      refine Ok_ix (by omega) (by rw [packB_len hb4]; omega) (fun y2 hy2 => ?_)
      obtain rfl : u8 (ch.length : Int) = y2 := Option.some.inj (hp2.symm.trans hy2)
      rw [u8_nat (by omega) (by omega), u8_nat (by omega) (by omega)]
      have hbad : ((decide (k < 1) || decide ((4 : Int) < k)) || decide ((60 : Int) < (ch.length : Int))) = false := by
        rw [decide_eq_false (by omega), decide_eq_false (by omega), decide_eq_false (by omega)]; rfl
      rw [hbad]
      refine Ok_cond (fun h => nomatch h) (fun _ => ?_)
      have hz8 : Ok (cond (decide (c = 0)) (nm ({ ({ state := 2, kind := if c = 0 then 0 else k, size := (done.length : Int), first := first, hash := if c = 0 then 0 else hashV k done, nxt := 0 } : Entr) with kind := k } : Entr) fun z9 => nm ({ z9 with hash := (ww k) } : Entr) fun z10 => some z10) (some { state := 2, kind := if c = 0 then 0 else k, size := (done.length : Int), first := first, hash := if c = 0 then 0 else hashV k done, nxt := 0 }))
          (fun e => e = { state := 2, kind := k, size := (done.length : Int), first := first, hash := hashV k done, nxt := 0 }) := by
        refine Ok_ite (fun h0 => Ok_nm (Ok_nm (Ok.some' ?_))) (fun h0 => Ok.some' ?_)
        · rw [e6 h0]
          show Entr.mk 2 k _ first (IntKind.u32.wrap k) 0 = _
          rw [ww_eq]; rfl
        · simp [h0]
      refine Ok_cl1 hz8.eq ?_
      refine Ok_ite (fun h => absurd rfl h) (fun _ => Ok_ob2 ?_)
      unfold m164_w2
      refine Ok_it2 (fun (j : Int) (e : Entr) => 0 ≤ j ∧ j ≤ ch.length ∧ e = { state := 2, kind := k, size := (done.length : Int), first := first, hash := hashV k (done ++ ch.take j.toNat), nxt := 0 }) (fun (j : Int) _ => (60 - j).toNat) ?_ n 0 _ ⟨by omega, by omega, by simp⟩ (by show (60 - 0 : Int).toNat < n; omega)
      rintro Q2 lp2 j e hQ2 ⟨j0, j1, rfl⟩ ih2
      rw [u8_nat (by omega) (by omega)]
      refine Ok_ite (fun hj => ?_) (fun hj => ?_)
      · simp (disch := omega) only [wi_of]
        refine Ok_ix (by omega) (by rw [packB_len hb4]; omega) (fun v hv => Ok_nm ?_)
        have hv := packB_at j0 hj hv
        refine ih2 _ _ ⟨by omega, by omega, ?_⟩ (by omega)
        congr 1
        rw [show (j + 1).toNat = j.toNat + 1 by omega, List.take_add_one, hv, ← List.append_assoc]
        exact hash_step.trans (hashV_snoc _ _ _).symm
      · obtain rfl : j = ch.length := by omega
        refine Ok.some' (hQ2 _ (Ok_nm ?_))
        rw [Int.toNat_natCast, List.take_length]
        refine Ok_ix (by omega) (by rw [packB_len hb4]; omega) (fun y3 hy3 => ?_)
        obtain rfl : u8 f = y3 := Option.some.inj (hp1.symm.trans hy3)
        rw [u8_nat hf.1 (by omega)]
        simp (disch := omega) only [wi_of]
        refine Ok_ite (fun hf0 => ?_) (fun hf0 => ?_)
        · have hr : r = [] := by
            cases r with
            | nil => rfl
            | cons c2 r2 => obtain ⟨_, _, _, hq, _⟩ := hb6; omega
          subst hr
          refine Ok_nm (Ok_bs (Ok.some' (hQ _ (Ok.some' ?_))))
          simp at e4
          subst e4
          simp
        · refine ih _ _ _ ⟨by omega, done ++ ch, r, bl', ?_, hb6, by omega, by simpa using e4, ?_, fun h => by omega⟩ (by omega)
          · rintro rfl; exact hf0 hb6.1
          · rw [if_neg (by omega), if_neg (by omega)]; simp
  · unfold chunks
    intro h
    have := chunkN_len (nbk x.length) x
    rw [h] at this
    have := nbk_pos x.length
    simp at *; omega
  · unfold chunks; rw [chunkN_len]; have := nbk_3 x.length; omega
  · unfold chunks; simp [chunkN_flat _ _ (nbk_le _ hx)]
theorem claim_ok {U : Int → Bool} {k first : Int} {x : List UInt8} {bl : List Int} (hn : 100000 ≤ n) (hd : d.Wf) (hU : Marks s.used U) (hx : x.length ≤ 180) (hc : Chn d.B k first (chunks x) bl) :
    Ok (m165 n s d first) (fun s' => ∃ u, s' = { s with used := u } ∧ Marks u (fun b => U b || bl.contains b)) := by
  unfold m165
  refine Ok_ob3 ?_
  unfold m165_w1
  refine Ok_it3 (fun (b c : Int) (s' : Store) => 0 ≤ c ∧ ∃ (done r : List Int) (cs : List (List UInt8)) (u : Int → Int), bl = done ++ r ∧ Chn d.B k b cs r ∧ (cs.length : Int) + c ≤ 3 ∧ s' = { s with used := u } ∧ Marks u (fun x => U x || done.contains x))
    (fun _ (c : Int) _ => (3 - c).toNat) ?_ n first 0 s ⟨by omega, [], bl, chunks x, s.used, rfl, hc, ?_, rfl, by simpa using hU⟩ (by show (3 - 0 : Int).toNat < n; omega)
  rotate_left
  · unfold chunks; rw [chunkN_len]; have := nbk_3 x.length; omega
  rintro Q lp b c s' hQ ⟨i0, done, r, cs, u, e1, e2, e3, rfl, e4⟩ ih
  refine Ok_ite2 (fun hc hb => ?_) (fun hc => ?_)
  · cases cs with
    | nil => exact absurd e2.1 hb
    | cons y cs =>
      obtain ⟨f, bl', hb1, hb2, hb3, hb4, hb5, hb6⟩ := e2
      have hf := hb6.rng
      obtain ⟨u', hu1, hu2⟩ := mark_ok' (n := n) (s := { s with used := u }) (on := true) e4 (show 0 ≤ b by omega) hb3
      refine Ok_cl1 hu1 (Ok_cl1 (block_ok hn hd (by omega) hb3) ?_)
      rw [show d.B b = packB k f y from hb5]
      refine Ok_cl1 (nextOf_ok hf.1 hf.2) ?_
      simp (disch := omega) only [wi_of]
      refine ih _ _ _ ⟨by omega, done ++ [b], bl', cs, u', by rw [e1, hb1]; simp, hb6, by simp only [List.length_cons] at e3; omega, rfl, ?_⟩ (by omega)
      intro w w0 w1
      obtain ⟨c1, c2, c3⟩ := hu2 w w0 w1
      refine ⟨c1, c2, fun j hj => ?_⟩
      rw [c3 j hj]
      unfold upd
      by_cases hbj : 64 * w + (j : Int) = b
      · simp [hbj]
      · simp [hbj]
  · have hcs : cs = [] := by
      cases cs with
      | nil => rfl
      | cons y cs =>
        obtain ⟨f, bl', hb1, hb2, hb3, hb4, hb5, hb6⟩ := e2
        simp only [List.length_cons] at e3
        exact absurd (show b = 0 from Classical.not_not.1 (hc (by omega))) (by omega)
    subst hcs
    obtain ⟨rfl, rfl⟩ := e2
    rw [List.append_nil] at e1
    subst e1
    exact Ok.some' (hQ _ (Ok.some' ⟨u, rfl, e4⟩))
end
/-- what lasts on a device -/
structure Las (D : Int → List UInt8) (A : Int → Ob) (root : Int) : Prop where
  ob : ∀ i, 1 ≤ i → i ≤ 48 → A i = Ob.free ∨ ((A i).st = 2 ∧ 1 ≤ (A i).kind ∧ (A i).kind ≤ 4 ∧ (A i).data.length ≤ 180 ∧ Chn D (A i).kind ((A i).bl.headD 0) (chunks (A i).data) (A i).bl ∧ (A i).bl.Nodup)
  dis : ∀ i j b, 1 ≤ i → i ≤ 48 → 1 ≤ j → j ≤ 48 → b ∈ (A i).bl → b ∈ (A j).bl → i = j
  sup : D 0 = supB A root
  rt : root = 0 ∨ (1 ≤ root ∧ root ≤ 48 ∧ (A root).st = 2)
  tw : ∀ i j, 1 ≤ i → i ≤ 48 → 1 ≤ j → j ≤ 48 → (A i).st = 2 → (A j).st = 2 → (A i).kind = (A j).kind → (A i).data = (A j).data → i = j
end Go.Proofs.Qxb6500350aGreat
