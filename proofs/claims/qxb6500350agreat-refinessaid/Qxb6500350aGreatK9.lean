/- PLAIN LAW: RELEASE, DROP, ABORT. -/
import Derived.Test.Qxb6500350aGreatK8
set_option linter.unusedVariables false
set_option linter.unusedSimpArgs false
set_option maxHeartbeats 1000000
namespace Go.Proofs.Qxb6500350aGreat
open Go.Eng Go
section
variable {n : Nat} {s : Store} {d : Dev} {A : Int → Ob} {root : Int} {H : Int → Prop}
theorem release_ok {i : Int} (hn : 100000 ≤ n) (hd : d.Wf) (h : Sti s d.B A H) (h0 : 1 ≤ i) (h1 : i ≤ 48) (hst : (A i).st ≠ 0) (hH : ¬ H i) : Ok (m313 n s d i) (fun s' => Sti s' d.B (upd A i Ob.free) H ∧ s'.root = s.root) := by
  have he := h.ent i h0 h1
  obtain ⟨f1, f2, f3, f4, f5, f6, f7, f8, f9, f10⟩ := he.nf hst
  unfold m313
  refine Ok_ck (by omega) (by omega) (Ok_ob3 ?_)
  unfold m313_w1
  refine Ok_it3 (fun (b c : Int) (s' : Store) => 0 ≤ c ∧ ∃ (done r : List Int) (cs : List (List UInt8)) (u : Int → Int), (A i).bl = done ++ r ∧ Chn d.B (A i).kind b cs r ∧ (cs.length : Int) + c ≤ 3 ∧ s' = { s with used := u } ∧ Marks u (fun x => usedB A x && !done.contains x))
    (fun _ (c : Int) _ => (3 - c).toNat) ?_ n (s.tab i).first 0 s ⟨by omega, [], (A i).bl, chunks (A i).data, s.used, rfl, f9, ?_, rfl, by simpa using h.um⟩ (by show (3 - 0 : Int).toNat < n; omega)
  rotate_left
  · unfold chunks; rw [chunkN_len]; have := nbk_3 (A i).data.length; omega
  rintro Q lp b c s' hQ ⟨i0, done, r, cs, u, e1, e2, e3, rfl, e4⟩ ih
  refine Ok_ite2 (fun hc hb => ?_) (fun hc => ?_)
  · cases cs with
    | nil => exact absurd e2.1 hb
    | cons x cs =>
      obtain ⟨f, bl', hb1, hb2, hb3, hb4, hb5, hb6⟩ := e2
      have hf := hb6.rng
      obtain ⟨u', hu1, hu2⟩ := mark_ok' (n := n) (s := { s with used := u }) (on := false) e4 (show 0 ≤ b by omega) hb3
      refine Ok_cl1 hu1 (Ok_cl1 (block_ok hn hd (by omega) hb3) ?_)
      rw [show d.B b = packB (A i).kind f x from hb5]
      refine Ok_cl1 (nextOf_ok hf.1 hf.2) ?_
      simp (disch := omega) only [wi_of]
      refine ih _ _ _ ⟨by omega, done ++ [b], bl', cs, u', by rw [e1, hb1]; simp, hb6, by simp only [List.length_cons] at e3; omega, rfl, ?_⟩ (by omega)
      intro w w0 w1
      obtain ⟨c1, c2, c3⟩ := hu2 w w0 w1
      refine ⟨c1, c2, fun j hj => ?_⟩
      rw [c3 j hj]
      unfold upd
      by_cases hbj : 64 * w + (j : Int) = b
      · simp [hbj]
      · simp [hbj]
  · have hcs : cs = [] := by
      cases cs with
      | nil => rfl
      | cons x cs =>
        obtain ⟨f, bl', hb1, hb2, hb3, hb4, hb5, hb6⟩ := e2
        simp only [List.length_cons] at e3
        exact absurd (show b = 0 from Classical.not_not.1 (hc (by omega))) (by omega)
    subst hcs
    obtain ⟨rfl, rfl⟩ := e2
    rw [List.append_nil] at e1
    subst e1
    refine Ok.some' (hQ _ (Ok_ck (by omega) (by omega) (Ok_nm (Ok_nm (Ok.some' ⟨?_, rfl⟩)))))
    have hAi : ∀ j, j ≠ i → upd A i Ob.free j = A j := fun j hj => by simp [upd, hj]
    have hAii : upd A i Ob.free i = Ob.free := by simp [upd]
    refine ⟨fun j j0 j1 => ?_, fun a b c a0 a1 b0 b1 ha hb => ?_, ?_, ?_, ?_, fun j j0 j1 hj => ?_⟩
    · by_cases hj : j = i
      · subst hj
        rw [hAii]
        simp only [upI, if_true]
        exact ⟨rfl, fun _ => ⟨rfl, rfl⟩, fun h => absurd rfl h⟩
      · rw [hAi j hj]; simp only [upI, if_neg hj]; exact h.ent j j0 j1
    · have ga : a ≠ i := by rintro rfl; rw [hAii] at ha; cases ha
      have gb : b ≠ i := by rintro rfl; rw [hAii] at hb; cases hb
      rw [hAi a ga] at ha; rw [hAi b gb] at hb; exact h.dis a b c a0 a1 b0 b1 ha hb
    · have : usedB (upd A i Ob.free) = fun x => usedB A x && !(A i).bl.contains x := by
        funext x
        rw [Bool.eq_iff_iff, usedB_iff, Bool.and_eq_true, usedB_iff]
        simp only [Bool.not_eq_true', List.contains_eq_mem, decide_eq_false_iff_not]
        constructor
        · rintro ⟨j, j0, j1, hj⟩
          have gj : j ≠ i := by rintro rfl; rw [hAii] at hj; cases hj
          rw [hAi j gj] at hj
          exact ⟨⟨j, j0, j1, hj⟩, fun hx => gj (h.dis j i x j0 j1 h0 h1 hj hx)⟩
        · rintro ⟨⟨j, j0, j1, hj⟩, hx⟩
          have gj : j ≠ i := by rintro rfl; exact hx hj
          exact ⟨j, j0, j1, by rw [hAi j gj]; exact hj⟩
      rw [this]; exact e4
    · have g1 := nfr_more (A := A) (o := Ob.free) h0 h1 hst rfl
      have g2 := nfr_le A
      have g3 := h.nf
      show IntKind.i64.wrap (s.nfree + 1) = _
      rw [wi_of (by omega) (by omega)]; omega
    · obtain ⟨L, hL⟩ := h.hg
      refine ⟨L, fun b b0 b1 => ?_⟩
      obtain ⟨l1, l2, l3⟩ := hL b b0 b1
      have hni : ∀ j, j ∈ L b → j ≠ i := by rintro j hj rfl; exact hH ((l3 j).1 hj).2.2.1
      refine ⟨l1.congr (fun j hj => by simp [upI, hni j hj]), l2, fun j => ?_⟩
      rw [l3 j]
      by_cases hj : j = i
      · subst hj
        exact ⟨fun ⟨_, _, g, _⟩ => absurd g hH, fun ⟨_, _, g, _⟩ => absurd g hH⟩
      · rw [hAi j hj]
    · have gj : j ≠ i := by rintro rfl; exact hH hj
      rw [hAi j gj]; exact h.hs j j0 j1 hj
theorem Sti.congrH {s : Store} {D : Int → List UInt8} {A : Int → Ob} {H H' : Int → Prop} (h : Sti s D A H) (hH : ∀ i, 1 ≤ i → i ≤ 48 → (H i ↔ H' i)) : Sti s D A H' := by
  refine ⟨h.ent, h.dis, h.um, h.nf, ?_, fun i h0 h1 hi => h.hs i h0 h1 ((hH i h0 h1).2 hi)⟩
  obtain ⟨L, hL⟩ := h.hg
  refine ⟨L, fun b b0 b1 => ?_⟩
  obtain ⟨l1, l2, l3⟩ := hL b b0 b1
  refine ⟨l1, l2, fun i => ?_⟩
  rw [l3 i]
  exact ⟨fun ⟨g1, g2, g3, g4⟩ => ⟨g1, g2, (hH i g1 g2).1 g3, g4⟩, fun ⟨g1, g2, g3, g4⟩ => ⟨g1, g2, (hH i g1 g2).2 g3, g4⟩⟩
/-- Drop of a live id -/
theorem drop_ok {i : Int} (hn : 100000 ≤ n) (hd : d.Wf) (h : Sto s d.B A root) (h0 : 1 ≤ i) (h1 : i ≤ 48) (hl : (A i).lv) :
    Ok (m304 n s d i) (fun r => r.1 = 0 ∧ Sto r.2 d.B (upd A i (if (A i).st = 1 then Ob.free else { (A i) with st := 3 })) root) := by
  have hst : (A i).st ≠ 0 := by rcases hl with h | h <;> omega
  unfold m304
  refine Ok_cl1 (live_ok h i) ?_
  rw [decide_eq_true ⟨h0, h1, hl⟩]
  refine Ok_iteN (fun h => nomatch h) (fun _ => Ok_ob1 ((unhang_ok hn h.sti h0 h1 hl).mono ?_))
  rintro s1 ⟨g1, g2⟩
  refine Ok_ck (by omega) (by omega) ?_
  rw [(g1.ent i h0 h1).st]
  have hrt : ∀ o : Ob, (o.st = 2 ∨ o.st = 3 ↔ (A i).st = 2 ∨ (A i).st = 3) → ((A i).st = 2 ∨ (A i).st = 3 → o.bl = (A i).bl) → d.B 0 = supB (upd A i o) root ∧ (root = 0 ∨ (1 ≤ root ∧ root ≤ 48 ∧ ((upd A i o root).st = 2 ∨ (upd A i o root).st = 3))) := by
    intro o ho hbl
    refine ⟨?_, ?_⟩
    · rw [h.sup]
      refine (supB_congr (fun j j0 j1 => ?_)).symm
      by_cases hj : j = i
      · subst hj; simp only [upd, if_true]; exact ⟨ho, hbl⟩
      · simp [upd, hj]
    · rcases h.rt with h6 | ⟨r0, r1, r2⟩
      · exact .inl h6
      · refine .inr ⟨r0, r1, ?_⟩
        by_cases hj : root = i
        · subst hj; simp only [upd, if_true]; exact ho.2 r2
        · simp only [upd, if_neg hj]; exact r2
  have htw : ∀ o : Ob, ¬ o.lv → ∀ a b, 1 ≤ a → a ≤ 48 → 1 ≤ b → b ≤ 48 → (upd A i o a).lv → (upd A i o b).lv → (upd A i o a).kind = (upd A i o b).kind → (upd A i o a).data = (upd A i o b).data → a = b := by
    intro o ho a b a0 a1 b0 b1 ha hb hk hdt
    have ga : a ≠ i := by rintro rfl; simp only [upd, if_true] at ha; exact ho ha
    have gb : b ≠ i := by rintro rfl; simp only [upd, if_true] at hb; exact ho hb
    simp only [upd, if_neg ga, if_neg gb] at ha hb hk hdt
    exact h.tw a b a0 a1 b0 b1 ha hb hk hdt
  have hHv : ∀ o : Ob, ¬ o.lv → ∀ j, 1 ≤ j → j ≤ 48 → (((A j).lv ∧ j ≠ i) ↔ (upd A i o j).lv) := by
    intro o ho j j0 j1
    by_cases hj : j = i
    · subst hj; simp only [upd, if_true]; exact ⟨fun h => absurd rfl h.2, fun h => absurd h ho⟩
    · simp only [upd, if_neg hj]; exact ⟨fun h => h.1, fun h => ⟨h, hj⟩⟩
  refine Ok_ite (fun h2 => ?_) (fun h2 => ?_)
  · rw [if_pos h2]
    refine Ok_ob1 ((release_ok hn hd g1 h0 h1 hst (fun hh => hh.2 rfl)).mono ?_)
    rintro s2 ⟨k1, k2⟩
    have hno : ¬ Ob.free.lv := by rintro (h | h) <;> cases h
    have := hrt Ob.free (by rw [h2]; exact ⟨(fun h => by rcases h with h | h <;> cases h), (fun h => by rcases h with h | h <;> cases h)⟩) (fun h => by rw [h2] at h; rcases h with h | h <;> cases h)
    exact Ok.some' ⟨rfl, k1.sto (hHv _ hno) (k2.trans (g2.trans h.rd)) this.1 this.2 (htw _ hno)⟩
  · rw [if_neg h2]
    refine Ok_ck (by omega) (by omega) (Ok_nm (Ok.some' ⟨rfl, ?_⟩))
    have h2' : (A i).st = 2 := by rcases hl with h | h; exact absurd h h2; exact h
    have hno : ¬ Ob.lv { (A i) with st := 3 } := by rintro (h | h) <;> cases h
    have := hrt { (A i) with st := 3 } ⟨fun _ => .inl h2', fun _ => .inr rfl⟩ (fun _ => rfl)
    exact (g1.restate hst (by omega) (by omega)).sto (hHv _ hno) (g2.trans h.rd) this.1 this.2 (htw _ hno)
theorem drop_no {i : Int} (h : Sto s d.B A root) (hl : ¬ (1 ≤ i ∧ i ≤ 48 ∧ (A i).lv)) : m304 n s d i = some (6, s) := by
  refine Ok.eq ?_
  unfold m304
  refine Ok_cl1 (live_ok h i) ?_
  rw [decide_eq_false hl]
  exact Ok_iteN (fun _ => Ok.some' rfl) (fun h => nomatch h)
end
end Go.Proofs.Qxb6500350aGreat
