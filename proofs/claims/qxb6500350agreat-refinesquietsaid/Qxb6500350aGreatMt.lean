import Derived.Test.Qxb6500350aGreatN7
set_option linter.unusedVariables false
set_option linter.unusedSimpArgs false
namespace Go.Eng
theorem coverB_app {sh e : Env} : ∀ {a b : Env}, coverB sh e a = true → coverB sh e b = true → coverB sh e (a ++ b) = true
  | [], _, _, h => h
  | (s, v) :: r, b, ha, hb => by
    simp only [coverB, List.cons_append] at ha ⊢
    split
    · rename_i h1; rw [h1] at ha; exact coverB_app ha hb
    · rename_i h1
      rw [h1] at ha
      split
      · rename_i h2; rw [h2] at ha; cases ha
      · rename_i h2; rw [h2] at ha; exact coverB_app ha hb
theorem coverB_tr {sh sh2 e e0 Y : Env} (hc : coverB sh2 e0 sh = true) (he : e = Y ++ e0) (hY : coverB sh2 e0 Y = true) : ∀ {X : Env}, coverB sh e X = true → coverB sh2 e0 X = true
  | [], _ => rfl
  | (s, v) :: r, h => by
    simp only [coverB] at h ⊢
    cases h2 : gt sh2 s with
    | some _ =>
      dsimp only
      cases h1 : gt sh s with
      | some _ => rw [h1] at h; exact coverB_tr hc he hY h
      | none =>
        rw [h1] at h
        cases h3 : gt e s with
        | some _ => rw [h3] at h; cases h
        | none => rw [h3] at h; exact coverB_tr hc he hY h
    | none =>
      dsimp only
      cases h4 : gt e0 s with
      | some u =>
        cases h1 : gt sh s with
        | some w => exact (coverB_get hc s w u h1 h2 h4).elim
        | none =>
          rw [h1] at h
          have : gt e s ≠ none := by
            rw [he, gt_append]
            cases gt Y s <;> simp [h4]
          cases h3 : gt e s with
          | some _ => rw [h3] at h; cases h
          | none => exact (this h3).elim
      | none =>
        dsimp only
        cases h1 : gt sh s with
        | some _ => rw [h1] at h; exact coverB_tr hc he hY h
        | none =>
          rw [h1] at h
          cases h3 : gt e s with
          | some _ => rw [h3] at h; cases h
          | none => rw [h3] at h; exact coverB_tr hc he hY h
theorem coverB_split {sh e : Env} : ∀ {a b : Env}, coverB sh e (a ++ b) = true → coverB sh e a = true ∧ coverB sh e b = true
  | [], _, h => ⟨rfl, h⟩
  | (s, v) :: r, b, h => by
    simp only [coverB, List.cons_append] at h ⊢
    split
    · rename_i h1; rw [h1] at h; exact coverB_split h
    · rename_i h1
      rw [h1] at h
      split
      · rename_i h2; rw [h2] at h; cases h
      · rename_i h2; rw [h2] at h; exact coverB_split h
theorem cov_trans {sh sh2 e' e e0 : Env} (hl : Nat.ble e0.length e.length = true) (h1 : Cov sh e' e) (h2 : Cov sh2 (sh ++ e) e0) : Cov sh2 e' e0 := by
  have hl := Nat.le_of_ble_eq_true hl
  obtain ⟨a1, b1⟩ := h1
  obtain ⟨a2, b2⟩ := h2
  have he' : e' = e'.take (e'.length - e.length) ++ e := by
    conv => lhs; rw [← List.take_append_drop (e'.length - e.length) e', a1]
  have hlen : e'.length = (e'.take (e'.length - e.length)).length + e.length := by
    conv => lhs; rw [he']
    simp
  generalize hX : e'.take (e'.length - e.length) = X at *
  have hd : (sh ++ e).length - e0.length = sh.length + (e.length - e0.length) := by simp; omega
  rw [hd] at a2 b2
  have hdr : (sh ++ e).drop (sh.length + (e.length - e0.length)) = e.drop (e.length - e0.length) := by
    rw [List.drop_append, List.drop_of_length_le (by omega)]; simp
  have htk : (sh ++ e).take (sh.length + (e.length - e0.length)) = sh ++ e.take (e.length - e0.length) := by
    rw [List.take_append, List.take_of_length_le (by omega)]; simp
  rw [hdr] at a2
  rw [htk] at b2
  have hs := coverB_split b2
  have hee : e = e.take (e.length - e0.length) ++ e0 := by
    conv => lhs; rw [← List.take_append_drop (e.length - e0.length) e, a2]
  have hl2 : e'.length - e0.length = X.length + (e.length - e0.length) := by omega
  refine ⟨?_, ?_⟩
  · rw [hl2, he', List.drop_append, List.drop_of_length_le (by omega)]; simpa using a2
  · rw [hl2, he', List.take_append, List.take_of_length_le (by omega)]
    simp only [Nat.add_sub_cancel_left]
    exact coverB_app (coverB_tr hs.1 hee hs.2 b1) hs.2
section
variable {c : Cx} {e : Env} {S : SH} {Q : Exit → Env → SH → Prop}
theorem c_joinEnd {x : Code} {P' : Env → SH → Prop} {R' : SH} {e0 : Env} (P : Env → SH → Prop) (hQ : ∀ e' S', MeetP P' R' e0 e' S' → Q .normal e' S') (hl : Nat.ble e0.length e.length = true)
    (h : OkC c x e S (fun ex e' S' => match ex with | .normal => MeetP P S e e' S' | _ => Q ex e' S'))
    (k : ∀ sh G, P sh G → MeetP P' R' e0 (sh ++ e) (G ++ S)) : OkC c x e S Q := c_mono h fun ex e' S' hq => by
  cases ex
  case normal =>
    obtain ⟨sh, G, hj, h1, h2, F, hF⟩ := hq
    obtain ⟨sh2, G2, hj2, h3, h4, F2, hF2⟩ := k sh G hj
    refine hQ _ _ ⟨sh2, G2, hj2, ?_, cov_trans hl h2 h4, F2 ++ F, ?_⟩
    · have hg := env_cov h1 h2
      clear hF2 h4 hj2
      induction sh2 with
      | nil => trivial
      | cons a r ih => exact ⟨hg _ _ h3.1, ih h3.2⟩
    · unfold Sel at *
      refine hF.trans ?_
      rw [List.flatten_append (L₁ := F2), ← List.append_assoc]
      exact List.Perm.append_right _ hF2
  all_goals exact hq
end
theorem un12_m {α0 α1 α2 α3 α4 α5 α6 α7 α8 α9 α10 α11 τ : Type} {F : α0 → α1 → α2 → α3 → α4 → α5 → α6 → α7 → α8 → α9 → α10 → α11 → Option τ} {a0 : α0} {a1 : α1} {a2 : α2} {a3 : α3} {a4 : α4} {a5 : α5} {a6 : α6} {a7 : α7} {a8 : α8} {a9 : α9} {a10 : α10} {a11 : α11} {r : τ} (h : un12 F (a0, a1, a2, a3, a4, a5, a6, a7, a8, a9, a10, a11) = some r) : F a0 a1 a2 a3 a4 a5 a6 a7 a8 a9 a10 a11 = some r := h
end Go.Eng
