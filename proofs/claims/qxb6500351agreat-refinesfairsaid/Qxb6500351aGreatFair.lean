/- RefinesFairSaid. The shell after the given template; the walk is t6. -/
import Derived.Test.Qxb6500351aGreatRw
import Derived.Test.Qxb6500351aGreatRwF
import Derived.Test.Qxb6500351aGreatW107
import Derived.SizedLaws
set_option linter.unusedVariables false
namespace Go.Proofs.Qxb6500351aGreat.rowFair
open Go.ChangeShapes Go.WideShapes Go.ChangeAt Go.RowKit
theorem walk {p : Option Addr} {n cap : Nat} {g : List Go.Eng.Chunk} (hS : ScrPF p n g) (hn : n ≤ 9223372036854775807) (W : World) (hw : Go.Eng.SatL W g) :
    Calls Tryz.prog 6 #[.slice p n cap] W fun e W' => e = .returned (.bool true) ∧ (∀ k, k < W.heap.size → W'.heap[k]? = W.heap[k]?) ∧ W'.os = W.os ∧ W'.output = W.output := by
  refine (t6 p n cap g hS hn W (by simpa using hw)).mono ?_
  rintro e W' ⟨v, S', rfl, ⟨rfl, rfl⟩, hst⟩
  exact ⟨rfl, old_of_st hw hst, hst.2.os, hst.2.output⟩
set_option maxRecDepth 100000 in
theorem lifted (os : Os) (started : os.Started) (H : Type) (enc : TypeId × Value → H) :
    ReturnsInHanded {} Tryz.checked os 6 .any (Rows.refinesFairSpec.pre6 enc Tryz.prog Tryz.f6 Rows.refinesFairRow.domain false) (Rows.refinesFairSpec.post enc Tryz.prog Tryz.f6 false true false false) := by
  refine returnsInHanded_of_change_sized (C := Tryz.checked) own351 started (by kernel_rfl) Tryz.func6
    (ChangeSpec.witness6 (enc := enc) (C := Tryz.checked) false ⟨#[], #[.slice none 0 0], []⟩ 8 (by kernel_rfl) (by kernel_rfl) (by kernel_rfl) (by kernel_rfl)) ?_
  intro W base args ds gs before hval0 hW hcnd hwt _
  have hval : ∀ (j : Nat) t v, Tryz.f6.params[j]? = some t → args[j]? = some v → Value.okWide Tryz.prog W .any base t v := hval0
  have hW' := hW
  obtain ⟨p, q, hA0, hV, rfl, hfz, hnd⟩ := hW
  have hA : DataW.TrodAll enc Tryz.prog W 0 (fun _ => true) true Tryz.f6.params.toList args.toList ds p := hA0
  have hwt2 : (DataW.weightsEach Tryz.prog (Tryz.f6.params.toList ++ Rows.refinesFairSpec.plain.varTypes Tryz.prog) (ds ++ gs)).all (· ≤ reachBytes) = true := hwt
  rw [Tryz.params6] at hA hval hwt2
  obtain ⟨v0, vs0, d0, ds0, p0, q0, hargs, rfl, rfl, h0, r0⟩ := trodAll_cons hA
  obtain ⟨rfl, rfl, rfl⟩ := trodAll_nil r0
  obtain rfl : args = #[v0] := by cases args; simp_all
  obtain ⟨rfl, rfl⟩ := trodVars_none hV
  obtain ⟨a0, len, cap, rfl⟩ := okWide_slice Tryz.underlying22 (hval 0 22 v0 rfl rfl)
  have hw0 : (d0.weights Tryz.prog 22).all (· ≤ reachBytes) = true := by
    have : (d0.weights Tryz.prog 22 ++ DataW.weightsEach Tryz.prog (Rows.refinesFairSpec.plain.varTypes Tryz.prog) ([] ++ [])).all (· ≤ reachBytes) = true := hwt2
    rw [List.all_append, Bool.and_eq_true] at this
    exact this.1
  obtain ⟨g, hS, hn, hsat⟩ := scr_ofF h0 hw0
  clear hA0 hval0
  simp only [List.append_nil] at hW'
  refine (walk hS hn W hsat).mono fun e W' ⟨he, hold, hos, hout⟩ => ?_
  subst he
  exact ⟨_, rfl, post_old (pa := p0 ++ []) (pv := []) hW' (fun _ _ _ => (trodAll_cons_mk (shut_bool Tryz.underlying4 _) trodAll_mk0)) (fun sp hsp => (trodAll_cons_mk (arg_stays h0 hold (fun p hp => hsp p (by simpa using hp))) trodAll_mk0)) (fun _ _ => rfl) (by simp) hold hos hout (ok_one (by kernel_rfl) rfl (okWide_bool_mk Tryz.underlying4 _))⟩
theorem over : Rows.refinesFairRow.holds Tryz.pinned (OpenSpec.ofChange Rows.refinesFairSpec) :=
  OpenClaim.holds_of_wide 6 Tryz.f6 rfl rfl rfl rfl rfl rfl rfl ⟨rfl, rfl, rfl, rfl, rfl⟩ rfl rfl rfl rfl rfl (by kernel_rfl) Tryz.func6 (by kernel_rfl)
    (of_decide_eq_true (by kernel_rfl)) (by unfold Func.isWrapper; first | (rw [if_pos (by decide +kernel)]; kernel_rfl) | (rw [if_neg (by decide +kernel)]; exact ⟨rfl, rfl⟩))
    (fun os started H enc _ => lifted os started H enc)
theorem proved : Rows.RefinesFairSaid := over
end Go.Proofs.Qxb6500351aGreat.rowFair
