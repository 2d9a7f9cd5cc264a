/- RefinesSaid. The shell after the given template; the walk is t3; the closed facts one by one. -/
import Derived.Test.Qxb6500350aGreatRw
import Derived.Test.Qxb6500350aGreatFactsR
import Derived.SizedLaws
set_option linter.unusedVariables false
namespace Go.Proofs.Qxb6500350aGreat.rowRefines
open Go.ChangeShapes Go.WideShapes Go.ChangeAt Go.RowKit
section
set_option maxRecDepth 100000
theorem b0 : (Rows.refinesRow.wf (OpenSpec.ofChange Rows.refinesSpec)) = true := by kernel_rfl
theorem b3 : (Tryz.f3.params.all (Tryz.prog.readableRec ·)) = true := by kernel_rfl
theorem b4 : (namedTie Tryz.prog Rows.refinesRow.named Rows.refinesSpec.vars) = true := by kernel_rfl
theorem b5 : ((Rows.refinesRow.stops == [])) = true := by kernel_rfl
theorem b7 : ((Rows.refinesRow.knobs == [])) = true := by kernel_rfl
theorem b9 : ((Rows.refinesRow.inPlace == Tryz.prog.inPlace 3)) = true := by kernel_rfl
theorem b10 : ((Rows.refinesRow.unfollowed == Tryz.prog.unfollowed 3)) = true := by kernel_rfl
theorem r0 : (Tryz.prog.closure 3).contains 288 = true := by kernel_rfl
theorem r1 : Tryz.prog.recurses 3 = true := by
  unfold Program.recurses
  rw [Bool.or_eq_true]
  exact .inr (List.any_eq_true.2 ⟨288, List.contains_iff_mem.1 r0, factsR.self288⟩)
theorem b11 : (Rows.refinesRow.recurses == Tryz.prog.recurses 3) = true := by rw [r1]; rfl
theorem b12 : ((Rows.refinesRow.named == Tryz.prog.varsNamed 3)) = true := by kernel_rfl
theorem b13 : ((Rows.refinesRow.maps == (Tryz.f3.params.toList ++ Rows.refinesSpec.plain.varTypes Tryz.prog).any (Tryz.prog.mapsRec ·))) = true := by kernel_rfl
theorem b14 : ((Rows.refinesRow.ifaces == (Tryz.f3.params.toList ++ Rows.refinesSpec.plain.varTypes Tryz.prog).any (Tryz.prog.ifacesRec ·))) = true := by kernel_rfl
theorem b15 : ((Rows.refinesRow.mapsOut == Tryz.prog.mapsAmong Tryz.f3.resultTypes.toList)) = true := by kernel_rfl
theorem b16 : ((Rows.refinesRow.loops == (Tryz.f3.params.toList ++ Rows.refinesSpec.plain.varTypes Tryz.prog).any (Tryz.prog.loopsFrom ·))) = true := by kernel_rfl
theorem b17 : ((Rows.refinesRow.wideKeys == (Tryz.f3.params.toList ++ Rows.refinesSpec.plain.varTypes Tryz.prog ++ Tryz.f3.resultTypes.toList).any (Tryz.prog.wideKeysFrom ·))) = true := by kernel_rfl
theorem b18 : (Rows.refinesSpec.vars.all (Tryz.prog.varReadable ·)) = true := by kernel_rfl
theorem b19 : (Tryz.f3.resultTypes.all (fun t => Tryz.prog.readableRec t && decide (t < Tryz.prog.types.size))) = true := by kernel_rfl
theorem b20 : ((Rows.refinesRow.ifacesOut == Tryz.f3.resultTypes.toList.any (Tryz.prog.ifacesRec ·))) = true := by kernel_rfl
theorem b21 : ((Rows.refinesRow.loopsOut == Tryz.f3.resultTypes.toList.any (Tryz.prog.loopsFrom ·))) = true := by kernel_rfl
theorem b22 : ((Rows.refinesRow.plainKeys == Tryz.prog.plainKeys)) = true := by kernel_rfl
theorem b23 : (Rows.refinesRow.shortTexts.isNone) = true := by kernel_rfl
theorem b26 : ((Rows.refinesRow.lifted == Tryz.prog.liftsFinal)) = true := by kernel_rfl
theorem b27 : ((Tryz.prog.make == some Rows.refinesRow.make)) = true := by kernel_rfl
theorem b28 : ((Rows.refinesRow.kinds == (if Rows.refinesRow.domain.isEmpty then [] else Tryz.f3.params.toList.map fun t => match Tryz.prog.underlying t with | some (.int k) => some k | _ => none))) = true := by kernel_rfl
theorem b29 : ((Rows.refinesRow.pinned == Rows.refinesRow.pinnedBy)) = true := by kernel_rfl
theorem b30 : ((Rows.refinesRow.veiled == (Tryz.f3.params.toList ++ Rows.refinesSpec.plain.varTypes Tryz.prog ++ Tryz.f3.resultTypes.toList).any (Tryz.prog.veiledRec ·))) = true := by kernel_rfl
theorem b31 : (Rows.refinesRow.veiledFits Tryz.prog Tryz.f3.params.toList (Tryz.f3.params.toList ++ Rows.refinesSpec.plain.varTypes Tryz.prog ++ Tryz.f3.resultTypes.toList)) = true := by kernel_rfl
theorem and_t {a b : Bool} (h : a = true) (k : b = true) : (a && b) = true := by rw [h, k]; rfl
theorem facts : joinedFacts Tryz.prog 3 Tryz.f3 Rows.refinesSpec Rows.refinesRow = true := by
  unfold joinedFacts
  exact and_t (and_t (and_t (and_t (and_t (and_t (and_t (and_t (and_t (and_t (and_t (and_t (and_t (and_t (and_t (and_t (and_t (and_t (and_t (and_t (and_t (and_t (and_t (and_t (and_t (and_t (and_t (and_t (and_t (and_t (and_t (b0) factsR.b1) factsR.b2) b3) b4) b5) factsR.b6) b7) factsR.b8) b9) b10) b11) b12) b13) b14) b15) b16) b17) b18) b19) b20) b21) b22) b23) factsR.b24) factsR.b25) b26) b27) b28) b29) b30) b31
theorem named : Tryz.prog.funcNamed Rows.refinesRow.func = some 3 := by kernel_rfl
theorem inst : Tryz.f3.isInstance Tryz.prog Rows.refinesRow.origin Rows.refinesRow.targs := of_decide_eq_true (by kernel_rfl)
theorem wrap : Tryz.f3.isWrapper Tryz.prog Rows.refinesRow.wrapper Rows.refinesRow.mainSum := by unfold Func.isWrapper; first | (rw [if_pos (by decide +kernel)]; kernel_rfl) | (rw [if_neg (by decide +kernel)]; exact ⟨rfl, rfl⟩)
end
theorem walk {p : Option Addr} {n cap : Nat} {g : List Go.Eng.Chunk} {l : List Op_} (hS : Go.Eng.Rd rOp_ g (.slice p n cap) l) (W : World) (hw : Go.Eng.SatL W g) :
    Calls Tryz.prog 3 #[.slice p n cap] W fun e W' => e = .returned (.bool true) ∧ (∀ k, k < W.heap.size → W'.heap[k]? = W.heap[k]?) ∧ W'.os = W.os ∧ W'.output = W.output := by
  obtain ⟨fuel, hf⟩ := ans3
  refine (t3 hS (hf l) W (by simpa using hw)).mono ?_
  rintro e W' ⟨v, S', rfl, ⟨rfl, rfl⟩, hst⟩
  exact ⟨rfl, old_of_st hw hst, hst.2.os, hst.2.output⟩
set_option maxRecDepth 100000 in
theorem lifted (os : Os) (started : os.Started) (H : Type) (enc : TypeId × Value → H) :
    ReturnsInHanded {} Tryz.checked os 3 .any (Rows.refinesSpec.pre6 enc Tryz.prog Tryz.f3 Rows.refinesRow.domain false) (Rows.refinesSpec.post enc Tryz.prog Tryz.f3 false true false false) := by
  refine returnsInHanded_of_change_sized (C := Tryz.checked) own350 started (by kernel_rfl) Tryz.func3
    (ChangeSpec.witness6 (enc := enc) (C := Tryz.checked) false ⟨#[], #[.slice none 0 0], []⟩ 8 (by kernel_rfl) (by kernel_rfl) (by kernel_rfl) (by kernel_rfl)) ?_
  intro W base args ds gs before hval0 hW hcnd hwt _
  have hval : ∀ (j : Nat) t v, Tryz.f3.params[j]? = some t → args[j]? = some v → Value.okWide Tryz.prog W .any base t v := hval0
  have hW' := hW
  obtain ⟨p, q, hA0, hV, rfl, hfz, hnd⟩ := hW
  have hA : DataW.TrodAll enc Tryz.prog W 0 (fun _ => true) true Tryz.f3.params.toList args.toList ds p := hA0
  rw [Tryz.params3] at hA hval
  obtain ⟨v0, vs0, d0, ds0, p0, q0, hargs, rfl, rfl, h0, r0⟩ := trodAll_cons hA
  obtain ⟨rfl, rfl, rfl⟩ := trodAll_nil r0
  obtain rfl : args = #[v0] := by cases args; simp_all
  obtain ⟨rfl, rfl⟩ := trodVars_none hV
  obtain ⟨a0, len, cap, rfl⟩ := okWide_slice Tryz.underlying22 (hval 0 22 v0 rfl rfl)
  obtain ⟨g, l, hS, hsat⟩ := scr_of h0
  clear hA0 hval0
  simp only [List.append_nil] at hW'
  refine (walk hS W hsat).mono fun e W' ⟨he, hold, hos, hout⟩ => ?_
  subst he
  exact ⟨_, rfl, post_old (pa := p0 ++ []) (pv := []) hW' (fun _ _ _ => (trodAll_cons_mk (shut_bool Tryz.underlying4 _) trodAll_mk0)) (fun sp hsp => (trodAll_cons_mk (arg_stays h0 hold (fun p hp => hsp p (by simpa using hp))) trodAll_mk0)) (fun _ _ => rfl) (by simp) hold hos hout (ok_one (by kernel_rfl) rfl (okWide_bool_mk Tryz.underlying4 _))⟩
theorem over : Rows.refinesRow.holds Tryz.pinned (OpenSpec.ofChange Rows.refinesSpec) :=
  OpenClaim.holds_of_wide 3 Tryz.f3 rfl rfl rfl rfl rfl rfl rfl ⟨rfl, rfl, rfl, rfl, rfl⟩ rfl rfl rfl rfl rfl named Tryz.func3 facts inst wrap
    (fun os started H enc _ => lifted os started H enc)
theorem proved : Rows.RefinesSaid := over
end Go.Proofs.Qxb6500350aGreat.rowRefines
