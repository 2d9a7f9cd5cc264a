/- THE ENGINE, part 4: small rules and arithmetic that the generated walks name. -/
import Derived.Test.Qxb6500350aGreatEngM
set_option linter.unusedVariables false
set_option linter.unusedSimpArgs false
namespace Go.Eng

theorem of_blt {a b : Nat} (h : Nat.blt a b = true) : a < b := Nat.le_of_ble_eq_true h
theorem of_ble {a b : Nat} (h : Nat.ble a b = true) : a ≤ b := Nat.le_of_ble_eq_true h

theorem w64 {n : Int} (h : -9223372036854775808 ≤ n ∧ n < 9223372036854775808) : IntKind.i64.wrap n = n := by
  simp [IntKind.wrap, IntKind.bits, IntKind.signed]; omega
theorem w8 (n : Int) : IntKind.u8.wrap n = n % 256 := by simp [IntKind.wrap, IntKind.bits, IntKind.signed]
theorem w16 (n : Int) : IntKind.u16.wrap n = n % 65536 := by simp [IntKind.wrap, IntKind.bits, IntKind.signed]
theorem w64u (n : Int) : IntKind.u64.wrap n = n % 18446744073709551616 := by simp [IntKind.wrap, IntKind.bits, IntKind.signed]
theorem tm {a b : Int} (h : 0 ≤ a) : a.tmod b = a % b := by rw [Int.tmod_eq_emod_of_nonneg h]
theorem td {a b : Int} (h : 0 ≤ a) : IntKind.i64.wrap (a.tdiv b) = IntKind.i64.wrap (a / b) := by rw [Int.tdiv_eq_ediv_of_nonneg h]

section
variable {c : Cx} {e L T : Env} {S : SH} {Q : Exit → Env → SH → Prop}
theorem c_front {k : Code} {A F : SH} (hp : Sel S A F) (h : OkC c k e (A ++ F) Q) : OkC c k e S Q := c_perm (by rw [List.flatten_append]; exact hp) h
theorem c_merge {k : Code} {g1 g2 : List Chunk} {R : SH} (h : OkC c k e ((g1 ++ g2) :: R) Q) : OkC c k e (g1 :: g2 :: R) Q :=
  c_perm (by simp only [List.flatten_cons, List.append_assoc]; exact List.Perm.refl _) h
theorem c_unmerge {k : Code} {g1 g2 : List Chunk} {R : SH} (h : OkC c k e (g1 :: g2 :: R) Q) : OkC c k e ((g1 ++ g2) :: R) Q :=
  c_perm (by simp only [List.flatten_cons, List.append_assoc]; exact List.Perm.refl _) h
theorem c_drop {k : Code} {A F : SH} (hp : Sel S A F) (h : OkC c k e A Q) : OkC c k e S Q := fun a w he hs => h a w he (hs.drop hp)
theorem c_condT {x : Operand} {p q : Code} (hx : gv e x = some (.bool true)) (h1 : OkC c p e S Q) : OkC c (.cond x p q) e S Q :=
  c_cond hx (fun _ => h1) (fun h => nomatch h)
theorem c_condF {x : Operand} {p q : Code} (hx : gv e x = some (.bool false)) (h1 : OkC c q e S Q) : OkC c (.cond x p q) e S Q :=
  c_cond hx (fun h => nomatch h) (fun _ => h1)
end

theorem ret2 {P : Program} {fn : Func} {n t u : Nat} {e : Env} {a : Act} {w : World} {S S'' F : SH} {R : Value → SH → Prop} {x y : Value} (hr : fn.results = #[.tmp t, .tmp u]) (he : EnvOk n e a) (hx : gt e t = some x) (hy : gt e u = some y) (hF : Sel S S'' F) (h : R (.tuple #[x, y]) S'') :
    ∃ v, (results fn a.tmps).run P w = .ok v w ∧ ∃ S'' F, Sel S S'' F ∧ R v S'' := by
  refine ⟨_, results_tmp2 hr _ _ _, S'', F, hF, ?_⟩
  have h1 := he.2.2 t x hx
  have h2 := he.2.2 u y hy
  simpa [Array.getD_eq_getD_getElem?, h1, h2] using h
theorem ret3 {P : Program} {fn : Func} {n t u s : Nat} {e : Env} {a : Act} {w : World} {S S'' F : SH} {R : Value → SH → Prop} {x y z : Value} (hr : fn.results = #[.tmp t, .tmp u, .tmp s]) (he : EnvOk n e a) (hx : gt e t = some x) (hy : gt e u = some y) (hz : gt e s = some z) (hF : Sel S S'' F) (h : R (.tuple #[x, y, z]) S'') :
    ∃ v, (results fn a.tmps).run P w = .ok v w ∧ ∃ S'' F, Sel S S'' F ∧ R v S'' := by
  refine ⟨.tuple #[a.tmps.getD t undef, a.tmps.getD u undef, a.tmps.getD s undef], by simp [results, hr], S'', F, hF, ?_⟩
  have h1 := he.2.2 t x hx
  have h2 := he.2.2 u y hy
  have h3 := he.2.2 s z hz
  simpa [Array.getD_eq_getD_getElem?, h1, h2, h3] using h

theorem run_cellVar {P : Program} {w0 w : World} {K0 : List Nat} {S : SH} {b t sz : Nat} {t' : TypeId} {cs : Array Value} {fz : Nat × Nat} (hs : St w0 K0 w S) (ht : Agg P t sz) (hm : (b, Obj.cells cs t' fz) ∈ S.flatten) (hl : cs.size = sz) :
    (loadVar t ⟨b, 0, none⟩).run P w = .ok (.agg cs) w := by
  have g2 := run_loadCells (P := P) (o := 0) hs hm sz 0 #[] (by omega)
  have h0 := ht
  obtain ⟨_, i, _, _, hi, hsz⟩ := h0
  subst hl
  simp at g2
  simp [loadVar, go_sem, isAgg_agg ht, sz_run hi, hsz, loadCells, g2]
/-- a result that lies in a variable -/
theorem retc {P : Program} {fn : Func} {n r : Nat} {e : Env} {a : Act} {w0 w : World} {K0 : List Nat} {S : SH} {b t sz : Nat} {t' : TypeId} {cs : Array Value} {fz : Nat × Nat} {S'' F : SH} {R : Value → SH → Prop} (hr : fn.results = #[.cell r t]) (he : EnvOk n e a) (hs : St w0 K0 w S)
    (hx : gt e r = some (.pointer (some ⟨b, 0, none⟩))) (ht : Agg P t sz) (hm : (b, Obj.cells cs t' fz) ∈ S.flatten) (hl : cs.size = sz) (hF : Sel S S'' F) (h : R (.agg cs) S'') : ∃ v, (results fn a.tmps).run P w = .ok v w ∧ ∃ S'' F, Sel S S'' F ∧ R v S'' := by
  refine ⟨_, ?_, S'', F, hF, h⟩
  have h1 := he.2.2 r _ hx
  have g2 := run_loadCells (P := P) (o := 0) hs hm sz 0 #[] (by omega)
  have h0 := ht
  obtain ⟨_, i, _, _, hi, hsz⟩ := h0
  subst hl
  simp at g2
  simp [results, hr, Array.getD_eq_getD_getElem?, h1, asAddr, isAgg_agg ht, sz_run hi, hsz, g2, go_sem]
theorem retct {P : Program} {fn : Func} {n r u : Nat} {e : Env} {a : Act} {w0 w : World} {K0 : List Nat} {S : SH} {b t sz : Nat} {t' : TypeId} {cs : Array Value} {fz : Nat × Nat} {y : Value} {S'' F : SH} {R : Value → SH → Prop} (hr : fn.results = #[.cell r t, .tmp u]) (he : EnvOk n e a) (hs : St w0 K0 w S)
    (hx : gt e r = some (.pointer (some ⟨b, 0, none⟩))) (hy : gt e u = some y) (ht : Agg P t sz) (hm : (b, Obj.cells cs t' fz) ∈ S.flatten) (hl : cs.size = sz) (hF : Sel S S'' F) (h : R (.tuple #[.agg cs, y]) S'') : ∃ v, (results fn a.tmps).run P w = .ok v w ∧ ∃ S'' F, Sel S S'' F ∧ R v S'' := by
  refine ⟨_, ?_, S'', F, hF, h⟩
  have h1 := he.2.2 r _ hx
  have h3 := he.2.2 u _ hy
  have g2 := run_loadCells (P := P) (o := 0) hs hm sz 0 #[] (by omega)
  have h0 := ht
  obtain ⟨_, i, _, _, hi, hsz⟩ := h0
  subst hl
  simp at g2
  simp [results, hr, Array.getD_eq_getD_getElem?, h1, h3, asAddr, isAgg_agg ht, sz_run hi, hsz, g2, go_sem]
section
variable {c : Cx} {all : Array Oper} {rest : List Oper} {T L : Env} {S : SH} {Q : Env → SH → Prop} {pos : String} {af : Array Edge} {ty : TypeId}
/-- a call that reads what it owns and leaves it: the heap stays as it is written -/
theorem o_callr {d : Nat} {f : FuncId} {args : List Operand} {aty : Array TypeId} {vl : List Value} {A F : SH} {R : Value → Prop} (hent : Ent c.P f) (hargs : argL (T ++ L) args = some vl) (ht : Trip c.P f vl.toArray A (fun u S' => R u ∧ S' = A))
    (hp : Sel S A F) (hd : Nat.blt d c.n = true) (h : ∀ v, R v → OkO c all rest ((d, v) :: T) L S Q) : OkO c all (⟨some d, .call ⟨.value (.func f), args.toArray, aty⟩, ty, pos, af, none⟩ :: rest) T L S Q :=
  o_call hent hargs ht hp hd (fun v S' ⟨h1, h2⟩ => by
    subst h2
    refine o_perm ?_ (h v h1)
    rw [List.flatten_append]
    exact List.Perm.symm hp)
theorem o_passU {d : Nat} {op : Op} {j s : Nat} {b : Bool} {oj : Oper} (hj : all[j]? = some oj) (hdj : oj.dst = some s) (hv : gt (T ++ L) s = some undef) (hd : Nat.blt d c.n = true)
    (h : OkO c all rest ((d, undef) :: T) L S Q) : OkO c all (⟨some d, op, ty, pos, af, some (j, b)⟩ :: rest) T L S Q := by
  intro Q' hQ a w he hs
  have hw : Region.wanted ⟨some d, op, ty, pos, af, some (j, b)⟩ (yielded all a.tmps) = false := by
    simp [Region.wanted, yielded, hj, hdj, he.2.2 s _ hv, undef]
  unfold wpList
  rw [if_neg (by simp [hw])]
  exact h Q' hQ _ _ (he.putT undef hd) hs
theorem o_front {l : List Oper} {A F : SH} (hp : Sel S A F) (h : OkO c all l T L (A ++ F) Q) : OkO c all l T L S Q :=
  o_perm (by rw [List.flatten_append]; exact hp) h
theorem o_merge {l : List Oper} {g1 g2 : List Chunk} {R : SH} (h : OkO c all l T L ((g1 ++ g2) :: R) Q) : OkO c all l T L (g1 :: g2 :: R) Q :=
  o_perm (by simp only [List.flatten_cons, List.append_assoc]; exact List.Perm.refl _) h
theorem o_unmerge {l : List Oper} {g1 g2 : List Chunk} {R : SH} (h : OkO c all l T L (g1 :: g2 :: R) Q) : OkO c all l T L ((g1 ++ g2) :: R) Q :=
  o_perm (by simp only [List.flatten_cons, List.append_assoc]; exact List.Perm.refl _) h
theorem o_drop {l : List Oper} {A F : SH} (hp : Sel S A F) (h : OkO c all l T L A Q) : OkO c all l T L S Q :=
  fun Q' hQ a w he hs => h Q' hQ a w he (hs.drop hp)
theorem o_callrv {d : Nat} {f : FuncId} {args : List Operand} {aty : Array TypeId} {vl : List Value} {v : Value} {A F : SH} (hent : Ent c.P f) (hargs : argL (T ++ L) args = some vl) (ht : Trip c.P f vl.toArray A (fun u S' => u = v ∧ S' = A))
    (hp : Sel S A F) (hd : Nat.blt d c.n = true) (h : OkO c all rest ((d, v) :: T) L S Q) : OkO c all (⟨some d, .call ⟨.value (.func f), args.toArray, aty⟩, ty, pos, af, none⟩ :: rest) T L S Q :=
  o_callr hent hargs ht hp hd (fun u hu => by subst hu; exact h)
end
end Go.Eng
