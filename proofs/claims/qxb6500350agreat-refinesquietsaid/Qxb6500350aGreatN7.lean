/- RULES: some more. -/
import Derived.Test.Qxb6500350aGreatN6
set_option linter.unusedVariables false
set_option linter.unusedSimpArgs false
namespace Go.Eng
theorem fl2 {ρ σ τ : Type} {x : Option (Flow ρ σ)} {K : ρ → Option τ} {F : σ → Option τ} {r : τ} (h : flow x K F = some r) : ∃ f G, G = F ∧ x = some f ∧ FlowP G K r f := by
  obtain ⟨f, h1, h2⟩ := fl h
  exact ⟨f, F, rfl, h1, h2⟩
def ckN (i : Int) : Option Unit := if 0 ≤ i then some () else none
theorem ckN_some {i : Int} {u : Unit} (h : ckN i = some u) : 0 ≤ i := by
  unfold ckN at h; split at h
  · assumption
  · cases h
theorem Own.rdnil {α : Type} {R : Lay α} {v : Value} {g C : List Chunk} (h : Own R v [] g) : Rd R C v [] := by
  obtain ⟨p, cap, rfl⟩ := h.rd.slice
  exact .inl ⟨rfl, _, _, rfl⟩
theorem Own.cut0 {α : Type} {R : Lay α} {v : Value} {l : List α} {g : List Chunk} (h : Own R v l g) : ∃ v', Own R v' [] g ∧ ∀ {P : Program} {n : Nat} {e : Env} {ty : TypeId} {t el : TypeId} {sz : Nat} {x : Operand} {k : IntKind}, SlcAt P t el sz → sz = R.sz → gv e x = some v → Yields P n e (.slice t x none (some (.const (.int k 0))) none) ty v' := by
  rcases h with ⟨rfl, rfl⟩ | ⟨b, cap, cur, rest, rfl, rfl, h1, h2, h3, h4⟩
  · refine ⟨_, .nil, fun {P n e ty t el sz x k} hf hsz hx a w d pos af he => ?_⟩
    obtain ⟨inf, h3, h4, rfl⟩ := hf
    have g1 := he.gv hx
    generalize hρ : a.eval = ρ at *
    have h5 : ρ (.const (.int k 0)) = .int k 0 := by rw [← hρ]; rfl
    simp [execOp, go_sem, g1, h5, Instr.sliceAt, Instr.slice, Instr.sliceBounds, Instr.sliceBound, asIntOf, run_underlying h3, sz_run h4]
  · refine ⟨.slice (some ⟨b, (if cap = 0 then 0 else 0 + 0 * R.sz), none⟩) (0 - 0) (cap - 0), ?_, fun hf hsz hx => y_sls (by rw [← hsz]; exact hf) hx bN (bS rfl rfl) (Nat.le_refl _) (Nat.zero_le _)⟩
    refine .inr ⟨b, cap, cur, rest, ?_, rfl, Nat.zero_le _, h2, h3, ?_⟩
    · have : (if cap = 0 then 0 else 0 + 0 * R.sz) = 0 := by split <;> simp
      rw [this]; rfl
    · simp [Els]
theorem retctt {P : Program} {fn : Func} {n r u s : Nat} {e : Env} {a : Act} {w0 w : World} {K0 : List Nat} {S : SH} {b t sz : Nat} {t' : TypeId} {cs : Array Value} {fz : Nat × Nat} {y z : Value} {S'' F : SH} {R : Value → SH → Prop} (hr : fn.results = #[.cell r t, .tmp u, .tmp s]) (he : EnvOk n e a) (hs : St w0 K0 w S)
    (hx : gt e r = some (.pointer (some ⟨b, 0, none⟩))) (hy : gt e u = some y) (hz : gt e s = some z) (ht : Agg P t sz) (hm : (b, Obj.cells cs t' fz) ∈ S.flatten) (hl : cs.size = sz) (hF : Sel S S'' F) (h : R (.tuple #[.agg cs, y, z]) S'') : ∃ v, (results fn a.tmps).run P w = .ok v w ∧ ∃ S'' F, Sel S S'' F ∧ R v S'' := by
  refine ⟨_, ?_, S'', F, hF, h⟩
  have h1 := he.2.2 r _ hx
  have h3 := he.2.2 u _ hy
  have h4 := he.2.2 s _ hz
  have g2 := run_loadCells (P := P) (o := 0) hs hm sz 0 #[] (by omega)
  have h0 := ht
  obtain ⟨_, i, _, _, hi, hsz⟩ := h0
  subst hl
  simp at g2
  simp [results, hr, Array.getD_eq_getD_getElem?, h1, h3, h4, asAddr, isAgg_agg ht, sz_run hi, hsz, g2, go_sem]
end Go.Eng
namespace Go.Eng
theorem cells1 {v : Value} (h : plainV v = true) : v.cells = [v].toArray := by cases v <;> first | rfl | simp [plainV] at h
theorem Agg.inf {P : Program} {t sz : Nat} (h : Agg P t sz) : P.info? t ≠ none := by
  obtain ⟨_, i, _, _, hi, _⟩ := h
  rw [hi]; exact fun h => nomatch h
theorem One.inf {P : Program} {t : Nat} (h : One P t) : P.info? t ≠ none := by
  obtain ⟨_, i, _, _, hi, _⟩ := h
  rw [hi]; exact fun h => nomatch h
theorem s_emp {R A F : SH} (h : Sel R A F) : Sel R ([] :: A) F := by unfold Sel at *; simpa using h
theorem run_loadH {P : Program} {w : World} {b o : Nat} {cs : Array Value} {t' : TypeId} {fz : Nat × Nat} (hb : w.heap[b]? = some (.cells cs t' fz)) :
    ∀ (k i : Nat) (acc : Array Value), o + i + k ≤ cs.size → (loadCellsFrom ⟨b, o, none⟩ i k acc).run P w = .ok (acc ++ cs.extract (o + i) (o + i + k)) w
  | 0, i, acc, _ => by simp [loadCellsFrom, go_sem]; omega
  | k + 1, i, acc, hk => by
    have hlt : o + i < cs.size := by omega
    have h1 : w.cell? ⟨b, o + i, none⟩ = some cs[o + i] := by simp [World.cell?, hb, hlt]
    have h2 := run_loadH (P := P) (o := o) hb k (i + 1) (acc.push cs[o + i]) (by omega)
    show ((load (Addr.add ⟨b, o, none⟩ i)).bind fun v => loadCellsFrom ⟨b, o, none⟩ (i + 1) k (acc.push v)).run P w = _
    rw [add_none]
    simp only [load, Sem.bind, Sem.run, h1]
    rw [h2]
    congr 1
    apply Array.ext'
    simp only [Array.toList_append, Array.toList_push, Array.toList_extract, List.extract_eq_take_drop, List.append_assoc]
    congr 1
    rw [show o + i + (k + 1) - (o + i) = k + 1 from by omega, show o + (i + 1) + k - (o + (i + 1)) = k from by omega,
      show o + (i + 1) = o + i + 1 from by omega, List.drop_eq_getElem_cons (i := o + i) (by simpa using hlt)]
    simp
section
variable {c : Cx} {d : Dx} {f : Nat} {listed : Array Bool} {T L : Env} {S : SH} {Q : Env → SH → Prop} {ty : TypeId} {pos : String} {af : Array Edge}
/-- a soft load of some cells -/
theorem d_ldag (i : Nat) {s : Nat} {g : Option (Nat × Bool)} {x : Operand} {t t' : TypeId} {b o sz : Nat} {cs vs : Array Value} {fz : Nat × Nat} (hi : d.ops[i]? = some ⟨some s, .load t x, ty, pos, af, g⟩) (hw : ∀ a, EnvOk c.n (T ++ L) a → Region.wanted (⟨some s, .load t x, ty, pos, af, g⟩ : Oper) (yielded d.ops a.tmps) = true) (hb : softB d.ops d.ph listed i = true) (ht : Agg c.P t sz) (hx : gv (T ++ L) x = some (.pointer (some ⟨b, o, none⟩)))
    (hk : ∀ x, x ∈ d.Ck → x ∈ S.flatten) (hm : (b, Obj.cells cs t' fz) ∈ d.Ck) (hc : cs.extract o (o + sz) = vs) (hl : o + sz ≤ cs.size) (hd : Nat.blt s c.n = true)
    (h : OkD c d f (listed.setIfInBounds i true) ((s, .agg vs) :: T) L S Q) : OkD c d (f + 1) listed T L S Q := by
  intro a w he hs
  refine softB_spec (v := .agg vs) hi hb (.inl ⟨hw a he, fun w' hk' => ?_⟩) (fun _ x hx => hs.1.2 x (hk x hx)) (h _ _ (he.putT _ hd) hs)
  have h0 := hk' rfl _ hm
  simp only at h0
  have g1 := he.gv hx
  have g2 := run_loadH (P := c.P) (o := o) h0 sz 0 #[] (by omega)
  have h3 := ht
  obtain ⟨_, i', _, _, hi', hsz⟩ := h3
  subst hc
  generalize a.eval = ρ at *
  simp at g2
  simp [execOp, go_sem, g1, Instr.loadAt, Instr.sureAddr, loadVar, isAgg_agg ht, sz_run hi', hsz, loadCells, g2]
theorem d_lda (i : Nat) {s : Nat} {x : Operand} {t t' : TypeId} {b o sz : Nat} {cs vs : Array Value} {fz : Nat × Nat} (hi : d.ops[i]? = some ⟨some s, .load t x, ty, pos, af, none⟩) (hb : softB d.ops d.ph listed i = true) (ht : Agg c.P t sz) (hx : gv (T ++ L) x = some (.pointer (some ⟨b, o, none⟩)))
    (hk : ∀ x, x ∈ d.Ck → x ∈ S.flatten) (hm : (b, Obj.cells cs t' fz) ∈ d.Ck) (hc : cs.extract o (o + sz) = vs) (hl : o + sz ≤ cs.size) (hd : Nat.blt s c.n = true)
    (h : OkD c d f (listed.setIfInBounds i true) ((s, .agg vs) :: T) L S Q) : OkD c d (f + 1) listed T L S Q :=
  d_ldag i hi (fun a _ => by simp [Region.wanted]) hb ht hx hk hm hc hl hd h
theorem d_ldat (i : Nat) {s s2 j : Nat} {bb : Bool} {oj : Oper} {x : Operand} {t t' : TypeId} {b o sz : Nat} {cs vs : Array Value} {fz : Nat × Nat} (hi : d.ops[i]? = some ⟨some s, .load t x, ty, pos, af, some (j, bb)⟩) (hj : d.ops[j]? = some oj) (hdj : oj.dst = some s2) (hv : gt (T ++ L) s2 = some (.bool bb)) (hb : softB d.ops d.ph listed i = true) (ht : Agg c.P t sz) (hx : gv (T ++ L) x = some (.pointer (some ⟨b, o, none⟩)))
    (hk : ∀ x, x ∈ d.Ck → x ∈ S.flatten) (hm : (b, Obj.cells cs t' fz) ∈ d.Ck) (hc : cs.extract o (o + sz) = vs) (hl : o + sz ≤ cs.size) (hd : Nat.blt s c.n = true)
    (h : OkD c d f (listed.setIfInBounds i true) ((s, .agg vs) :: T) L S Q) : OkD c d (f + 1) listed T L S Q :=
  d_ldag i hi (fun a he => by simp [Region.wanted, yielded, hj, hdj, he.2.2 s2 _ hv]) hb ht hx hk hm hc hl hd h
end
end Go.Eng

namespace Go.Eng
theorem Own.to {α : Type} {R : Lay α} {v : Value} {l l' : List α} {g : List Chunk} (h : Own R v l g) (e : l = l') : Own R v l' g := e ▸ h
theorem Rd.to {α : Type} {R : Lay α} {C : List Chunk} {v : Value} {l l' : List α} (h : Rd R C v l) (e : l = l') : Rd R C v l' := e ▸ h
theorem o_row' {c : Cx} {all : Array Oper} {l : List Oper} {T L : Env} {S S' : SH} {Q : Env → SH → Prop} {g g' : List Chunk} (hr : RepG S S' g g') (h : g' = g) (k : OkO c all l T L S' Q) : OkO c all l T L S Q := by
  subst h
  obtain ⟨A, B, rfl, rfl⟩ := hr
  exact k
/-- bytes to a string within a drawn region -/
theorem d_b2s {c : Cx} {d : Dx} {f : Nat} {listed : Array Bool} {T L : Env} {S : SH} {Q : Env → SH → Prop} {ty : TypeId} {pos : String} {af : Array Edge} (i : Nat) {s : Nat} {x : Operand} {ts t e : TypeId} {v : Value} {l : Str} {C : List Chunk} (hi : d.ops[i]? = some ⟨some s, .convert ts t x, ty, pos, af, none⟩) (hb : softB d.ops d.ph listed i = true) (hk : ∀ x, x ∈ d.Ck → x ∈ S.flatten)
    (hs : c.P.underlying ts = some (.slice e)) (he : c.P.underlying e = some (.int .u8)) (hdd : c.P.underlying t = some .string) (hx : gv (T ++ L) x = some v) (hv : Rd rByte C v l) (hC : ∀ z, z ∈ C → z ∈ d.Ck) (hd : Nat.blt s c.n = true)
    (h : OkD c d f (listed.setIfInBounds i true) ((s, .string ⟨l.toArray⟩) :: T) L S Q) : OkD c d (f + 1) listed T L S Q := by
  refine d_cvK i hi hb rfl hk (fun a hen w hw => ?_) hd h
  have g1 := hen.gv hx
  have key : (Conv.bytesToString v).run c.P w = .ok (.string ⟨l.toArray⟩) w := by
    rcases hv with ⟨rfl, p, cap, rfl⟩ | ⟨b, o, cap, cs, t', fz, rfl, h1, h2, h3, h4⟩
    · cases p with
      | none => simp [Conv.bytesToString]; rfl
      | some a0 =>
        have := run_bytesToString (P := c.P) w a0 0 cap [] (by simp [loadCells, loadCellsFrom])
        rw [this]; rfl
    · have h5 := h4.bytes
      have h8 : rByte.sz = 1 := rfl
      have h6 := run_loadH (P := c.P) (o := o) (hw _ (hC _ h1)) l.length 0 #[] (by rw [h8] at h3; omega)
      rw [h8, Nat.mul_one] at h5
      have h9 : cs.extract o (o + l.length) = (l.map (fun b => Value.int .u8 (b.toNat : Int))).toArray := by
        apply Array.ext'; rw [h5]
      simp only [Nat.add_zero, Array.empty_append, h9] at h6
      have := run_bytesToString (P := c.P) w ⟨b, o, none⟩ l.length cap (l.map (fun b => ((b.toNat : Nat) : Int))) (by
        unfold loadCells
        rw [h6]
        congr 2
        rw [List.map_map]; rfl)
      rw [this, push_fold]; rfl
  obtain ⟨p, cap, rfl⟩ := hv.slice
  have h2 := run_convert_bytes_string (P := c.P) w ts t e p l.length cap hs he hdd
  rw [key] at h2
  generalize a.eval = ρ at *
  generalize hz : convert ts t (Value.slice p l.length cap) = z at h2
  simp [execOp, go_sem, g1, hz, h2]
end Go.Eng

namespace Go.Eng
theorem c_drawT {c : Cx} {e : Env} {g : List Chunk} {S : SH} {Q : Exit → Env → SH → Prop} {id n : Nat} {l : List Oper} (ph : Array Bool) (hm : c.P.follows .mixedOrders = true) (hn : l.length = n)
    (h : OkD c ⟨l.toArray, ph, S.flatten⟩ n (Array.replicate n false) [] e (g :: S) (Q .normal)) : OkC c (.region id l.toArray true) e (g :: S) Q := by
  intro a w he hs
  refine wp_region_any hm ?_
  subst hn
  have h1 := h a { w with drawn := w.drawn + 1 } he (hs.drawn rfl rfl rfl rfl)
  have h2 := wpAny_of_C (Q' := PostQ c Q) (fun a w ⟨e', S', h3, h4, h5⟩ => ⟨e', S', h3, h4, h5⟩) _ _ _ _ h1
  simpa using h2
end Go.Eng
