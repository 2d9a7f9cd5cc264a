/- THE ENGINE, part 3: operations on memory; calls. -/
import Derived.Test.Qxb6500350aGreatEngO
set_option linter.unusedVariables false
set_option linter.unusedSimpArgs false
namespace Go.Eng

/-! ### Finding and replacing a block in a symbolic heap -/
theorem m0 {c : Chunk} {R : SH} : c ∈ List.flatten ([c] :: R) := by simp
theorem ms {c : Chunk} {g : List Chunk} {R : SH} (h : c ∈ List.flatten R) : c ∈ List.flatten (g :: R) := by
  rw [List.flatten_cons]; exact List.mem_append_right _ h
theorem mg {c : Chunk} {g : List Chunk} {R : SH} (h : c ∈ g) : c ∈ List.flatten (g :: R) := by
  rw [List.flatten_cons]; exact List.mem_append_left _ h

def Rep (S S' : SH) (x y : Chunk) : Prop := ∃ A B, S.flatten = A ++ x :: B ∧ S'.flatten = A ++ y :: B
theorem r0 {x y : Chunk} {R : SH} : Rep ([x] :: R) ([y] :: R) x y := ⟨[], R.flatten, rfl, rfl⟩
theorem rs {x y : Chunk} {g : List Chunk} {R R' : SH} (h : Rep R R' x y) : Rep (g :: R) (g :: R') x y := by
  obtain ⟨A, B, h1, h2⟩ := h
  exact ⟨g ++ A, B, by simp [h1], by simp [h2]⟩
/-- inside a group -/
theorem rg {x y : Chunk} {A B : List Chunk} {R : SH} : Rep ((A ++ x :: B) :: R) ((A ++ y :: B) :: R) x y := ⟨A, B ++ R.flatten, by simp, by simp⟩

theorem St.upd {w0 w w' : World} {K0 : List Nat} {S S' : SH} {b : Nat} {o o' : Obj} (h : St w0 K0 w S) (hr : Rep S S' (b, o) (b, o'))
    (h1 : w'.os = w.os) (h2 : w'.tape = w.tape) (h3 : w'.output = w.output) (h4 : w'.heap.size = w.heap.size) (h5 : w'.heap[b]? = some o') (h6 : ∀ k, k ≠ b → w'.heap[k]? = w.heap[k]?) : St w0 K0 w' S' := by
  obtain ⟨A, B, hA, hB⟩ := hr
  have hk : keys S'.flatten = keys S.flatten := by rw [hA, hB]; simp [keys]
  have hb : b ∈ keys S.flatten := by rw [hA]; simp [keys]
  refine ⟨⟨by rw [hk]; exact h.1.1, fun x hx => ?_⟩, ?_⟩
  · rw [hB] at hx
    have hnd := h.1.1
    rw [hA] at hnd
    simp only [keys, List.map_append, List.map_cons] at hnd
    have hnd' := List.nodup_append.1 hnd
    rcases List.mem_append.1 hx with hx | hx
    · rw [h6 x.1 (fun e => hnd'.2.2 x.1 (List.mem_map.2 ⟨x, hx, rfl⟩) b (by simp) e)]
      exact h.1.2 x (by rw [hA]; exact List.mem_append_left _ hx)
    · rcases List.mem_cons.1 hx with hx | hx
      · subst hx; exact h5
      · have hne : x.1 ≠ b := fun e => by
          have := (List.nodup_cons.1 hnd'.2.1).1
          exact this (List.mem_map.2 ⟨x, hx, e⟩)
        rw [h6 x.1 hne]
        exact h.1.2 x (by rw [hA]; exact List.mem_append_right _ (List.mem_cons_of_mem _ hx))
  · rw [hk]
    exact { os := h1.trans h.2.os, tape := h2.trans h.2.tape, output := h3.trans h.2.output, size := by have := h.2.size; omega,
            block := fun k hk hn => by
              have hne : k ≠ b := fun e => by
                subst e
                rcases h.2.keys k hb with h7 | h7
                · exact hn h7
                · omega
              rw [h6 k hne]; exact h.2.block k hk hn
            keys := h.2.keys }

theorem St.new {w0 w : World} {K0 : List Nat} {S : SH} (h : St w0 K0 w S) (o : Obj) : St w0 K0 (w.alloc o) ([(w.heap.size, o)] :: S) := by
  have hs := h.2.size
  have hsz : (w.alloc o).heap.size = w.heap.size + 1 := by simp
  have hold : ∀ k, k < w.heap.size → (w.alloc o).heap[k]? = w.heap[k]? := fun k hk => by
    show (w.heap.push o)[k]? = _
    rw [Array.getElem?_push, if_neg (by omega)]
  refine ⟨⟨?_, ?_⟩, ?_⟩
  · simp only [List.flatten_cons, List.cons_append, List.nil_append, keys, List.map_cons, List.nodup_cons]
    exact ⟨fun hm => by have := h.1.lt hm; omega, h.1.1⟩
  · intro x hx
    simp only [List.flatten_cons, List.cons_append, List.nil_append, List.mem_cons] at hx
    rcases hx with rfl | hx
    · show (w.heap.push o)[w.heap.size]? = _
      simp
    · rw [hold x.1 (h.1.lt (List.mem_map.2 ⟨x, hx, rfl⟩))]
      exact h.1.2 x hx
  · refine { os := h.2.os, tape := h.2.tape, output := h.2.output, size := by omega, block := fun k hk hn => by rw [hold k (by omega)]; exact h.2.block k hk hn, keys := fun k hk => ?_ }
    simp only [List.flatten_cons, List.cons_append, List.nil_append, keys, List.map_cons, List.mem_cons] at hk
    rcases hk with rfl | hk
    · exact .inr hs
    · exact h.2.keys k hk

theorem St.drawn {w0 w w' : World} {K0 : List Nat} {S : SH} (h : St w0 K0 w S) (h1 : w'.os = w.os) (h2 : w'.tape = w.tape) (h3 : w'.output = w.output) (h4 : w'.heap = w.heap) : St w0 K0 w' S := by
  refine ⟨⟨h.1.1, fun x hx => by rw [h4]; exact h.1.2 x hx⟩, ?_⟩
  exact { os := h1.trans h.2.os, tape := h2.trans h.2.tape, output := h3.trans h.2.output, size := by rw [h4]; exact h.2.size, block := fun k hk hn => by rw [h4]; exact h.2.block k hk hn, keys := h.2.keys }

theorem St.cell {w0 w : World} {K0 : List Nat} {S : SH} (h : St w0 K0 w S) {b o : Nat} {cs : Array Value} {ty : TypeId} {fz : Nat × Nat} {v : Value}
    (hm : (b, Obj.cells cs ty fz) ∈ S.flatten) (hc : cs[o]? = some v) : w.cell? ⟨b, o, none⟩ = some v := by
  have := h.1.2 _ hm
  simp only at this
  simp [World.cell?, this, hc]

theorem St.frozen {w0 w : World} {K0 : List Nat} {S : SH} (h : St w0 K0 w S) {b o : Nat} {cs : Array Value} {ty : TypeId}
    (hm : (b, Obj.cells cs ty (0, 0)) ∈ S.flatten) : w.frozen? ⟨b, o, none⟩ = false := by
  have := h.1.2 _ hm
  simp only at this
  simp [World.frozen?, this]

theorem Rep.mem {S S' : SH} {x y : Chunk} (h : Rep S S' x y) : x ∈ S.flatten := by
  obtain ⟨A, B, hA, _⟩ := h
  rw [hA]; simp

def plainV : Value → Bool
  | .agg _ => false
  | .tuple _ => false
  | _ => true

theorem St.set {w0 w : World} {K0 : List Nat} {S S' : SH} {b o : Nat} {cs : Array Value} {ty : TypeId} {v : Value} (h : St w0 K0 w S)
    (hr : Rep S S' (b, .cells cs ty (0, 0)) (b, .cells (cs.setIfInBounds o v) ty (0, 0))) : St w0 K0 (w.setCell ⟨b, o, none⟩ v) S' := by
  have hb := h.1.2 _ hr.mem
  simp only at hb
  refine h.upd hr rfl rfl rfl (by simp [World.setCell]) ?_ fun k hk => ?_
  · simp [World.setCell, Array.getElem?_modify, hb]
  · simp only [World.setCell, Array.getElem?_modify]
    rw [if_neg (fun e => hk e.symm)]

/-- one store of one plain cell -/
theorem run_store {P : Program} {w : World} {a : Addr} {u v : Value} (hv : plainV v = true) (hc : w.cell? a = some u) (hf : w.frozen? a = false) {α : Type} (k : Unit → Sem α) :
    ((store a v).bind k).run P w = (k ()).run P (w.setCell a v) := by
  cases v <;> simp only [plainV, Bool.false_eq_true] at hv <;> simp [store, Sem.bind, Sem.run, hc, hf]

def setAll (cs : Array Value) (o : Nat) : List Value → Array Value
  | [] => cs
  | v :: r => setAll (cs.setIfInBounds o v) (o + 1) r

theorem Rep.chain {S S' : SH} {b : Nat} {o1 o3 : Obj} (h : Rep S S' (b, o1) (b, o3)) (o2 : Obj) : ∃ S'', Rep S S'' (b, o1) (b, o2) ∧ Rep S'' S' (b, o2) (b, o3) := by
  obtain ⟨A, B, hA, hB⟩ := h
  exact ⟨[A ++ (b, o2) :: B], ⟨A, B, hA, by simp⟩, ⟨A, B, by simp, hB⟩⟩

theorem run_storeCells {P : Program} {w0 : World} {K0 : List Nat} {ty : TypeId} {b o : Nat} : ∀ (vs : List Value) (i : Nat) (cs : Array Value) (w : World) (S S' : SH), St w0 K0 w S →
    Rep S S' (b, .cells cs ty (0, 0)) (b, .cells (setAll cs (o + i) vs) ty (0, 0)) → vs.all plainV = true → o + i + vs.length ≤ cs.size →
    ∃ w', (storeCells ⟨b, o, none⟩ vs i).run P w = .ok () w' ∧ St w0 K0 w' S'
  | [], i, cs, w, S, S', h, hr, _, _ => ⟨w, rfl, by
      obtain ⟨A, B, hA, hB⟩ := hr
      exact h.perm (by rw [hA, hB]; exact List.Perm.refl _)⟩
  | v :: r, i, cs, w, S, S', h, hr, hv, hl => by
    simp only [List.all_cons, Bool.and_eq_true, List.length_cons] at hv hl
    simp only [setAll] at hr
    obtain ⟨S'', hr1, hr2⟩ := hr.chain (.cells (cs.setIfInBounds (o + i) v) ty (0, 0))
    obtain ⟨w', hw', hs'⟩ := run_storeCells (P := P) r (i + 1) _ _ S'' S' (h.set hr1) (by rw [← Nat.add_assoc]; exact hr2) hv.2 (by simp; omega)
    refine ⟨w', ?_, hs'⟩
    have hlt : o + i < cs.size := by omega
    show ((store (Addr.add ⟨b, o, none⟩ i) v).bind fun _ => storeCells ⟨b, o, none⟩ r (i + 1)).run P w = _
    rw [add_none, run_store hv.1 (h.cell hr.mem (Array.getElem?_eq_getElem hlt)) (h.frozen hr.mem)]
    exact hw'

section
variable {c : Cx} {all : Array Oper} {rest : List Oper} {T L : Env} {S : SH} {Q : Env → SH → Prop} {pos : String} {af : Array Edge} {ty : TypeId}

def notAgg : TypeDesc → Bool
  | .struct _ => false
  | .array _ _ => false
  | _ => true
def One (P : Program) (t : TypeId) : Prop := ∃ d i, P.underlying t = some d ∧ notAgg d = true ∧ P.info? t = some i ∧ P.cellsOf t = 1
def Agg (P : Program) (t : TypeId) (sz : Nat) : Prop := ∃ d i, P.underlying t = some d ∧ notAgg d = false ∧ P.info? t = some i ∧ P.cellsOf t = sz

theorem isAgg_one {P : Program} {t : TypeId} (h : One P t) (w : World) : (isAgg t).run P w = .ok false w := by
  obtain ⟨d, i, h1, h2, _⟩ := h
  unfold isAgg
  cases d <;> simp [notAgg] at h2 <;> simp [go_sem, run_underlying h1]
theorem isAgg_agg {P : Program} {t : TypeId} {sz : Nat} (h : Agg P t sz) (w : World) : (isAgg t).run P w = .ok true w := by
  obtain ⟨d, i, h1, h2, _⟩ := h
  unfold isAgg
  cases d <;> simp [notAgg] at h2 <;> simp [go_sem, run_underlying h1]

theorem o_ld {d : Nat} {x : Operand} {t t' : TypeId} {b o : Nat} {cs : Array Value} {fz : Nat × Nat} {v : Value} (ht : One c.P t) (hx : gv (T ++ L) x = some (.pointer (some ⟨b, o, none⟩)))
    (hm : (b, Obj.cells cs t' fz) ∈ S.flatten) (hc : cs[o]? = some v) (hd : Nat.blt d c.n = true)
    (h : OkO c all rest ((d, v) :: T) L S Q) : OkO c all (⟨some d, .load t x, ty, pos, af, none⟩ :: rest) T L S Q := by
  intro Q' hQ a w he hs
  refine wpList_plain rfl fun K hK => ?_
  have g1 := he.gv hx
  have h1 : (execOp a.eval ⟨some d, .load t x, ty, pos, af, none⟩).run c.P w = .ok (.value v) w := by
    generalize a.eval = ρ at *
    simp [execOp, go_sem, g1, Instr.loadAt, Instr.sureAddr, loadVar, isAgg_one ht, hs.cell hm hc]
  rw [Oper.wp, h1, Oper.upon_value]
  exact hK _ _ (h Q' hQ _ _ (he.putT v hd) hs)

theorem run_loadCells {P : Program} {w0 w : World} {K0 : List Nat} {b o : Nat} {cs : Array Value} {t' : TypeId} {fz : Nat × Nat} (h : St w0 K0 w S) (hm : (b, Obj.cells cs t' fz) ∈ S.flatten) :
    ∀ (k i : Nat) (acc : Array Value), o + i + k ≤ cs.size → (loadCellsFrom ⟨b, o, none⟩ i k acc).run P w = .ok (acc ++ cs.extract (o + i) (o + i + k)) w
  | 0, i, acc, _ => by simp [loadCellsFrom, go_sem]; omega
  | k + 1, i, acc, hk => by
    have hlt : o + i < cs.size := by omega
    have h1 := h.cell (o := o + i) hm (Array.getElem?_eq_getElem hlt)
    have h2 := run_loadCells (P := P) (o := o) h hm k (i + 1) (acc.push cs[o + i]) (by omega)
    show ((load (Addr.add ⟨b, o, none⟩ i)).bind fun v => loadCellsFrom ⟨b, o, none⟩ (i + 1) k (acc.push v)).run P w = _
    rw [add_none]
    simp only [load, Sem.bind, Sem.run, h1]
    rw [h2]
    congr 1
    apply Array.ext'
    simp only [Array.toList_append, Array.toList_push, Array.toList_extract, List.extract_eq_take_drop, List.append_assoc]
    congr 1
    rw [show o + i + (k + 1) - (o + i) = k + 1 from by omega, show o + (i + 1) + k - (o + (i + 1)) = k from by omega,
      show o + (i + 1) = o + i + 1 from by omega, List.drop_eq_getElem_cons (i := o + i) (by simpa using hlt)]
    simp

theorem o_lda {d : Nat} {x : Operand} {t t' : TypeId} {b o sz : Nat} {cs vs : Array Value} {fz : Nat × Nat} (ht : Agg c.P t sz) (hx : gv (T ++ L) x = some (.pointer (some ⟨b, o, none⟩)))
    (hm : (b, Obj.cells cs t' fz) ∈ S.flatten) (hc : cs.extract o (o + sz) = vs) (hl : o + sz ≤ cs.size) (hd : Nat.blt d c.n = true)
    (h : OkO c all rest ((d, .agg vs) :: T) L S Q) : OkO c all (⟨some d, .load t x, ty, pos, af, none⟩ :: rest) T L S Q := by
  intro Q' hQ a w he hs
  refine wpList_plain rfl fun K hK => ?_
  have g1 := he.gv hx
  have g2 := run_loadCells (P := c.P) hs hm sz 0 #[] (by omega)
  have h0 := ht
  obtain ⟨_, i, _, _, hi, hsz⟩ := h0
  have h1 : (execOp a.eval ⟨some d, .load t x, ty, pos, af, none⟩).run c.P w = .ok (.value (.agg vs)) w := by
    generalize a.eval = ρ at *
    subst hc
    simp [execOp, go_sem, g1, Instr.loadAt, Instr.sureAddr, loadVar, isAgg_agg ht, sz_run hi, hsz, loadCells, g2]
  rw [Oper.wp, h1, Oper.upon_value]
  exact hK _ _ (h Q' hQ _ _ (he.putT _ hd) hs)

/-- a whole variable of a struct type -/
theorem o_ldw {d : Nat} {x : Operand} {t t' : TypeId} {b sz : Nat} {cs : Array Value} {fz : Nat × Nat} (ht : Agg c.P t sz) (hx : gv (T ++ L) x = some (.pointer (some ⟨b, 0, none⟩)))
    (hm : (b, Obj.cells cs t' fz) ∈ S.flatten) (hl : cs.size = sz) (hd : Nat.blt d c.n = true)
    (h : OkO c all rest ((d, .agg cs) :: T) L S Q) : OkO c all (⟨some d, .load t x, ty, pos, af, none⟩ :: rest) T L S Q :=
  o_lda ht hx hm (by subst hl; simp) (by omega) hd h

theorem o_st {x y : Operand} {t t' : TypeId} {b o : Nat} {cs cs' : Array Value} {v : Value} {S' : SH} (ht : One c.P t) (hx : gv (T ++ L) x = some (.pointer (some ⟨b, o, none⟩))) (hy : gv (T ++ L) y = some v) (hv : plainV v = true)
    (hr : Rep S S' (b, .cells cs t' (0, 0)) (b, .cells cs' t' (0, 0))) (hc : cs.setIfInBounds o v = cs') (hl : o < cs.size)
    (h : OkO c all rest T L S' Q) : OkO c all (⟨none, .store t x y, ty, pos, af, none⟩ :: rest) T L S Q := by
  intro Q' hQ a w he hs
  refine wpList_plain rfl fun K hK => ?_
  have g1 := he.gv hx
  have g2 := he.gv hy
  subst hc
  have h2 := hs.set hr
  obtain ⟨_, i, _, _, hi, hsz⟩ := ht
  have h3 : v.cells = #[v] := by cases v <;> first | rfl | simp [plainV] at hv
  have h4 := run_store (P := c.P) hv (hs.cell hr.mem (Array.getElem?_eq_getElem hl)) (hs.frozen (o := o) hr.mem) (fun _ => Sem.pure Next.skip)
  have h1 : (execOp a.eval ⟨none, .store t x y, ty, pos, af, none⟩).run c.P w = .ok .skip (w.setCell ⟨b, o, none⟩ v) := by
    generalize a.eval = ρ at *
    have h5 : (storeCells ⟨b, o, none⟩ [v] 0).run c.P w = .ok () (w.setCell ⟨b, o, none⟩ v) :=
      (run_store (P := c.P) hv (hs.cell hr.mem (Array.getElem?_eq_getElem hl)) (hs.frozen (o := o) hr.mem) (fun _ => storeCells ⟨b, o, none⟩ [] 1)).trans rfl
    have q1 := hs.cell hr.mem (Array.getElem?_eq_getElem hl)
    have q2 := hs.frozen (o := o) hr.mem
    clear h4 h2 hr h3 h5
    cases v <;> (first | (simp [plainV] at hv; done) | (simp [execOp, go_sem, g1, g2, Instr.storeAt, Instr.sureAddr, storeVar, sz_run hi, hsz, store, Sem.run, q1, q2]; done))
  rw [Oper.wp, h1, Oper.upon_skip]
  exact hK _ _ (h Q' hQ _ _ he h2)

theorem o_sta {x y : Operand} {t t' : TypeId} {b o sz : Nat} {cs cs' vs : Array Value} {S' : SH} (ht : Agg c.P t sz) (hx : gv (T ++ L) x = some (.pointer (some ⟨b, o, none⟩))) (hy : gv (T ++ L) y = some (.agg vs)) (hv : vs.toList.all plainV = true) (hz : vs.size = sz)
    (hr : Rep S S' (b, .cells cs t' (0, 0)) (b, .cells cs' t' (0, 0))) (hc : setAll cs o vs.toList = cs') (hl : o + sz ≤ cs.size)
    (h : OkO c all rest T L S' Q) : OkO c all (⟨none, .store t x y, ty, pos, af, none⟩ :: rest) T L S Q := by
  intro Q' hQ a w he hs
  refine wpList_plain rfl fun K hK => ?_
  have g1 := he.gv hx
  have g2 := he.gv hy
  subst hc
  obtain ⟨_, i, _, _, hi, hsz⟩ := ht
  obtain ⟨w', hw', hs'⟩ := run_storeCells (P := c.P) vs.toList 0 cs w S S' hs hr hv (by simp; omega)
  have h1 : (execOp a.eval ⟨none, .store t x y, ty, pos, af, none⟩).run c.P w = .ok .skip w' := by
    generalize a.eval = ρ at *
    simp [execOp, go_sem, g1, g2, Instr.storeAt, Instr.sureAddr, storeVar, sz_run hi, hsz, Value.cells, hz, hw']
  rw [Oper.wp, h1, Oper.upon_skip]
  exact hK _ _ (h Q' hQ _ _ he hs')

/-! New variables -/
def ZeroAt (P : Program) (t : TypeId) (z : Array Value) : Prop := ∃ i v, P.info? t = some i ∧ i.zero = some v ∧ v.cells = z

theorem o_alloc {d : Nat} {t : TypeId} {z : Array Value} (ht : ZeroAt c.P t z) (hd : Nat.blt d c.n = true) (hT : gt T d = none)
    (h : ∀ b, OkO c all rest T ((d, .pointer (some ⟨b, 0, none⟩)) :: L) ([(b, .cells z t (0, 0))] :: S) Q) : OkO c all (⟨some d, .alloc t, ty, pos, af, none⟩ :: rest) T L S Q := by
  intro Q' hQ a w he hs
  refine wpList_plain rfl fun K hK => ?_
  obtain ⟨i, v, hi, hv, rfl⟩ := ht
  have h1 : (execOp a.eval ⟨some d, .alloc t, ty, pos, af, none⟩).run c.P w = .ok (.value (.pointer (some ⟨w.heap.size, 0, none⟩))) (w.alloc (.cells v.cells t)) := by
    simp [execOp, go_sem, Instr.alloc, zeroValue, run_typeInfo w hi, hv, newVar, newRow]
  rw [Oper.wp, h1, Oper.upon_value]
  exact hK _ _ (h w.heap.size Q' hQ _ _ (he.putL _ hd hT) (hs.new _))

theorem o_box {d : Nat} {t : TypeId} {x : Operand} {v : Value} {z : Array Value} (hx : gv (T ++ L) x = some v) (hz : v.cells = z) (hd : Nat.blt d c.n = true) (hT : gt T d = none)
    (h : ∀ b, OkO c all rest T ((d, .pointer (some ⟨b, 0, none⟩)) :: L) ([(b, .cells z t (0, 0))] :: S) Q) : OkO c all (⟨some d, .box t x, ty, pos, af, none⟩ :: rest) T L S Q := by
  intro Q' hQ a w he hs
  refine wpList_plain rfl fun K hK => ?_
  have g1 := he.gv hx
  subst hz
  have h1 : (execOp a.eval ⟨some d, .box t x, ty, pos, af, none⟩).run c.P w = .ok (.value (.pointer (some ⟨w.heap.size, 0, none⟩))) (w.alloc (.cells v.cells t)) := by
    generalize a.eval = ρ at *
    simp [execOp, go_sem, g1, Instr.box, newVar, newRow]
  rw [Oper.wp, h1, Oper.upon_value]
  exact hK _ _ (h w.heap.size Q' hQ _ _ (he.putL _ hd hT) (hs.new _))

/-! Calls -/
/-- picking groups out of a symbolic heap -/
def Sel (S A F : SH) : Prop := S.flatten.Perm (A.flatten ++ F.flatten)
theorem St.drop {w0 w : World} {K0 : List Nat} {S A F : SH} (h : St w0 K0 w S) (hp : Sel S A F) : St w0 K0 w A :=
  St.sub (S := A ++ F) (h.perm (by rw [List.flatten_append]; exact hp)) (by rw [List.flatten_append]; exact List.sublist_append_left _ _)
theorem s_nil {S : SH} : Sel S [] S := List.Perm.refl _
theorem s_take {g : List Chunk} {R A F : SH} (h : Sel R A F) : Sel (g :: R) (g :: A) F := by
  unfold Sel at *; simp only [List.flatten_cons, List.append_assoc]; exact h.append_left g
theorem s_skip {g : List Chunk} {R A F : SH} (h : Sel R A F) : Sel (g :: R) A (g :: F) := by
  unfold Sel at *
  simp only [List.flatten_cons]
  refine (h.append_left g).trans ?_
  rw [← List.append_assoc, ← List.append_assoc]
  exact List.perm_append_comm.append_right _

def Ent (P : Program) (f : FuncId) : Prop := ∃ fn, P.funcs[f]? = some fn ∧ (fn.name == "runtime.NumGoroutine") = false ∧ fn.body.isNone = false

def argL (e : Env) : List Operand → Option (List Value)
  | [] => some []
  | x :: r => match gv e x, argL e r with
    | some v, some vs => some (v :: vs)
    | _, _ => none

theorem argL_eval {n : Nat} {e : Env} {a : Act} (he : EnvOk n e a) : ∀ (l : List Operand) (vs : List Value), argL e l = some vs → l.map a.eval = vs
  | [], vs, h => by simp [argL] at h; simp [h]
  | x :: r, vs, h => by
    simp only [argL] at h
    split at h
    · rename_i v vs' h1 h2
      cases h
      simp [he.gv h1, argL_eval he r vs' h2]
    · cases h

theorem call_run {P : Program} {n : Nat} {e : Env} {a : Act} {w : World} {f : FuncId} {args : List Operand} {aty : Array TypeId} {d : Option Nat} {vl : List Value} (he : EnvOk n e a) (hent : Ent P f) (hargs : argL e args = some vl) :
    (execOp a.eval ⟨d, .call ⟨.value (.func f), args.toArray, aty⟩, ty, pos, af, none⟩).run P w = .ok (.enter f vl.toArray) w := by
  obtain ⟨fn, h1, h2, h3⟩ := hent
  have h4 := argL_eval he args vl hargs
  have h5 : a.eval (.func f) = .func (.func f) #[] #[] := rfl
  have h6 : ¬ fn.name = "runtime.NumGoroutine" := by simpa using h2
  have h7 : ¬ fn.body = none := fun e0 => by rw [e0] at h3; cases h3
  clear h2 h3
  generalize a.eval = ρ at *
  simp [execOp, go_sem, resolve, h5, Deferred.ofValue, invoke, callFunc, h1, h6, h7, h4]

theorem o_call {d : Nat} {f : FuncId} {args : List Operand} {aty : Array TypeId} {vl : List Value} {A F : SH} {R : Value → SH → Prop} (hent : Ent c.P f) (hargs : argL (T ++ L) args = some vl) (ht : Trip c.P f vl.toArray A R)
    (hp : Sel S A F) (hd : Nat.blt d c.n = true)
    (h : ∀ v S', R v S' → OkO c all rest ((d, v) :: T) L (S' ++ F) Q) : OkO c all (⟨some d, .call ⟨.value (.func f), args.toArray, aty⟩, ty, pos, af, none⟩ :: rest) T L S Q := by
  intro Q' hQ a w he hs
  refine wpList_plain rfl fun K hK => ?_
  rw [Oper.wp, call_run he hent hargs, Oper.upon_enter]
  refine (ht w (hs.1.perm hp).left).mono ?_
  rintro e' w' ⟨v, S', rfl, hR, hst⟩
  exact hK _ _ (h v S' hR Q' hQ _ _ (he.putT v hd) (hs.frame hp hst))

/-- a call that owns nothing and leaves nothing: a plain function of its arguments -/
theorem o_callp {d : Nat} {f : FuncId} {args : List Operand} {aty : Array TypeId} {vl : List Value} {R : Value → Prop} (hent : Ent c.P f) (hargs : argL (T ++ L) args = some vl) (ht : Trip c.P f vl.toArray [] (fun v S' => S' = [] ∧ R v))
    (hd : Nat.blt d c.n = true) (h : ∀ v, R v → OkO c all rest ((d, v) :: T) L S Q) : OkO c all (⟨some d, .call ⟨.value (.func f), args.toArray, aty⟩, ty, pos, af, none⟩ :: rest) T L S Q :=
  o_call (A := []) (F := S) hent hargs ht (List.Perm.refl _) hd (fun v S' ⟨h1, h2⟩ => by subst h1; exact h v h2)
/-- a call that owns nothing and leaves nothing, with one value told -/
theorem o_callv {d : Nat} {f : FuncId} {args : List Operand} {aty : Array TypeId} {vl : List Value} {v : Value} (hent : Ent c.P f) (hargs : argL (T ++ L) args = some vl) (ht : Trip c.P f vl.toArray [] (fun u S' => S' = [] ∧ u = v))
    (hd : Nat.blt d c.n = true) (h : OkO c all rest ((d, v) :: T) L S Q) : OkO c all (⟨some d, .call ⟨.value (.func f), args.toArray, aty⟩, ty, pos, af, none⟩ :: rest) T L S Q :=
  o_callp hent hargs ht hd (fun u hu => by subst hu; exact h)

/-- a call whose result is thrown away -/
theorem o_call0 {f : FuncId} {args : List Operand} {aty : Array TypeId} {vl : List Value} {A F : SH} {R : Value → SH → Prop} (hent : Ent c.P f) (hargs : argL (T ++ L) args = some vl) (ht : Trip c.P f vl.toArray A R)
    (hp : Sel S A F)
    (h : ∀ v S', R v S' → OkO c all rest T L (S' ++ F) Q) : OkO c all (⟨none, .call ⟨.value (.func f), args.toArray, aty⟩, ty, pos, af, none⟩ :: rest) T L S Q := by
  intro Q' hQ a w he hs
  refine wpList_plain rfl fun K hK => ?_
  rw [Oper.wp, call_run he hent hargs, Oper.upon_enter]
  refine (ht w (hs.1.perm hp).left).mono ?_
  rintro e' w' ⟨v, S', rfl, hR, hst⟩
  exact hK _ _ (h v S' hR Q' hQ _ _ he (hs.frame hp hst))
end

/-! The closed facts, each by one reckoning of the kernel -/
def fieldF (P : Program) (s f : Nat) : Option Nat :=
  match P.underlying s with
  | some (.struct fs) => match fs[f]? with
    | some fd => match P.info? fd.type with
      | some _ => if P.cellsOf fd.type = 0 then none else some fd.offset
      | none => none
    | none => none
  | _ => none
theorem FieldAt.of {P : Program} {s f k : Nat} (h : fieldF P s f = some k) : FieldAt P s f k := by
  unfold fieldF at h
  split at h <;> try cases h
  rename_i fs hfs
  split at h <;> try cases h
  rename_i fd hfd
  split at h <;> try cases h
  rename_i i hi
  split at h <;> try cases h
  rename_i hz
  exact ⟨fs, fd, hfs, hfd, (by rw [hi]; exact fun e => nomatch e), hz, rfl⟩
def arrF (P : Program) (t : Nat) : Option (Nat × Nat) :=
  match P.underlying t with
  | some (.array len el) => match P.info? el with
    | some _ => some (len, P.cellsOf el)
    | none => none
  | _ => none
theorem ArrAt.of {P : Program} {t l k : Nat} (h : arrF P t = some (l, k)) : ArrAt P t l k := by
  unfold arrF at h
  split at h <;> try cases h
  rename_i len el hu
  split at h <;> try cases h
  rename_i i hi
  exact ⟨el, i, hu, hi, rfl⟩
def slcF (P : Program) (t : Nat) : Option (Nat × Nat) :=
  match P.underlying t with
  | some (.slice el) => match P.info? el with
    | some _ => some (el, P.cellsOf el)
    | none => none
  | _ => none
theorem SlcAt.of {P : Program} {t l k : Nat} (h : slcF P t = some (l, k)) : SlcAt P t l k := by
  unfold slcF at h
  split at h <;> try cases h
  rename_i el hu
  split at h <;> try cases h
  rename_i i hi
  exact ⟨i, hu, hi, rfl⟩
def sizeF (P : Program) (t : Nat) : Option (Bool × Nat) :=
  match P.underlying t, P.info? t with
  | some d, some _ => some (notAgg d, P.cellsOf t)
  | _, _ => none
theorem One.of {P : Program} {t : Nat} (h : sizeF P t = some (true, 1)) : One P t := by
  unfold sizeF at h
  split at h <;> try cases h
  rename_i d i hu hi
  simp only [Option.some.injEq, Prod.mk.injEq] at h
  exact ⟨d, i, hu, h.1, hi, h.2⟩
theorem Agg.of {P : Program} {t k : Nat} (h : sizeF P t = some (false, k)) : Agg P t k := by
  unfold sizeF at h
  split at h <;> try cases h
  rename_i d i hu hi
  simp only [Option.some.injEq, Prod.mk.injEq] at h
  exact ⟨d, i, hu, h.1, hi, h.2⟩
def zeroF (P : Program) (t : Nat) : Option (Array Value) := match P.info? t with
  | some i => match i.zero with
    | some v => some v.cells
    | none => none
  | none => none
theorem ZeroAt.of {P : Program} {t : Nat} {z : Array Value} (h : zeroF P t = some z) : ZeroAt P t z := by
  unfold zeroF at h
  split at h <;> try cases h
  rename_i i hi
  split at h <;> try cases h
  rename_i v hv
  exact ⟨i, v, hi, hv, rfl⟩
def entF (P : Program) (f : Nat) : Bool := match P.funcs[f]? with
  | some fn => !(fn.name == "runtime.NumGoroutine") && !fn.body.isNone
  | none => false
theorem Ent.of {P : Program} {f : Nat} (h : entF P f = true) : Ent P f := by
  unfold entF at h
  split at h <;> try cases h
  rename_i fn hf
  simp only [Bool.and_eq_true, Bool.not_eq_true'] at h
  exact ⟨fn, hf, h.1, h.2⟩

/-! The entry of a function and its results -/
def envOf : Nat → List Value → Env
  | _, [] => []
  | k, v :: r => (k, v) :: envOf (k + 1) r

theorem envOf_get : ∀ (vs : List Value) (k t : Nat) (v : Value), gt (envOf k vs) t = some v → k ≤ t ∧ vs[t - k]? = some v
  | [], k, t, v, h => by simp [envOf, gt] at h
  | u :: r, k, t, v, h => by
    simp only [envOf, gt] at h
    split at h
    · rename_i hb
      have hkt : k = t := Nat.eq_of_beq_eq_true hb
      subst hkt
      exact ⟨Nat.le_refl _, by simpa using h⟩
    · have := envOf_get r (k + 1) t v h
      exact ⟨by omega, by rw [show t - k = (t - (k + 1)) + 1 from by omega]; simpa using this.2⟩

theorem fn_entry {P : Program} {f : FuncId} {fn : Func} {cd : Code} {args : List Value} {n : Nat} {S : SH} {R : Value → SH → Prop} (hf : P.funcs[f]? = some fn) (hb : fn.body = some cd) (hn : fn.ntmps = n) (hl : Nat.ble args.length n = true)
    (h : ∀ w0, OkC ⟨P, n, w0, keys S.flatten⟩ cd (envOf 0 args) S (fun ex e S' => match ex with
      | .normal | .ret => ∀ a w, EnvOk n e a → St w0 (keys S.flatten) w S' → ∃ v, (results fn a.tmps).run P w = .ok v w ∧ ∃ S'' F, Sel S' S'' F ∧ R v S''
      | _ => False)) : Trip P f args.toArray S R := by
  intro w hs
  refine calls_of_wp hf hb ?_
  refine Code.wp_mono ?_ (h w _ w ⟨rfl, ?_, ?_⟩ ⟨hs, Frm.refl _ _⟩)
  · rintro ex a w' ⟨e, S', h1, h2, h3⟩
    cases ex
    case normal => obtain ⟨v, hv, S'', F, hF, hR⟩ := h3 a w' h1 h2; exact ⟨h1.1, v, hv, v, S'', rfl, hR, h2.drop hF⟩
    case ret => obtain ⟨v, hv, S'', F, hF, hR⟩ := h3 a w' h1 h2; exact ⟨h1.1, v, hv, v, S'', rfl, hR, h2.drop hF⟩
    all_goals exact h3.elim
  · have := Nat.le_of_ble_eq_true hl; simp [hn]; omega
  · intro t v ht
    have := (envOf_get args 0 t v ht).2
    simp only [Nat.sub_zero] at this
    have hlt : t < args.length := by
      rcases Nat.lt_or_ge t args.length with h' | h'
      · exact h'
      · rw [List.getElem?_eq_none h'] at this; cases this
    rw [Array.getElem?_append_left (by simpa using hlt)]
    simpa using this

theorem ret0 {P : Program} {fn : Func} {a : Act} {w : World} {S S'' F : SH} {R : Value → SH → Prop} (hr : fn.results = #[]) (hF : Sel S S'' F) (h : R (.tuple #[]) S'') : ∃ v, (results fn a.tmps).run P w = .ok v w ∧ ∃ S'' F, Sel S S'' F ∧ R v S'' :=
  ⟨_, results_none hr _ _ _, S'', F, hF, h⟩
theorem ret1 {P : Program} {fn : Func} {n t : Nat} {e : Env} {a : Act} {w : World} {S S'' F : SH} {R : Value → SH → Prop} {v : Value} (hr : fn.results = #[.tmp t]) (he : EnvOk n e a) (hv : gt e t = some v) (hF : Sel S S'' F) (h : R v S'') : ∃ v, (results fn a.tmps).run P w = .ok v w ∧ ∃ S'' F, Sel S S'' F ∧ R v S'' := by
  refine ⟨_, results_tmp hr _ _ _, S'', F, hF, ?_⟩
  have := he.2.2 t v hv
  simpa [Array.getD_eq_getD_getElem?, this] using h
end Go.Eng
