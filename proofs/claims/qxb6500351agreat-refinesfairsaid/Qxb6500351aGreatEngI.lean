/- THE ENGINE, part 12: rows of plain integers. -/
import Derived.Test.Qxb6500351aGreatEngR
set_option linter.unusedVariables false
set_option linter.unusedSimpArgs false
namespace Go.Eng
def iV (l : List Int) : List Value := l.map (Value.int .i64)
abbrev inV (b : Nat) (l : List Int) : Value := .slice (some ⟨b, 0, none⟩) l.length l.length
abbrev inG (b : Nat) (l : List Int) (e : Nat) : List Chunk := [(b, .cells (iV l).toArray e (0, 0))]
theorem inV_eq {b n : Nat} {l : List Int} (h : l.length = n) : (.slice (some ⟨b, 0, none⟩) n n : Value) = inV b l := by subst h; rfl
theorem inG_eq {b e : Nat} {l l' : List Int} (h : l = l') : inG b l e = inG b l' e := h ▸ rfl
theorem iV_get {l : List Int} (i : Nat) (hi : i < l.length) {k : Nat} (hk : k = 0 + i * 1) : (iV l).toArray[k]? = some (.int .i64 (l.getD i 0)) := by
  obtain rfl : k = i := by omega
  simp [iV, hi]
theorem iV_set (l : List Int) (i : Nat) (x : Int) {k : Nat} (hk : k = 0 + i * 1) : (iV l).toArray.setIfInBounds k (.int .i64 x) = (iV (l.set i x)).toArray := by
  obtain rfl : k = i := by omega
  simp [iV, List.map_set]
theorem iV_size (l : List Int) {k : Nat} (h : k < l.length) : k < (iV l).toArray.size := by simpa [iV] using h
theorem iV_len (l : List Int) : (iV l).length = l.length := by simp [iV]
theorem made_i (n : Nat) : madeCells #[Value.int .i64 0] (n * 1) = (iV (List.replicate n 0)).toArray := by
  apply Array.ext
  · simp [madeCells, iV]
  · intro i h1 h2
    simp [madeCells, iV, Nat.mod_one]
section
variable {c : Cx} {all : Array Oper} {rest : List Oper} {T L : Env} {S : SH} {Q : Env → SH → Prop} {pos : String} {af : Array Edge} {ty : TypeId}
theorem o_makeI {d : Nat} {x y : Operand} {t e bytes : Nat} {kl kc : IntKind} {p q : Int} (n : Nat) (hf : SlcZ c.P t e 1 bytes #[.int .i64 0]) (hx : gv (T ++ L) x = some (.int kl p)) (hy : gv (T ++ L) y = some (.int kc q)) (hp : p = (n : Int)) (hq : q = (n : Int))
    (hb : bytes * n ≤ 281474976710656) (h63 : n ≤ 9223372036854775807) (hd : Nat.blt d c.n = true)
    (h : ∀ b, OkO c all rest ((d, .slice (some ⟨b, 0, none⟩) n n) :: T) L (inG b (List.replicate n 0) e :: S) Q) :
    OkO c all (⟨some d, .makeSlice t x y, ty, pos, af, none⟩ :: rest) T L S Q :=
  o_make n n hf hx hy hp hq (Nat.le_refl _) hb h63 hd (fun b => by rw [made_i]; exact h b)
end
theorem run_loadH {P : Program} {w : World} {b o : Nat} {cs : Array Value} {t' : TypeId} {fz : Nat × Nat} (hb : w.heap[b]? = some (.cells cs t' fz)) :
    ∀ (k i : Nat) (acc : Array Value), o + i + k ≤ cs.size → (loadCellsFrom ⟨b, o, none⟩ i k acc).run P w = .ok (acc ++ cs.extract (o + i) (o + i + k)) w
  | 0, i, acc, _ => by simp [loadCellsFrom, go_sem]; omega
  | k + 1, i, acc, hk => by
    have hlt : o + i < cs.size := by omega
    have h1 : w.cell? ⟨b, o + i, none⟩ = some cs[o + i] := by simp [World.cell?, hb, hlt]
    have h2 := run_loadH (P := P) (o := o) hb k (i + 1) (acc.push cs[o + i]) (by omega)
    show ((load (Addr.add ⟨b, o, none⟩ i)).bind fun v => loadCellsFrom ⟨b, o, none⟩ (i + 1) k (acc.push v)).run P w = _
    rw [add_none]
    simp only [load, Sem.bind, Sem.run, h1]
    rw [h2]
    congr 1
    apply Array.ext'
    simp only [Array.toList_append, Array.toList_push, Array.toList_extract, List.extract_eq_take_drop, List.append_assoc]
    congr 1
    rw [show o + i + (k + 1) - (o + i) = k + 1 from by omega, show o + (i + 1) + k - (o + (i + 1)) = k from by omega,
      show o + (i + 1) = o + i + 1 from by omega, List.drop_eq_getElem_cons (i := o + i) (by simpa using hlt)]
    simp
section
variable {c : Cx} {d : Dx} {f : Nat} {listed : Array Bool} {T L : Env} {S : SH} {Q : Env → SH → Prop} {ty : TypeId} {pos : String} {af : Array Edge}
/-- a soft load of a whole variable -/
theorem d_ldw (i : Nat) {s : Nat} {x : Operand} {t t' : TypeId} {b sz : Nat} {cs : Array Value} {fz : Nat × Nat} (hi : d.ops[i]? = some ⟨some s, .load t x, ty, pos, af, none⟩) (hb : softB d.ops d.ph listed i = true) (ht : Agg c.P t sz) (hx : gv (T ++ L) x = some (.pointer (some ⟨b, 0, none⟩)))
    (hk : ∀ x, x ∈ d.Ck → x ∈ S.flatten) (hm : (b, Obj.cells cs t' fz) ∈ d.Ck) (hl : cs.size = sz) (hd : Nat.blt s c.n = true)
    (h : OkD c d f (listed.setIfInBounds i true) ((s, .agg cs) :: T) L S Q) : OkD c d (f + 1) listed T L S Q := by
  intro a w he hs
  refine softB_spec (v := .agg cs) hi hb (.inl ⟨by simp [Region.wanted], fun w' hk' => ?_⟩) (fun _ x hx => hs.1.2 x (hk x hx)) (h _ _ (he.putT _ hd) hs)
  have h0 := hk' rfl _ hm
  simp only at h0
  have g1 := he.gv hx
  have g2 := run_loadH (P := c.P) (o := 0) h0 sz 0 #[] (by omega)
  have h3 := ht
  obtain ⟨_, i', _, _, hi', hsz⟩ := h3
  subst hl
  generalize a.eval = ρ at *
  simp at g2
  simp [execOp, go_sem, g1, Instr.loadAt, Instr.sureAddr, loadVar, isAgg_agg ht, sz_run hi', hsz, loadCells, g2]
end
section
variable {c : Cx} {d : Dx} {f : Nat} {listed : Array Bool} {T L : Env} {S : SH} {Q : Env → SH → Prop} {ty : TypeId} {pos : String} {af : Array Edge}
theorem alloc_step {i s : Nat} {t : TypeId} {z : Array Value} (hi : d.ops[i]? = some ⟨some s, .alloc t, ty, pos, af, none⟩) (ht : ZeroAt c.P t z) (hd : Nat.blt s c.n = true) (hT : gt T s = none)
    (h : ∀ b, OkD c d f (listed.setIfInBounds i true) T ((s, .pointer (some ⟨b, 0, none⟩)) :: L) ([(b, .cells z t (0, 0))] :: S) Q) (a : Act) (w : World) (he : EnvOk c.n (T ++ L) a) (hs : St c.w0 c.K0 w S) :
    wpOp c.P d.ops (NP (PostO c Q)) i (fun a' w' => (d.ph.getD i false = true → Keep d.Ck w → Keep d.Ck w') ∧ wpAnyC c.P d.ops d.ph d.Ck (PostO c Q) f (listed.setIfInBounds i true) a' w') a w := by
  obtain ⟨i', v, hi', hv, rfl⟩ := ht
  have h1 : (execOp a.eval ⟨some s, .alloc t, ty, pos, af, none⟩).run c.P w = .ok (.value (.pointer (some ⟨w.heap.size, 0, none⟩))) (w.alloc (.cells v.cells t)) := by
    simp [execOp, go_sem, Instr.alloc, zeroValue, run_typeInfo w hi', hv, newVar, newRow]
  unfold wpOp
  simp only [hi]
  rw [if_pos (by simp [Region.wanted])]
  left
  rw [Oper.wp, h1, Oper.upon_value]
  refine ⟨fun _ hk x hx => ?_, h w.heap.size _ _ (he.putL _ hd hT) (hs.new _)⟩
  have h2 := hk x hx
  have hlt : x.1 < w.heap.size := by
    rcases Nat.lt_or_ge x.1 w.heap.size with h' | h'
    · exact h'
    · rw [Array.getElem?_eq_none h'] at h2; cases h2
  show (w.heap.push _)[x.1]? = _
  rw [Array.getElem?_push, if_neg (by omega)]
  exact h2
theorem d_hardA (i : Nat) {s : Nat} {t : TypeId} {z : Array Value} (hi : d.ops[i]? = some ⟨some s, .alloc t, ty, pos, af, none⟩) (hr : hardB d.ops listed [i] = true) (ht : ZeroAt c.P t z) (hd : Nat.blt s c.n = true) (hT : gt T s = none)
    (h : ∀ b, OkD c d f (listed.setIfInBounds i true) T ((s, .pointer (some ⟨b, 0, none⟩)) :: L) ([(b, .cells z t (0, 0))] :: S) Q) : OkD c d (f + 1) listed T L S Q := by
  intro a w he hs
  have hr' : Region.ready .any d.ops listed = [i] := by simpa [hardB] using hr
  refine ⟨fun h0 => (by rw [hr'] at h0; cases h0), fun j hj => ?_⟩
  rw [hr'] at hj
  obtain rfl : j = i := by simpa using hj
  exact alloc_step hi ht hd hT h a w he hs
/-- an alloc and another that are ready: both orders (l: the two, as they stand) -/
theorem d_hard2A (i k : Nat) {s : Nat} {t : TypeId} {z : Array Value} {o' : Oper} {l : List Nat} (hi : d.ops[i]? = some ⟨some s, .alloc t, ty, pos, af, none⟩) (hi' : d.ops[k]? = some o') (hr : hardB d.ops listed l = true) (hl : l = [i, k] ∨ l = [k, i]) (ht : ZeroAt c.P t z) (hd : Nat.blt s c.n = true) (hT : gt T s = none)
    (h : ∀ b, OkD c d f (listed.setIfInBounds i true) T ((s, .pointer (some ⟨b, 0, none⟩)) :: L) ([(b, .cells z t (0, 0))] :: S) Q) (h' : OkO c d.ops [o'] T L S (PostD c d f listed k Q)) : OkD c d (f + 1) listed T L S Q := by
  intro a w he hs
  have hr' : Region.ready .any d.ops listed = l := by simpa [hardB] using hr
  refine ⟨fun h0 => (by rw [hr'] at h0; rcases hl with rfl | rfl <;> cases h0), fun j hj => ?_⟩
  rw [hr'] at hj
  have hj' : j = i ∨ j = k := by
    rcases hl with rfl | rfl <;> simp at hj <;> omega
  rcases hj' with rfl | rfl
  · exact alloc_step hi ht hd hT h a w he hs
  · exact hard_step hi' h' a w he hs
end
/-- the same with the first group left out of what the loads may rest on -/
theorem c_drawT {c : Cx} {Q : Exit → Env → SH → Prop} {id n : Nat} {l : List Oper} {e : Env} {g : List Chunk} {R : SH} (ph : Array Bool) (hm : c.P.follows .mixedOrders = true) (hn : l.length = n)
    (h : OkD c ⟨l.toArray, ph, R.flatten⟩ n (Array.replicate n false) [] e (g :: R) (Q .normal)) : OkC c (.region id l.toArray true) e (g :: R) Q := by
  intro a w he hs
  refine wp_region_any hm ?_
  subst hn
  have h1 := h a { w with drawn := w.drawn + 1 } he (hs.drawn rfl rfl rfl rfl)
  have h2 := wpAny_of_C (Q' := PostQ c Q) (fun a w ⟨e', S', h3, h4, h5⟩ => ⟨e', S', h3, h4, h5⟩) _ _ _ _ h1
  simpa using h2
/-! ### a list, opened for reading -/
structure LOpen {α : Type} (e sz : Nat) (R : List Value → α → List Chunk → Prop) (b cap : Nat) (cur : Array Value) (l : List α) (gd : List Chunk) : Prop where
  le : l.length ≤ cap
  capm : cap ≤ maxLen
  size : cur.size = cap * sz
  ex : Elems sz R (cur.toList.take (l.length * sz)) l gd
theorem Lst.open {α : Type} {e sz : Nat} {R : List Value → α → List Chunk → Prop} {v : Value} {l : List α} {gv gd : List Chunk} (h : Lst e sz R v l gv gd) :
    ∃ b cap cur, v = .slice (Option.some ⟨b, 0, none⟩) l.length cap ∧ gv = [(b, .cells cur e (0, 0))] ∧ LOpen e sz R b cap cur l gd := by
  obtain ⟨xs, b, cap, cur, h1, h2, h3, h4, h5, h6, h7⟩ := Lst.some h
  exact ⟨b, cap, cur, h1, h2, ⟨h3, h4, h5, by rw [h6]; exact h7⟩⟩
theorem LOpen.shut {α : Type} {e sz b cap : Nat} {R : List Value → α → List Chunk → Prop} {cur : Array Value} {l : List α} {gd : List Chunk} (h : LOpen e sz R b cap cur l gd) :
    Lst e sz R (.slice (some ⟨b, 0, none⟩) l.length cap) l [(b, .cells cur e (0, 0))] gd :=
  ⟨(fun z => nomatch z), _, ⟨by
    have h1 := h.le
    have h2 := h.size
    have h3 : l.length * sz ≤ cur.toList.length := by rw [Array.length_toList (xs := cur), h2]; exact Nat.mul_le_mul_right _ h1
    rw [List.length_take]
    exact Nat.min_eq_left h3, .inr ⟨b, cap, cur, rfl, rfl, h.le, h.capm, h.size, rfl⟩⟩, h.ex⟩
theorem LOpen.at {α : Type} {e sz b cap : Nat} {R : List Value → α → List Chunk → Prop} {cur : Array Value} {l : List α} {gd : List Chunk} (h : LOpen e sz R b cap cur l gd) (k : Nat) (hk : k < l.length) :
    ∃ x ga g1 gb, x.length = sz ∧ R x l[k] g1 ∧ gd = ga ++ g1 ++ gb ∧ ∀ j o, j < sz → o = 0 + k * sz + j → cur[o]? = x[j]? := by
  obtain ⟨pa, x, pb, ga, g1, gb, h1, h2, h3, h4, h5, _, _⟩ := h.ex.get k hk
  refine ⟨x, ga, g1, gb, h3, h4, h5, ?_⟩
  rintro j o hj rfl
  have hlt : 0 + k * sz + j < l.length * sz := by
    have : (k + 1) * sz ≤ l.length * sz := Nat.mul_le_mul_right _ hk
    rw [Nat.succ_mul] at this; omega
  have e1 : cur[0 + k * sz + j]? = (cur.toList.take (l.length * sz))[0 + k * sz + j]? := by
    rw [List.getElem?_take, if_pos hlt, Array.getElem?_toList]
  rw [e1, h1, List.append_assoc, List.getElem?_append_right (by omega), h2, List.getElem?_append_left (by omega)]
  congr 1; omega
theorem LOpen.row {b cap : Nat} {cur : Array Value} {l : List (List Int)} {gd : List Chunk} (h : LOpen 81 1 rowR b cap cur l gd) (k : Nat) (hk : k < l.length) :
    ∃ br ga gb, gd = ga ++ byG br l[k] 5 ++ gb ∧ (∀ o, o = 0 + k * 1 → cur[o]? = some (byV br l[k])) ∧ Bytes l[k] ∧ l[k].length ≤ 1000 := by
  obtain ⟨x, ga, g1, gb, h1, ⟨br, h2, h3, h4, h5⟩, h6, h7⟩ := h.at k hk
  subst h2 h3
  exact ⟨br, ga, gb, h6, fun o ho => h7 0 o (by omega) (by omega), h4, h5⟩
section
variable {c : Cx} {e : Env} {R : SH} {Q : Exit → Env → SH → Prop} {x : Code}
theorem c_split3 {g ga g1 gb : List Chunk} (hg : g = ga ++ g1 ++ gb) (h : OkC c x e (g1 :: (ga ++ gb) :: R) Q) : OkC c x e (g :: R) Q := by
  refine c_perm ?_ h
  subst hg
  simp only [List.flatten_cons, ← List.append_assoc]
  refine List.Perm.append_right _ (List.Perm.append_right _ ?_)
  exact List.perm_append_comm
theorem c_join3 {g ga g1 gb : List Chunk} (hg : g = ga ++ g1 ++ gb) (h : OkC c x e (g :: R) Q) : OkC c x e (g1 :: (ga ++ gb) :: R) Q := by
  refine c_perm ?_ h
  subst hg
  simp only [List.flatten_cons, ← List.append_assoc]
  refine List.Perm.append_right _ (List.Perm.append_right _ ?_)
  exact List.perm_append_comm
end
end Go.Eng
