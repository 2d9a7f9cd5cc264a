/- RULES: lists made, literals, conversions; calls with the rest of the heap at hand. -/
import Derived.Test.Qxb6500350aGreatN3
set_option linter.unusedVariables false
set_option linter.unusedSimpArgs false
namespace Go.Eng
theorem madeCells_rep (z : Array Value) : ∀ (n : Nat), (madeCells z (n * z.size)).toList = (List.replicate n z.toList).flatten := by
  intro n
  apply List.ext_getElem?
  intro i
  by_cases hz : z.size = 0
  · have : z.toList = [] := by simpa using hz
    simp [madeCells, hz, this]
  · have hpos : 0 < z.size := by omega
    have key : ∀ (n i : Nat), ((List.replicate n z.toList).flatten)[i]? = if i < n * z.size then some (z[i % z.size]!) else none := by
      intro n
      induction n with
      | zero => intro i; simp
      | succ n ih =>
        intro i
        rw [List.replicate_succ, List.flatten_cons]
        by_cases hi : i < z.size
        · rw [List.getElem?_append_left (by simpa using hi), if_pos (by rw [Nat.succ_mul]; omega), Nat.mod_eq_of_lt hi]
          simp [hi]
        · rw [List.getElem?_append_right (by simpa using hi), ih]
          have e1 : i - z.toList.length = i - z.size := by simp
          rw [e1]
          have e2 : i % z.size = (i - z.size) % z.size := Nat.mod_eq_sub_mod (by omega)
          rw [e2]
          by_cases hc : i - z.size < n * z.size
          · rw [if_pos hc, if_pos (by rw [Nat.succ_mul]; omega)]
          · rw [if_neg hc, if_neg (by rw [Nat.succ_mul]; omega)]
    rw [key]
    simp only [madeCells]
    by_cases hi : i < n * z.size
    · simp [hi]
    · simp [hi]
section
variable {c : Cx} {all : Array Oper} {rest : List Oper} {T L : Env} {S : SH} {Q : Env → SH → Prop} {pos : String} {af : Array Edge} {ty : TypeId} {α : Type} {R : Lay α}
theorem mkL_some {n k : Int} {z : α} {m : List α} (h : mkL n k z = some m) : (0 ≤ n ∧ n ≤ k ∧ k < 1073741824) ∧ m = List.replicate n.toNat z := by
  unfold mkL at h; split at h
  · rename_i hc; cases h; exact ⟨hc, rfl⟩
  · cases h
theorem o_mkR {d : Nat} {x y : Operand} {t bytes : Nat} {z : Array Value} {kl kc : IntKind} {p q : Int} {a : α} {m : List α} (hf : SlcZ c.P t R.ty R.sz bytes z) (hsz : z.size = R.sz) (hby : Nat.ble bytes 60000 = true) (hz : R.rd [] z.toList a)
    (hx : gv (T ++ L) x = some (.int kl p)) (hy : gv (T ++ L) y = some (.int kc q)) (hm : mkL p q a = some m) (hd : Nat.blt d c.n = true)
    (h : ∀ v g, Own R v m g → OkO c all rest ((d, v) :: T) L (g :: S) Q) : OkO c all (⟨some d, .makeSlice t x y, ty, pos, af, none⟩ :: rest) T L S Q := by
  obtain ⟨⟨h1, h2, h3⟩, rfl⟩ := mkL_some hm
  have hb : bytes ≤ 60000 := Nat.le_of_ble_eq_true hby
  refine o_make p.toNat q.toNat hf hx hy (by omega) (by omega) (by omega) (Nat.le_trans (Nat.mul_le_mul hb (by omega : q.toNat ≤ 1073741824)) (by decide)) (by omega) hd fun b => ?_
  refine h _ _ (.inr ⟨b, q.toNat, _, [], by simp, rfl, by simp; omega, ?_, ?_, ?_⟩)
  · exact Nat.le_trans (by omega) bigLe
  · rw [size_madeCells]
  · have e1 := madeCells_rep z q.toNat
    rw [hsz] at e1
    rw [e1]
    have h4 := (Els.rep (R := R) (C := []) hz q.toNat).take p.toNat
    have e2 : (List.replicate q.toNat a).take p.toNat = List.replicate p.toNat a := by rw [List.take_replicate]; congr 1; omega
    rw [e2] at h4
    simpa using h4
theorem Own.one {b : Nat} {cs : Array Value} {a : α} {g : List Chunk} (hR : R.rd g cs.toList a) : Own R (.slice (some ⟨b, 0, none⟩) 1 1) [a] ((b, Obj.cells cs R.ty (0, 0)) :: g) := by
  have h1 := R.len hR
  have h2 : cs.size = R.sz := by simpa using h1
  refine .inr ⟨b, 1, cs, g, rfl, rfl, Nat.le_refl _, Nat.le_trans (by decide) bigLe, by omega, ?_⟩
  have h3 : cs.toList.take ([a].length * R.sz) = cs.toList := List.take_of_length_le (by simp [h2])
  rw [h3]
  exact Els.one hR
/-- literals of some elements of one cell each -/
theorem o_lit2 {d : Nat} {x y : Operand} {t bytes : Nat} {z : Array Value} {u v : Value} {a b : α} (hf : SlcZ c.P t R.ty 1 bytes z) (hsz : R.sz = 1) (hx : gv (T ++ L) x = some u) (hy : gv (T ++ L) y = some v) (hu : R.rd [] [u] a) (hv : R.rd [] [v] b) (hd : Nat.blt d c.n = true)
    (h : ∀ w, OkO c all rest ((d, .slice (some ⟨w, 0, none⟩) 2 2) :: T) L ([(w, .cells #[u, v] R.ty (0, 0))] :: S) Q) : OkO c all (⟨some d, .buildSlice t 2 #[(0, x), (1, y)], ty, pos, af, none⟩ :: rest) T L S Q := by
  intro Q' hQ a0 w he hs
  refine wpList_plain rfl fun K hK => ?_
  have g1 := he.gv hx
  have g2 := he.gv hy
  obtain ⟨i, zv, hu', hi, hzv, rfl, hz, rfl⟩ := hf
  have pu : plainV u = true := by have := R.plain hu; simpa using this
  have pv : plainV v = true := by have := R.plain hv; simpa using this
  have cu : u.cells = #[u] := by cases u <;> first | rfl | simp [plainV] at pu
  have cv : v.cells = #[v] := by cases v <;> first | rfl | simp [plainV] at pv
  have h1 : (execOp a0.eval ⟨some d, .buildSlice t 2 #[(0, x), (1, y)], ty, pos, af, none⟩).run c.P w = .ok (.value (.slice (some ⟨w.heap.size, 0, none⟩) 2 2)) (w.alloc (.cells #[u, v] R.ty)) := by
    generalize a0.eval = ρ at *
    have hfill : ∀ zz : Array Value, zz.size = 2 → Instr.fill (fun j => some (j * 1, 1)) zz [(0, u), (1, v)] = some #[u, v] := fun zz hzz => by
      have : zz = #[zz[0], zz[1]] := by apply Array.ext; simp [hzz]; intro k h1 h2; simp [hzz] at h1; (have : k = 0 ∨ k = 1 := by omega); rcases this with rfl | rfl <;> rfl
      rw [this]
      simp [Instr.fill, cu, cv]
    have hfl : ∀ f : Nat → Value, Instr.fill (fun j => some (j, 1)) ((Array.range 2).map f) [(0, u), (1, v)] = some #[u, v] := fun f => by simpa using hfill _ (by simp)
    simp [execOp, Instr.buildSlice, g1, g2, run_underlying hu', sizeOf, zeroValue, typeInfo, hi, hzv, hz, hfl, newRow, Result.andThen]
  rw [Oper.wp, h1, Oper.upon_value]
  exact hK _ _ (h w.heap.size Q' hQ _ _ (he.putT _ hd) (hs.new _))
theorem o_lit3 {d : Nat} {x y y2 : Operand} {t bytes : Nat} {z : Array Value} {u v v2 : Value} {a b b2 : α} (hf : SlcZ c.P t R.ty 1 bytes z) (hsz : R.sz = 1) (hx : gv (T ++ L) x = some u) (hy : gv (T ++ L) y = some v) (hy2 : gv (T ++ L) y2 = some v2) (hu : R.rd [] [u] a) (hv : R.rd [] [v] b) (hv2 : R.rd [] [v2] b2) (hd : Nat.blt d c.n = true)
    (h : ∀ w, OkO c all rest ((d, .slice (some ⟨w, 0, none⟩) 3 3) :: T) L ([(w, .cells #[u, v, v2] R.ty (0, 0))] :: S) Q) : OkO c all (⟨some d, .buildSlice t 3 #[(0, x), (1, y), (2, y2)], ty, pos, af, none⟩ :: rest) T L S Q := by
  intro Q' hQ a0 w he hs
  refine wpList_plain rfl fun K hK => ?_
  have g1 := he.gv hx
  have g2 := he.gv hy
  have g3 := he.gv hy2
  obtain ⟨i, zv, hu', hi, hzv, rfl, hz, rfl⟩ := hf
  have pu : plainV u = true := by have := R.plain hu; simpa using this
  have pv : plainV v = true := by have := R.plain hv; simpa using this
  have pv2 : plainV v2 = true := by have := R.plain hv2; simpa using this
  have cu : u.cells = #[u] := by cases u <;> first | rfl | simp [plainV] at pu
  have cv : v.cells = #[v] := by cases v <;> first | rfl | simp [plainV] at pv
  have cv2 : v2.cells = #[v2] := by cases v2 <;> first | rfl | simp [plainV] at pv2
  have h1 : (execOp a0.eval ⟨some d, .buildSlice t 3 #[(0, x), (1, y), (2, y2)], ty, pos, af, none⟩).run c.P w = .ok (.value (.slice (some ⟨w.heap.size, 0, none⟩) 3 3)) (w.alloc (.cells #[u, v, v2] R.ty)) := by
    generalize a0.eval = ρ at *
    have hfill : ∀ zz : Array Value, zz.size = 3 → Instr.fill (fun j => some (j * 1, 1)) zz [(0, u), (1, v), (2, v2)] = some #[u, v, v2] := fun zz hzz => by
      have : zz = #[zz[0], zz[1], zz[2]] := by apply Array.ext; simp [hzz]; intro k h1 h2; simp [hzz] at h1; (have : k = 0 ∨ k = 1 ∨ k = 2 := by omega); rcases this with rfl | rfl | rfl <;> rfl
      rw [this]
      simp [Instr.fill, cu, cv, cv2]
    have hfl : ∀ f : Nat → Value, Instr.fill (fun j => some (j, 1)) ((Array.range 3).map f) [(0, u), (1, v), (2, v2)] = some #[u, v, v2] := fun f => by simpa using hfill _ (by simp)
    simp [execOp, Instr.buildSlice, g1, g2, g3, run_underlying hu', sizeOf, zeroValue, typeInfo, hi, hzv, hz, hfl, newRow, Result.andThen]
  rw [Oper.wp, h1, Oper.upon_value]
  exact hK _ _ (h w.heap.size Q' hQ _ _ (he.putT _ hd) (hs.new _))
theorem Own.two {b : Nat} {u v : Value} {x y : α} (hx : R.rd [] [u] x) (hy : R.rd [] [v] y) : Own R (.slice (some ⟨b, 0, none⟩) 2 2) [x, y] [(b, Obj.cells #[u, v] R.ty (0, 0))] := by
  have h1 : R.sz = 1 := (R.len hx).symm
  refine .inr ⟨b, 2, _, [], rfl, rfl, Nat.le_refl _, Nat.le_trans (by decide) bigLe, by rw [h1]; rfl, ?_⟩
  rw [h1]
  exact ⟨[u], [v], rfl, hx, [v], [], rfl, hy, rfl⟩
/-- what lies in one plain row is appended -/
theorem o_appRs {d : Nat} {x y : Operand} {t bytes : Nat} {z : Array Value} {v : Value} {l m r : List α} {g : List Chunk} {b2 o2 n2 cp : Nat} {css : Array Value} {t2 : TypeId} {fz : Nat × Nat} {F : SH}
    (hf : SlcZ c.P t R.ty R.sz bytes z) (hsz : z.size = R.sz) (hby : Nat.ble bytes 60000 = true) (hx : gv (T ++ L) x = some v) (hy : gv (T ++ L) y = some (.slice (some ⟨b2, o2, none⟩) n2 cp)) (hv : Own R v l g) (hR : Els R [] (css.extract o2 (o2 + n2 * R.sz)).toList m) (hn : n2 = m.length) (hfit : o2 + n2 * R.sz ≤ css.size) (hm : apds l m = some r)
    (hsel : Sel S [g, [(b2, .cells css t2 fz)]] F) (hd : Nat.blt d c.n = true)
    (h : ∀ v' g', Own R v' r g' → OkO c all rest ((d, v') :: T) L ([g'] ++ F) Q) :
    OkO c all (⟨some d, .call ⟨.builtin .append, #[x, y], #[t, t]⟩, ty, pos, af, none⟩ :: rest) T L S Q := by
  unfold apds at hm; split at hm
  · rename_i hlt
    cases hm
    subst hn
    obtain ⟨xs, gh, rs, rfl, hvec, hels⟩ := hv.vec
    have hS : S.flatten.Perm (List.flatten (gh :: [(b2, Obj.cells css t2 fz)] :: rs :: F)) := by
      refine List.Perm.trans hsel ?_
      simp only [List.flatten_cons, List.flatten_nil, List.append_nil, List.append_assoc]
      exact List.Perm.append_left _ (List.perm_append_comm_assoc _ _ _)
    refine o_perm hS ?_
    have hb60 : bytes ≤ 60000 := Nat.le_of_ble_eq_true hby
    refine o_append hf hsz hx hy hvec (fun g' => q0) (ms m0) rfl hfit hR.plain ?_ (by omega) hd fun v' g' hv' _ => ?_
    · exact Nat.le_trans (Nat.mul_le_mul (Nat.le_of_lt (by omega : l.length + m.length + 4096 < 536880000)) hb60) (by decide)
    · have hown : Own R v' (l ++ m) (g' ++ rs) := by
        refine Own.of (by rw [List.length_append]; exact hv') ?_
        exact hels.app (hR.mono (fun _ h => by cases h))
      have hsl : Sel (g' :: [(b2, Obj.cells css t2 fz)] :: rs :: F) ([g' ++ rs] ++ F) [[(b2, Obj.cells css t2 fz)]] := by
        unfold Sel
        simp only [List.flatten_cons, List.flatten_nil, List.append_nil, List.append_assoc, List.flatten_append]
        refine List.Perm.append_left _ ?_
        refine List.perm_append_comm.trans ?_
        simp only [List.append_assoc]
        exact List.Perm.refl _
      exact o_drop hsl (h v' _ hown)
  · cases hm
end
/-! bytes and strings -/
def enc8 (b : UInt8) : List Value := [.int .u8 (b.toNat : Int)]
def rByte : Lay UInt8 := flat 1 5 enc8 (fun _ => rfl) (fun _ => rfl)
theorem Els.bytes {C : List Chunk} : ∀ {xs : List Value} {l : Str}, Els rByte C xs l → xs = l.map (fun b => Value.int .u8 (b.toNat : Int))
  | xs, [], h => h
  | xs, a :: l, ⟨x, xs', h1, h2, h3⟩ => by
    have h2' : x = enc8 a := h2
    rw [h1, Els.bytes h3, h2']; rfl
theorem Els.of_bytes {C : List Chunk} : ∀ (l : Str), Els rByte C (l.map (fun b => Value.int .u8 (b.toNat : Int))) l
  | [] => rfl
  | a :: l => ⟨[_], _, rfl, rfl, Els.of_bytes l⟩
def freezeObj (o : Obj) (fz : Nat × Nat) : Obj := match o with
  | .cells cs t _ => .cells cs t fz
  | x => x
theorem St.freeze {w0 w : World} {K0 : List Nat} {S S' : SH} {b o : Nat} {cs : Array Value} {ty : TypeId} (h : St w0 K0 w S)
    (hr : Rep S S' (b, .cells cs ty (0, 0)) (b, .cells cs ty (o, o + 1))) : St w0 K0 (w.freeze ⟨b, o, none⟩ 1) S' := by
  have hb := h.1.2 _ hr.mem
  simp only at hb
  refine h.upd hr rfl rfl rfl (by simp only [World.freeze, Nat.one_ne_zero, if_false, Array.size_modify]) ?_ fun k hk => ?_
  · simp only [World.freeze, Nat.one_ne_zero, if_false, Array.getElem?_modify, hb, if_true, Option.map_some]
    rfl
  · simp only [World.freeze, Nat.one_ne_zero, if_false, Array.getElem?_modify]
    rw [if_neg (fun e => hk e.symm)]
section
variable {c : Cx} {all : Array Oper} {rest : List Oper} {T L : Env} {S : SH} {Q : Env → SH → Prop} {ty : TypeId} {pos : String} {af : Array Edge}
/-- a string turned into bytes -/
theorem o_s2b {d : Nat} {x : Operand} {ts t e : TypeId} {s m : Str} (hs : c.P.underlying ts = some .string) (ht : c.P.underlying t = some (.slice e)) (h8 : c.P.underlying e = some (.int .u8)) (hx : gv (T ++ L) x = some (.string ⟨s.toArray⟩)) (hb : apds [] s = some m) (hd : Nat.blt d c.n = true)
    (h : ∀ b cap cs fz, m.length ≤ cap → 0 + m.length * 1 ≤ cs.size → Els rByte [] (cs.extract 0 (0 + m.length * 1)).toList m → OkO c all rest ((d, .slice (some ⟨b, 0, none⟩) m.length cap) :: T) L ([(b, .cells cs e fz)] :: S) Q) :
    OkO c all (⟨some d, .convert ts t x, ty, pos, af, none⟩ :: rest) T L S Q := by
  unfold apds at hb; split at hb
  case isFalse => cases hb
  rename_i hlt
  simp only [List.nil_append, Option.some.injEq] at hb
  subst hb
  intro Q' hQ a w he hw
  refine wpList_plain rfl fun K hK => ?_
  have g1 := he.gv hx
  have hsize : (ByteArray.mk s.toArray).size = s.length := by show s.toArray.size = _; simp
  have hge := grownCap_ge w s.length 0 e
  have hm := grownCap_le_maxLen w s.length 0 e (Nat.le_trans (by omega) bigLe)
  generalize hcap : grownCap w s.length 0 e = cap at hge hm
  unfold grownCap at hcap
  obtain ⟨cs, hcs⟩ : ∃ cs : Array Value, cs = ((ByteArray.mk s.toArray).data.map fun b => Value.int .u8 b.toNat) ++ Array.replicate (cap - s.length) (.int .u8 0) := ⟨_, rfl⟩
  have hsz : cs.size = cap := by rw [hcs, Array.size_append, Array.size_map, Array.size_replicate]; simp; omega
  have e1 : Sem.run c.P (Sem.choose (Question.appendCap s.length 0 e) Sem.pure) w = .ok cap w.drew := by rw [← hcap]; rfl
  have e2 : Sem.run c.P (Sem.new (Obj.cells cs e) Sem.pure) w.drew = .ok w.heap.size (w.drew.alloc (.cells cs e)) := rfl
  have hat : (w.drew.alloc (.cells cs e)).heap[w.heap.size]? = some (.cells cs e (0, 0)) := by
    show (w.heap.push _)[w.heap.size]? = _
    rw [Array.getElem?_push, if_pos rfl]
  have e3 : Sem.run c.P (Sem.shape w.heap.size Sem.pure) (w.drew.alloc (.cells cs e)) = .ok (some (e, cap)) (w.drew.alloc (.cells cs e)) := by
    show Result.ok ((w.drew.alloc (.cells cs e)).shape? w.heap.size) _ = _
    unfold World.shape?
    rw [hat]
    dsimp only
    rw [hsz]
  have e4 : Sem.run c.P (Sem.freeze { block := w.heap.size, off := cap } 1 (Sem.pure ())) (w.drew.alloc (.cells cs e)) = .ok () ((w.drew.alloc (.cells cs e)).freeze ⟨w.heap.size, cap, none⟩ 1) := rfl
  have h1 : (execOp a.eval ⟨some d, .convert ts t x, ty, pos, af, none⟩).run c.P w = .ok (.value (.slice (some ⟨w.heap.size, 0, none⟩) s.length cap)) ((w.drew.alloc (.cells cs e)).freeze ⟨w.heap.size, cap, none⟩ 1) := by
    generalize a.eval = ρ at *
    generalize ByteArray.mk s.toArray = bs at *
    simp [execOp, go_sem, g1, convert, run_underlying hs, run_underlying ht, run_underlying h8, Conv.stringToBytes, choose, newRow, newObj, markStringish, shape, Go.freeze]
    rw [hsize, e1]
    dsimp only [Result.andThen]
    rw [← hcs, e2]
    dsimp only [Result.andThen]
    rw [e3]
    dsimp only [Result.andThen]
    rw [e4]
    rfl
  rw [Oper.wp, h1, Oper.upon_value]
  have hw2 : St c.w0 c.K0 (w.drew.alloc (.cells cs e)) ([(w.heap.size, .cells cs e (0, 0))] :: S) := (hw.drawn rfl rfl rfl rfl : St c.w0 c.K0 w.drew S).new _
  have hw3 := hw2.freeze (S' := [(w.heap.size, .cells cs e (cap, cap + 1))] :: S) (o := cap) ⟨[], S.flatten, rfl, rfl⟩
  refine hK _ _ (h _ cap cs _ hge (by rw [hsz]; omega) ?_ Q' hQ _ _ (he.putT _ hd) hw3)
  have q : (cs.extract 0 (0 + s.length * 1)).toList = s.map (fun b => Value.int .u8 (b.toNat : Int)) := by
    have q0 : cs.toList = s.map (fun b => Value.int .u8 (b.toNat : Int)) ++ List.replicate (cap - s.length) (.int .u8 0) := by
      rw [hcs]; simp
    rw [Array.toList_extract, List.extract_eq_take_drop, q0]
    simp only [List.drop_zero, Nat.zero_add, Nat.sub_zero, Nat.mul_one]
    have q2 : (s.map (fun b => Value.int .u8 (b.toNat : Int))).length = s.length := by simp
    rw [← q2, List.take_left]
  rw [q]
  exact Els.of_bytes s
theorem loadCells_b2s {w : World} {C : List Chunk} (l : Str) : True := trivial
end
/-! Calls: what is not owned by the callee is handed to it as one group that it leaves as it is -/
theorem Sel.cl {S A F : SH} (h : Sel S A F) : Sel S (A ++ [F.flatten]) [] := by
  unfold Sel at *
  simpa using h
theorem Sel.sub {S A F : SH} (h : Sel S A F) : ∀ x, x ∈ F.flatten → x ∈ S.flatten := fun x hx => (List.Perm.mem_iff h).2 (List.mem_append_right _ hx)
section
variable {c : Cx} {all : Array Oper} {rest : List Oper} {T L : Env} {S : SH} {Q : Env → SH → Prop} {ty : TypeId} {pos : String} {af : Array Edge}
theorem o_rest {l : List Oper} {A F : SH} (h : OkO c all l T L (A ++ F) Q) : OkO c all l T L ((A ++ [F.flatten]) ++ []) Q :=
  o_perm (by simp) h
theorem o_callC {d : Nat} {f : FuncId} {args : List Operand} {aty : Array TypeId} {vl : List Value} {A F : SH} {R : Value → SH → Prop} (hent : Ent c.P f) (hargs : argL (T ++ L) args = some vl) (hp : Sel S A F) (ht : Trip c.P f vl.toArray (A ++ [F.flatten]) R)
    (hd : Nat.blt d c.n = true) (h : ∀ v S', R v S' → OkO c all rest ((d, v) :: T) L (S' ++ []) Q) : OkO c all (⟨some d, .call ⟨.value (.func f), args.toArray, aty⟩, ty, pos, af, none⟩ :: rest) T L S Q :=
  o_call hent hargs ht hp.cl hd h
theorem o_callC0 {f : FuncId} {args : List Operand} {aty : Array TypeId} {vl : List Value} {A F : SH} {R : Value → SH → Prop} (hent : Ent c.P f) (hargs : argL (T ++ L) args = some vl) (hp : Sel S A F) (ht : Trip c.P f vl.toArray (A ++ [F.flatten]) R)
    (h : ∀ v S', R v S' → OkO c all rest T L (S' ++ []) Q) : OkO c all (⟨none, .call ⟨.value (.func f), args.toArray, aty⟩, ty, pos, af, none⟩ :: rest) T L S Q :=
  o_call0 hent hargs ht hp.cl h
theorem o_emp {l : List Oper} (h : OkO c all l T L ([] :: S) Q) : OkO c all l T L S Q := o_perm (by simp) h
end
theorem c_emp {c : Cx} {e : Env} {S : SH} {Q : Exit → Env → SH → Prop} {k : Code} (h : OkC c k e ([] :: S) Q) : OkC c k e S Q := c_perm (by simp) h
end Go.Eng
