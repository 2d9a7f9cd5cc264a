/- THE ENGINE, part 6: slices that the program makes and grows: make, append, copy, literals. -/
import Derived.Test.Qxb6500350aGreatEngD
import Derived.Laws.CopyRow
set_option linter.unusedVariables false
set_option linter.unusedSimpArgs false
namespace Go.Eng

def SlcZ (P : Program) (t e sz bytes : Nat) (z : Array Value) : Prop := ∃ i v, P.underlying t = some (.slice e) ∧ P.info? e = some i ∧ i.zero = some v ∧ v.cells = z ∧ i.size = sz ∧ i.bytes = bytes
def slzF (P : Program) (t : Nat) : Option (Nat × Nat × Nat × Array Value) :=
  match P.underlying t with
  | some (.slice e) => match P.info? e with
    | some i => match i.zero with
      | some v => some (e, i.size, i.bytes, v.cells)
      | none => none
    | none => none
  | _ => none
theorem SlcZ.of {P : Program} {t e sz bytes : Nat} {z : Array Value} (h : slzF P t = some (e, sz, bytes, z)) : SlcZ P t e sz bytes z := by
  unfold slzF at h
  split at h <;> try cases h
  rename_i e hu
  split at h <;> try cases h
  rename_i i hi
  split at h <;> try cases h
  rename_i v hv
  exact ⟨i, v, hu, hi, hv, rfl, rfl, rfl⟩

/-- the value v is a slice of n elements of sz cells each; the group g is its row; it holds xs, and what else there is room for -/
def Vec (e sz : Nat) (v : Value) (n : Nat) (xs : List Value) (g : List Chunk) : Prop :=
  xs.length = n * sz ∧ ((v = .slice none 0 0 ∧ n = 0 ∧ g = []) ∨
    ∃ b cap cur, v = .slice (some ⟨b, 0, none⟩) n cap ∧ g = [(b, .cells cur e (0, 0))] ∧ n ≤ cap ∧ cap ≤ maxLen ∧ cur.size = cap * sz ∧ cur.toList.take (n * sz) = xs)

/-- replacing a whole group -/
def RepG (S S' : SH) (g g' : List Chunk) : Prop := ∃ A B, S = A ++ g :: B ∧ S' = A ++ g' :: B
theorem q0 {g g' : List Chunk} {R : SH} : RepG (g :: R) (g' :: R) g g' := ⟨[], R, rfl, rfl⟩
theorem qs {g g' h : List Chunk} {R R' : SH} (k : RepG R R' g g') : RepG (h :: R) (h :: R') g g' := by
  obtain ⟨A, B, h1, h2⟩ := k
  exact ⟨h :: A, B, by rw [h1]; rfl, by rw [h2]; rfl⟩
theorem RepG.rep {S S' : SH} {x y : Chunk} (h : RepG S S' [x] [y]) : Rep S S' x y := by
  obtain ⟨A, B, rfl, rfl⟩ := h
  exact ⟨A.flatten, B.flatten, by simp, by simp⟩
/-- a new group in the place of an old one that is let go -/
theorem RepG.perm {S S' : SH} {g g' : List Chunk} (h : RepG S S' g g') : ∃ R : SH, S.flatten.Perm (g ++ R.flatten) ∧ S'.flatten.Perm (g' ++ R.flatten) := by
  obtain ⟨A, B, rfl, rfl⟩ := h
  refine ⟨A ++ B, ?_, ?_⟩ <;>
  · simp only [List.flatten_append, List.flatten_cons]
    rw [← List.append_assoc, ← List.append_assoc]
    exact List.perm_append_comm.append_right _

theorem RepG.mem {S S' : SH} {x : Chunk} {g' : List Chunk} (h : RepG S S' [x] g') : x ∈ S.flatten := by
  obtain ⟨A, B, rfl, rfl⟩ := h
  simp
theorem maxLen_eq : maxLen = 9223372036854775807 := by kernel_rfl
theorem bigLe : 4611686018427387903 ≤ maxLen := Nat.le_of_ble_eq_true (by kernel_rfl)

theorem plain_one {v : Value} (h : plainV v = true) : v.oneCell' = true := by cases v <;> first | rfl | simp [plainV] at h

section
variable {c : Cx} {all : Array Oper} {rest : List Oper} {T L : Env} {S : SH} {Q : Env → SH → Prop} {pos : String} {af : Array Edge} {ty : TypeId}

theorem St.cells_at {w0 w : World} {K0 : List Nat} (h : St w0 K0 w S) {b o k : Nat} {cs : Array Value} {t' : TypeId} {fz : Nat × Nat} (hm : (b, Obj.cells cs t' fz) ∈ S.flatten) (hl : o + k ≤ cs.size) :
    ∀ j v, (cs.extract o (o + k)).toList[j]? = some v → w.cell? (Addr.add ⟨b, o, none⟩ j) = some v := by
  intro j v hj
  rw [add_none]
  refine h.cell hm ?_
  simp only [Array.toList_extract, List.extract_eq_take_drop, List.getElem?_take] at hj
  split at hj
  · simpa using hj
  · cases hj

theorem o_make {d : Nat} {x y : Operand} {t e sz bytes : Nat} {z : Array Value} {kl kc : IntKind} {p q : Int} (l n : Nat) (hf : SlcZ c.P t e sz bytes z) (hx : gv (T ++ L) x = some (.int kl p)) (hy : gv (T ++ L) y = some (.int kc q)) (hp : p = (l : Int)) (hq : q = (n : Int))
    (hln : l ≤ n) (hb : bytes * n ≤ 281474976710656) (h63 : n ≤ 9223372036854775807) (hd : Nat.blt d c.n = true)
    (h : ∀ b, OkO c all rest ((d, .slice (some ⟨b, 0, none⟩) l n) :: T) L ([(b, .cells (madeCells z (n * sz)) e (0, 0))] :: S) Q) :
    OkO c all (⟨some d, .makeSlice t x y, ty, pos, af, none⟩ :: rest) T L S Q := by
  intro Q' hQ a w he hs
  refine wpList_plain rfl fun K hK => ?_
  have g1 := he.gv hx
  have g2 := he.gv hy
  obtain ⟨i, v, hu, hi, hz, rfl, rfl, rfl⟩ := hf
  subst hp; subst hq
  have hb0 : ((i.bytes * n : Nat) : Int) ≤ 281474976710656 := by omega
  rw [Int.natCast_mul] at hb0
  have hr := run_make (P := c.P) w t e i v hu hi hz kl kc l n (by omega) (by omega) hb0 (by omega)
  simp only [Int.toNat_natCast] at hr
  have h1 : (execOp a.eval ⟨some d, .makeSlice t x y, ty, pos, af, none⟩).run c.P w = .ok (.value (.slice (some ⟨w.heap.size, 0, none⟩) l n)) (w.alloc (.cells (madeCells v.cells (n * i.size)) e)) := by
    generalize a.eval = ρ at *
    generalize hm : Instr.makeSlice t (.int kl (l : Int)) (.int kc (n : Int)) = m at hr
    simp [execOp, go_sem, g1, g2, hm, hr]
  rw [Oper.wp, h1, Oper.upon_value]
  exact hK _ _ (h w.heap.size Q' hQ _ _ (he.putT _ hd) (hs.new _))

theorem next_le (need cap : Nat) (h : cap < need) : Builtin.nextslicecap need cap ≤ 2 * need + 4096 := by
  unfold Builtin.nextslicecap
  split
  · omega
  · split
    · omega
    · simp only [Builtin.growBy]
      repeat' split
      all_goals omega

theorem St.dropG {w0 w : World} {K0 : List Nat} {S S' : SH} {g : List Chunk} (h : St w0 K0 w S) (hr : RepG S S' g []) : St w0 K0 w S' := by
  obtain ⟨A, B, rfl, rfl⟩ := hr
  refine h.sub ?_
  simp only [List.flatten_append, List.flatten_cons, List.nil_append]
  exact (List.sublist_append_right g B.flatten).append_left _

theorem append_run {P : Program} {t e sz bytes : Nat} {z : Array Value} (hf : SlcZ P t e sz bytes z) (hsz : z.size = sz) {w0 w : World} {K0 : List Nat} {v : Value} {n : Nat} {xs : List Value} {g : List Chunk} {S' : List Chunk → SH}
    (hs : St w0 K0 w S) (hv : Vec e sz v n xs g) (hr : ∀ g', RepG S (S' g') g g') {b2 o2 m cp : Nat} {css : Array Value} {t2 : TypeId} {fz : Nat × Nat} (hm : (b2, Obj.cells css t2 fz) ∈ S.flatten) (hfit : o2 + m * sz ≤ css.size)
    (h1 : (css.extract o2 (o2 + m * sz)).toList.all plainV = true) (hb : (n + m + 4096) * bytes ≤ 70368744177664) (h63 : n + m ≤ 4611686018427387903) (ty : TypeId) :
    ∃ v' g' w', (Builtin.append_ #[t, t] ty #[v, .slice (some ⟨b2, o2, none⟩) m cp]).run P w = .ok v' w' ∧ Vec e sz v' (n + m) (xs ++ (css.extract o2 (o2 + m * sz)).toList) g' ∧ St w0 K0 w' (S' g') ∧ (v ≠ .slice none 0 0 → v' ≠ .slice none 0 0) := by
  obtain ⟨i, zv, hu, hi, hz, rfl, rfl, rfl⟩ := hf
  have hnews := hs.cells_at hm hfit
  have hlen : (css.extract o2 (o2 + m * i.size)).toList.length = m * i.size := by simp; omega
  generalize hN : (css.extract o2 (o2 + m * i.size)).toList = news at *
  obtain ⟨hxl, hv⟩ := hv
  have hnext : ∀ cap, cap < n + m → Builtin.nextslicecap (n + m) cap * i.bytes ≤ 281474976710656 := fun cap hc => by
    have h2 := next_le (n + m) cap hc
    have h3 : Builtin.nextslicecap (n + m) cap * i.bytes ≤ (2 * (n + m + 4096)) * i.bytes := Nat.mul_le_mul_right _ (Nat.le_trans h2 (by omega))
    rw [Nat.mul_assoc] at h3
    omega
  have fresh : ∀ (wd : World) (cells : Array Value), St w0 K0 wd S → St w0 K0 (wd.alloc (.cells cells e)) (S' [(wd.heap.size, .cells cells e (0, 0))]) := fun wd cells hd => by
    have h2 := (hd.dropG (hr [])).new (.cells cells e)
    refine h2.perm ?_
    obtain ⟨A, B, hA, hB⟩ := hr []
    obtain ⟨A', B', hA', hB'⟩ := hr [(wd.heap.size, .cells cells e (0, 0))]
    obtain ⟨R, hR1, hR2⟩ := (hr []).perm
    obtain ⟨R', hR1', hR2'⟩ := (hr [(wd.heap.size, .cells cells e (0, 0))]).perm
    have h3 : (g ++ R.flatten).Perm (g ++ R'.flatten) := hR1.symm.trans hR1'
    have h4 : R.flatten.Perm R'.flatten := (List.perm_append_left_iff g).1 h3
    rw [List.flatten_cons]
    exact ((hR2.trans (by simpa using h4)).append_left _).trans hR2'.symm
  have mk : ∀ (wd : World) (cells : Array Value) (cap : Nat), n + m ≤ cap → cap ≤ maxLen → cells.size = cap * i.size → cells.toList.take ((n + m) * i.size) = xs ++ news →
      Vec e i.size (.slice (some ⟨wd.heap.size, 0, none⟩) (n + m) cap) (n + m) (xs ++ news) [(wd.heap.size, .cells cells e (0, 0))] := fun wd cells cap h2 h3 h4 h5 =>
    ⟨by rw [List.length_append, hxl, hlen, Nat.add_mul], .inr ⟨_, cap, cells, rfl, rfl, h2, h3, h4, h5⟩⟩
  have hgl : ∀ old, grownCap w (n + m) old e ≤ maxLen := fun old => grownCap_le_maxLen w (n + m) old e (Nat.le_trans h63 bigLe)
  have hge : ∀ old, n + m ≤ grownCap w (n + m) old e := fun old => grownCap_ge w (n + m) old e
  rcases hv with ⟨rfl, rfl, rfl⟩ | ⟨b, cap, cur, rfl, rfl, hnc, hcm, hcs, htk⟩
  · -- nil
    obtain rfl : xs = [] := List.eq_nil_of_length_eq_zero (by simpa using hxl)
    by_cases hm0 : m = 0
    · subst hm0
      obtain rfl : news = [] := List.eq_nil_of_length_eq_zero (by simpa using hlen)
      refine ⟨.slice none 0 0, [], w, ?_, ⟨by simp, .inl ⟨rfl, rfl, rfl⟩⟩, hs.dropG (hr []), fun h => absurd rfl h⟩
      have := run_append_fits (P := P) (w := w) 0 t ty e i i.size hu hi rfl
      simp [Builtin.append_, run_underlying hu, sizeOf, typeInfo, hi, Builtin.lenOf, Builtin.firstCells, loadCells, loadCellsFrom, go_sem]
    · have hrun := run_append_nil (P := P) (w := w) t ty e i zv hu hi hz ⟨b2, o2, none⟩ m cp news hlen hnews (by omega) (by omega) (Nat.le_trans (Nat.mul_le_mul_right i.bytes (by omega : m ≤ 0 + m + 4096)) (Nat.le_trans hb (by omega)))
      refine ⟨_, _, _, hrun, ?_, fresh w.drew _ (hs.drawn rfl rfl rfl rfl), fun h => absurd rfl h⟩
      have := mk w (news.toArray ++ Builtin.zeroCells zv.cells (grownCap w m 0 e - m)) (grownCap w m 0 e) (by simpa using hge 0) (by simpa using hgl 0)
        (by have := hge 0; simp only [Nat.zero_add] at this; rw [Array.size_append, size_zeroCells, hsz, List.size_toArray, hlen, ← Nat.add_mul]; congr 1; omega) (by simp [← hlen])
      simpa using this
  · by_cases hroom : n + m ≤ cap
    · have hcapm : (n + m) * i.size ≤ cap * i.size := Nat.mul_le_mul_right _ hroom
      have hrun := run_append_room (P := P) (w := w) t ty e i hu hi b n cap cur (hs.1.2 _ (hr []).mem) ⟨b2, o2, none⟩ m cp news hlen hnews (fun u hu' => plain_one (List.all_eq_true.1 h1 u hu')) hroom (by rw [hlen, ← Nat.add_mul, hcs]; exact hcapm)
      refine ⟨_, [(b, .cells (cur.toList.take (n * i.size) ++ news ++ cur.toList.drop (n * i.size + news.length)).toArray e (0, 0))], _, hrun, ⟨by rw [List.length_append, hxl, hlen, Nat.add_mul], .inr ⟨b, cap, _, rfl, rfl, hroom, hcm, ?_, ?_⟩⟩, ?_, fun _ h => nomatch h⟩
      · have : n * i.size ≤ cur.toList.length := by rw [Array.length_toList, hcs]; exact Nat.mul_le_mul_right _ hnc
        have h9 : cur.toList.length = cap * i.size := by simpa using hcs
        rw [Nat.add_mul] at hcapm
        simp only [List.size_toArray, List.length_append, List.length_take, List.length_drop, hlen, h9]
        omega
      · rw [htk]
        rw [List.take_append_of_le_length (by rw [List.length_append, hxl, hlen, Nat.add_mul]; exact Nat.le_refl _)]
        rw [List.take_of_length_le (by rw [List.length_append, hxl, hlen, Nat.add_mul]; exact Nat.le_refl _)]
      · have hb0 := hs.1.2 _ (hr []).mem
        refine hs.upd (hr _).rep rfl rfl rfl (by simp [World.setRow]) ?_ fun k hk => ?_
        · simp only at hb0
          simp [World.setRow, Array.getElem?_modify, hb0]
        · simp only [World.setRow, Array.getElem?_modify]
          rw [if_neg (fun e => hk e.symm)]
    · have holds : ∀ j u, xs[j]? = some u → w.cell? (Addr.add ⟨b, 0, none⟩ j) = some u := fun j u hj => by
        rw [add_none, Nat.zero_add]
        refine hs.cell (hr []).mem ?_
        rw [← htk, List.getElem?_take] at hj
        split at hj
        · simpa using hj
        · cases hj
      have hrun := run_append_grow (P := P) (w := w) t ty e i zv hu hi hz ⟨b, 0, none⟩ n cap xs hxl holds ⟨b2, o2, none⟩ m cp news hlen hnews (by omega) (by omega) (hnext cap (by omega))
      refine ⟨_, _, _, hrun, ?_, fresh w.drew _ (hs.drawn rfl rfl rfl rfl), fun _ h => nomatch h⟩
      have := mk w (xs.toArray ++ news.toArray ++ Builtin.zeroCells zv.cells (grownCap w (n + m) cap e - (n + m))) (grownCap w (n + m) cap e) (hge cap) (hgl cap)
        (by have := hge cap; rw [Array.size_append, Array.size_append, size_zeroCells, hsz, List.size_toArray, List.size_toArray, hxl, hlen, ← Nat.add_mul, ← Nat.add_mul]; congr 1; omega) (by
          have h8 : (n + m) * i.size = (xs ++ news).length := by rw [List.length_append, hxl, hlen, Nat.add_mul]
          have h9 : (xs.toArray ++ news.toArray ++ Builtin.zeroCells zv.cells (grownCap w (n + m) cap e - (n + m))).toList = (xs ++ news) ++ (Builtin.zeroCells zv.cells (grownCap w (n + m) cap e - (n + m))).toList := by simp
          rw [h9, h8, List.take_append_of_le_length (Nat.le_refl _), List.take_of_length_le (Nat.le_refl _)])
      exact this

theorem o_append {d : Nat} {x y : Operand} {t e sz bytes : Nat} {z : Array Value} {v : Value} {n : Nat} {xs : List Value} {g : List Chunk} {S' : List Chunk → SH} {b2 o2 m cp : Nat} {css : Array Value} {t2 : TypeId} {fz : Nat × Nat} {news : List Value}
    (hf : SlcZ c.P t e sz bytes z) (hsz : z.size = sz) (hx : gv (T ++ L) x = some v) (hy : gv (T ++ L) y = some (.slice (some ⟨b2, o2, none⟩) m cp)) (hv : Vec e sz v n xs g) (hr : ∀ g', RepG S (S' g') g g')
    (hm : (b2, Obj.cells css t2 fz) ∈ S.flatten) (hN : (css.extract o2 (o2 + m * sz)).toList = news) (hfit : o2 + m * sz ≤ css.size) (h1 : news.all plainV = true) (hb : (n + m + 4096) * bytes ≤ 70368744177664) (h63 : n + m ≤ 4611686018427387903) (hd : Nat.blt d c.n = true)
    (h : ∀ v' g', Vec e sz v' (n + m) (xs ++ news) g' → (v ≠ .slice none 0 0 → v' ≠ .slice none 0 0) → OkO c all rest ((d, v') :: T) L (S' g') Q) :
    OkO c all (⟨some d, .call ⟨.builtin .append, #[x, y], #[t, t]⟩, ty, pos, af, none⟩ :: rest) T L S Q := by
  intro Q' hQ a w he hs
  refine wpList_plain rfl fun K hK => ?_
  have g1 := he.gv hx
  have g2 := he.gv hy
  subst hN
  obtain ⟨v', g', w', hrun, hv', hs', hnn⟩ := append_run hf hsz hs hv hr hm hfit h1 hb h63 ty (cp := cp)
  have h2 : (execOp a.eval ⟨some d, .call ⟨.builtin .append, #[x, y], #[t, t]⟩, ty, pos, af, none⟩).run c.P w = .ok (.value v') w' := by
    generalize a.eval = ρ at *
    simp [execOp, resolve, invoke, builtin, g1, g2, hrun, Result.andThen]
  rw [Oper.wp, h2, Oper.upon_value]
  exact hK _ _ (h v' g' hv' hnn Q' hQ _ _ (he.putT _ hd) hs')

/-! copy -/
theorem o_copy {d : Option Nat} {x y : Operand} {t ts e sz bytes : Nat} {z : Array Value} {bd od dl dc bs os sl sc : Nat} {csd csd' css : Array Value} {td t2 : TypeId} {fz : Nat × Nat} {S' : SH} (n : Nat)
    (hf : SlcZ c.P t e 1 bytes z) (hx : gv (T ++ L) x = some (.slice (some ⟨bd, od, none⟩) dl dc)) (hy : gv (T ++ L) y = some (.slice (some ⟨bs, os, none⟩) sl sc)) (hn : n = Nat.min sl dl)
    (hr : Rep S S' (bd, .cells csd td (0, 0)) (bd, .cells csd' td (0, 0))) (hm : (bs, Obj.cells css t2 fz) ∈ S.flatten) (hc : (csd.toList.take od ++ (css.extract os (os + n)).toList ++ csd.toList.drop (od + n)).toArray = csd')
    (hfd : od + n ≤ csd.size) (hfs : os + n ≤ css.size) (h1 : (css.extract os (os + n)).toList.all plainV = true) (hd : d = none ∨ ∃ s, d = some s ∧ Nat.blt s c.n = true ∧ apartB [(s, undef)] (T ++ L) = true)
    (h : OkO c all rest T L S' Q) : OkO c all (⟨d, .call ⟨.builtin .copy, #[x, y], #[t, ts]⟩, ty, pos, af, none⟩ :: rest) T L S Q := by
  intro Q' hQ a w he hs
  refine wpList_plain rfl fun K hK => ?_
  have g1 := he.gv hx
  have g2 := he.gv hy
  subst hc
  obtain ⟨i, v, hu, hi, hz, hv, hsz, hby⟩ := hf
  have hsrc := hs.cells_at hm hfs
  have hlen : (css.extract os (os + n)).toList.length = n := by simp; omega
  have hrun := run_copy_row (P := c.P) w t ts ty e bd od dl dc ⟨bs, os, none⟩ sl sc csd td (css.extract os (os + n)).toList hu (by rw [hi]; simp [hsz]) (hs.1.2 _ hr.mem) (by rw [hlen, hn]) hsrc (by rw [hlen]; exact hfd) (fun u hu' => plain_one (List.all_eq_true.1 h1 u hu'))
  have hs' : St c.w0 c.K0 (w.setRow bd (csd.toList.take od ++ (css.extract os (os + n)).toList ++ csd.toList.drop (od + (css.extract os (os + n)).toList.length)).toArray) S' := by
    have hb0 := hs.1.2 _ hr.mem
    simp only at hb0
    refine hs.upd hr rfl rfl rfl (by simp [World.setRow]) ?_ fun k hk => ?_
    · rw [hlen]; simp [World.setRow, Array.getElem?_modify, hb0]
    · simp only [World.setRow, Array.getElem?_modify]
      rw [if_neg (fun e => hk e.symm)]
  have h2 : (execOp a.eval ⟨d, .call ⟨.builtin .copy, #[x, y], #[t, ts]⟩, ty, pos, af, none⟩).run c.P w = .ok (.value (goInt (css.extract os (os + n)).toList.length)) (w.setRow bd (csd.toList.take od ++ (css.extract os (os + n)).toList ++ csd.toList.drop (od + (css.extract os (os + n)).toList.length)).toArray) := by
    generalize a.eval = ρ at *
    simp [execOp, resolve, invoke, builtin, g1, g2, hrun, Result.andThen]
  rw [Oper.wp, h2, Oper.upon_value]
  rcases hd with rfl | ⟨s, rfl, hd1, hd2⟩
  · exact hK _ _ (h Q' hQ _ _ he hs')
  · refine hK _ _ (h Q' hQ _ _ ?_ hs')
    refine he.put hd1 fun t' u hu' => .inr ⟨fun e => ?_, hu'⟩
    subst e
    have := apartB_spec hd2 t' u hu'
    simp [gt] at this

/-! literals -/
theorem o_bs0 {d : Nat} {t e sz bytes : Nat} {z : Array Value} (hf : SlcZ c.P t e sz bytes z) (hd : Nat.blt d c.n = true)
    (h : ∀ b, OkO c all rest ((d, .slice (some ⟨b, 0, none⟩) 0 0) :: T) L ([(b, .cells #[] e (0, 0))] :: S) Q) : OkO c all (⟨some d, .buildSlice t 0 #[], ty, pos, af, none⟩ :: rest) T L S Q := by
  intro Q' hQ a w he hs
  refine wpList_plain rfl fun K hK => ?_
  obtain ⟨i, v, hu, hi, hz, rfl, rfl, rfl⟩ := hf
  have h1 : (execOp a.eval ⟨some d, .buildSlice t 0 #[], ty, pos, af, none⟩).run c.P w = .ok (.value (.slice (some ⟨w.heap.size, 0, none⟩) 0 0)) (w.alloc (.cells #[] e)) := by
    simp [execOp, go_sem, Instr.buildSlice, run_underlying hu, sz_run hi, Instr.fill, newRow, Array.range_zero']
  rw [Oper.wp, h1, Oper.upon_value]
  exact hK _ _ (h w.heap.size Q' hQ _ _ (he.putT _ hd) (hs.new _))

theorem foldl_fill (vs : List Value) : ∀ (j off : Nat) (cs : Array Value), (vs.zipIdx j).foldl (fun cs (p : Value × Nat) => cs.setIfInBounds (off + p.2) p.1) cs = setAll cs (off + j) vs := by
  induction vs with
  | nil => intro j off cs; rfl
  | cons v r ih => intro j off cs; simp only [List.zipIdx_cons, List.foldl_cons, setAll]; rw [ih, Nat.add_assoc]

theorem setAll_size (vs : List Value) : ∀ (o : Nat) (cs : Array Value), (setAll cs o vs).size = cs.size := by
  induction vs with
  | nil => intro o cs; rfl
  | cons v r ih => intro o cs; simp only [setAll]; rw [ih]; simp
theorem setAll_toList (vs : List Value) : ∀ (o : Nat) (cs : Array Value), o + vs.length ≤ cs.size → (setAll cs o vs).toList = cs.toList.take o ++ vs ++ cs.toList.drop (o + vs.length) := by
  induction vs with
  | nil => intro o cs _; simp [setAll]
  | cons v r ih =>
    intro o cs h
    simp only [List.length_cons] at h
    simp only [setAll]
    rw [ih _ _ (by simp; omega)]
    have h1 : o < cs.toList.length := by simp; omega
    simp only [Array.toList_setIfInBounds]
    rw [List.take_set, List.drop_set_of_lt (by omega)]
    have h2 : (cs.toList.take (o + 1)).set o v = cs.toList.take o ++ [v] := by
      rw [List.take_succ_eq_append_getElem h1, List.set_append_right _ _ (by simp; omega)]
      have h3 : o - (cs.toList.take o).length = 0 := by rw [List.length_take]; omega
      rw [h3]; rfl
    rw [h2]
    simp [Nat.add_assoc, Nat.add_comm 1]
theorem setAll_full (vs : Array Value) (cs : Array Value) (h : cs.size = vs.size) : setAll cs 0 vs.toList = vs := by
  apply Array.ext'
  rw [setAll_toList _ _ _ (by simp; omega)]
  simp [h]

/-- a slice literal of one element -/
theorem o_bs1 {d : Nat} {x : Operand} {t e sz bytes : Nat} {z vs : Array Value} {v : Value} (hf : SlcZ c.P t e sz bytes z) (hx : gv (T ++ L) x = some v) (hv : v.cells = vs) (hz : vs.size = sz) (h0 : Nat.blt 0 sz = true) (hlt : Nat.blt sz 1000 = true) (hd : Nat.blt d c.n = true)
    (h : ∀ b, OkO c all rest ((d, .slice (some ⟨b, 0, none⟩) 1 1) :: T) L ([(b, .cells vs e (0, 0))] :: S) Q) : OkO c all (⟨some d, .buildSlice t 1 #[(0, x)], ty, pos, af, none⟩ :: rest) T L S Q := by
  intro Q' hQ a w he hs
  refine wpList_plain rfl fun K hK => ?_
  have g1 := he.gv hx
  obtain ⟨i, zv, hu, hi, hzv, rfl, rfl, rfl⟩ := hf
  have hlt' : i.size < 1000 := Nat.le_of_ble_eq_true hlt
  have h0' : 0 < i.size := Nat.le_of_ble_eq_true h0
  subst hv
  have hfill : ∀ (zz : Array Value), zz.size = i.size → Instr.fill (fun j => some (j * i.size, i.size)) zz [(0, v)] = some v.cells := by
    intro zz hzz
    have h2 := foldl_fill v.cells.toList 0 0 zz
    simp only [Nat.zero_add] at h2
    have h3 := setAll_full v.cells zz (by rw [hzz, hz])
    have h4 : v.cells.zipIdx.foldl (fun cs (x : Value × Nat) => cs.setIfInBounds (0 + x.2) x.1) zz = v.cells := by
      rw [h3] at h2
      refine Eq.trans ?_ h2
      rw [← Array.foldl_toList]; simp
    unfold Instr.fill
    simp only [Nat.zero_mul]
    rw [if_neg (by simp [hz, hzz])]
    unfold Instr.fill
    exact congrArg some h4
  have h1 : (execOp a.eval ⟨some d, .buildSlice t 1 #[(0, x)], ty, pos, af, none⟩).run c.P w = .ok (.value (.slice (some ⟨w.heap.size, 0, none⟩) 1 1)) (w.alloc (.cells v.cells e)) := by
    generalize a.eval = ρ at *
    have h5 : ¬ (16777216 < i.size) := by omega
    have h6 : ¬ i.size = 0 := by omega
    have hfl : ∀ f : Nat → Value, Instr.fill (fun j => some (j * i.size, i.size)) ((Array.range i.size).map f) [(0, v)] = some v.cells := fun f => hfill _ (by simp)
    simp [execOp, Instr.buildSlice, g1, run_underlying hu, sizeOf, zeroValue, typeInfo, hi, hzv, h5, h6, hfl, newRow, Result.andThen]
  rw [Oper.wp, h1, Oper.upon_value]
  exact hK _ _ (h w.heap.size Q' hQ _ _ (he.putT _ hd) (hs.new _))
end

/-! struct literals -/
def StrZ (P : Program) (t : TypeId) (pl : List (Nat × Nat)) (z : Array Value) : Prop := ∃ fs i v, P.underlying t = some (.struct fs) ∧ P.info? t = some i ∧ i.zero = some v ∧ v.cells = z ∧ (∀ f, f ∈ fs.toList → P.info? f.type ≠ none) ∧ fs.toList.map (fun f => (f.offset, P.cellsOf f.type)) = pl
def strF (P : Program) (t : Nat) : Option (List (Nat × Nat) × Array Value) :=
  match P.underlying t, P.info? t with
  | some (.struct fs), some i => match i.zero with
    | some v => if fs.toList.all (fun f => (P.info? f.type).isSome) then some (fs.toList.map (fun f => (f.offset, P.cellsOf f.type)), v.cells) else none
    | none => none
  | _, _ => none
theorem StrZ.of {P : Program} {t : Nat} {pl : List (Nat × Nat)} {z : Array Value} (h : strF P t = some (pl, z)) : StrZ P t pl z := by
  unfold strF at h
  split at h <;> try cases h
  rename_i fs i hu hi
  split at h <;> try cases h
  rename_i v hv
  split at h <;> try cases h
  rename_i hall
  refine ⟨fs, i, v, hu, hi, hv, rfl, fun f hf e => ?_, rfl⟩
  have := List.all_eq_true.1 hall f hf
  rw [e] at this; cases this

def fillE (pl : List (Nat × Nat)) : Array Value → List (Nat × Value) → Option (Array Value)
  | cs, [] => some cs
  | cs, (i, v) :: r => match pl[i]? with
    | some (off, sz) => match Nat.beq v.cells.size sz, Nat.ble (off + sz) cs.size with
      | true, true => fillE pl (setAll cs off v.cells.toList) r
      | _, _ => none
    | none => none
theorem fillE_spec {pl : List (Nat × Nat)} : ∀ (vs : List (Nat × Value)) (cs cs' : Array Value), fillE pl cs vs = some cs' → Instr.fill (fun i => pl[i]?) cs vs = some cs'
  | [], cs, cs', h => by simpa [fillE, Instr.fill] using h
  | (i, v) :: r, cs, cs', h => by
    simp only [fillE] at h
    split at h
    · rename_i off sz hp
      split at h
      · rename_i h1 h2
        have h1' := Nat.eq_of_beq_eq_true h1
        have h2' := Nat.le_of_ble_eq_true h2
        unfold Instr.fill
        simp only [hp]
        rw [if_neg (by simp; omega)]
        have h3 := foldl_fill v.cells.toList 0 off cs
        simp only [Nat.add_zero] at h3
        have h4 : v.cells.zipIdx.foldl (fun cs (x : Value × Nat) => cs.setIfInBounds (off + x.2) x.1) cs = setAll cs off v.cells.toList := by
          rw [← h3, ← Array.foldl_toList]; simp
        have h5 := fillE_spec r _ _ h
        rw [← h4] at h5
        exact h5
      · cases h
    · cases h

def partL (e : Env) : List (Nat × Operand) → Option (List (Nat × Value))
  | [] => some []
  | (i, x) :: r => match gv e x, partL e r with
    | some v, some vs => some ((i, v) :: vs)
    | _, _ => none
theorem partL_eval {n : Nat} {e : Env} {a : Act} (he : EnvOk n e a) : ∀ (l : List (Nat × Operand)) (vs : List (Nat × Value)), partL e l = some vs → l.map (fun p => (p.1, a.eval p.2)) = vs
  | [], vs, h => by simp [partL] at h; simp [h]
  | (i, x) :: r, vs, h => by
    simp only [partL] at h
    split at h
    · rename_i v vs' h1 h2
      cases h
      simp [he.gv h1, partL_eval he r vs' h2]
    · cases h

theorem places_run {P : Program} (w : World) : ∀ (fs : List Field), (∀ f, f ∈ fs → P.info? f.type ≠ none) →
    (fs.mapM (m := Sem) fun f => Prod.mk f.offset <$> sizeOf f.type).run P w = .ok (fs.map (fun f => (f.offset, P.cellsOf f.type))) w
  | [], _ => by simp
  | f :: r, h => by
    have h1 := places_run w r (fun g hg => h g (List.mem_cons_of_mem _ hg))
    cases hi : P.info? f.type with
    | none => exact absurd hi (h f (List.mem_cons_self ..))
    | some i =>
      simp only [List.mapM_cons, List.map_cons]
      simp [sz_run hi, h1, Result.andThen]

theorem y_build {P : Program} {n : Nat} {e : Env} {ty : TypeId} {t : TypeId} {pl : List (Nat × Nat)} {z cs : Array Value} {ps : List (Nat × Operand)} {vs : List (Nat × Value)} (hf : StrZ P t pl z) (hp : partL e ps = some vs) (hc : fillE pl z vs = some cs) :
    Yields P n e (.build t ps.toArray) ty (.agg cs) := fun a w d pos af he => by
  obtain ⟨fs, i, v, hu, hi, hz, rfl, hall, rfl⟩ := hf
  have h1 := partL_eval he ps vs hp
  have h2 := fillE_spec _ _ _ hc
  have h3 := places_run (P := P) w fs.toList hall
  generalize a.eval = ρ at *
  have h4 : (fs.mapM (m := Sem) fun f => Prod.mk f.offset <$> sizeOf f.type).run P w = .ok (fs.toList.map (fun f => (f.offset, P.cellsOf f.type))).toArray w := by
    rw [Array.mapM_eq_mapM_toList]
    simp [h3, Result.andThen]
  have h5 : ps.map (fun x => (x.1, ρ x.2)) = vs := h1
  have h6 : Instr.fill (fun x => (fs.toList.map (fun f => (f.offset, P.cellsOf f.type))).toArray[x]?) v.cells vs = some cs := by simpa using h2
  generalize (fs.toList.map (fun f => (f.offset, P.cellsOf f.type))).toArray = pa at *
  simp [execOp, Instr.build, run_underlying hu, zeroValue, typeInfo, hi, hz, h4, h5, h6, Result.andThen]
end Go.Eng
