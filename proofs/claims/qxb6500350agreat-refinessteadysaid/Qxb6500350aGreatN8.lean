/- RULES: lists of lists that are written, lists of lists that are lent, copies, rows that are written over. -/
import Derived.Test.Qxb6500350aGreatN7
set_option linter.unusedVariables false
set_option linter.unusedSimpArgs false
namespace Go.Eng
/-! rows that may be written over -/
def Shp (R : Nat × Nat) (C : List Chunk) (v : Value) : Prop := v = .slice none 0 0 ∨ ∃ b len cap cur, v = .slice (some ⟨b, 0, none⟩) len cap ∧ (b, Obj.cells cur R.1 (0, 0)) ∈ C ∧ cur.size = cap * R.2 ∧ len ≤ cap ∧ cap ≤ maxLen
theorem Shp.mono {R : Nat × Nat} {C C' : List Chunk} {v : Value} (hC : ∀ x, x ∈ C → x ∈ C') (h : Shp R C v) : Shp R C' v := by
  rcases h with h | ⟨b, len, cap, cur, h1, h2, h3⟩
  · exact .inl h
  · exact .inr ⟨b, len, cap, cur, h1, hC _ h2, h3⟩
def RdS {α : Type} (R : Lay α) (C : List Chunk) (v : Value) (l : List α) : Prop := Rd R C v l ∧ Shp (R.ty, R.sz) C v
theorem RdS.mono {α : Type} {R : Lay α} {C C' : List Chunk} {v : Value} {l : List α} (hC : ∀ x, x ∈ C → x ∈ C') (h : RdS R C v l) : RdS R C' v l := ⟨h.1.mono hC, h.2.mono hC⟩
theorem Own.rds {α : Type} {R : Lay α} {v : Value} {l : List α} {g : List Chunk} (h : Own R v l g) : RdS R g v l := by
  refine ⟨h.rd, ?_⟩
  rcases h with ⟨rfl, rfl⟩ | ⟨b, cap, cur, rest, rfl, rfl, h1, h2, h3, h4⟩
  · exact .inl rfl
  · exact .inr ⟨b, _, cap, cur, rfl, by simp, h3, h1, h2⟩
/-! copy of a whole list of things of one cell -/
def cpL {α : Type} (d s : List α) : Option (List α) := if 0 < s.length ∧ s.length = d.length then some s else none
section
variable {c : Cx} {all : Array Oper} {rest : List Oper} {T L : Env} {S : SH} {Q : Env → SH → Prop} {pos : String} {af : Array Edge} {ty : TypeId} {α : Type} {R : Lay α}
theorem o_cpR {d : Option Nat} {x y : Operand} {t ts bytes : Nat} {z : Array Value} {v w : Value} {l s m : List α} {g C : List Chunk} {S' : List Chunk → SH} (hf : SlcZ c.P t R.ty 1 bytes z) (h1 : R.sz = 1) (hx : gv (T ++ L) x = some v) (hy : gv (T ++ L) y = some w) (hv : Own R v l g) (hw : Rd R C w s) (hC : ∀ z, z ∈ C → z ∈ S.flatten) (hm : cpL l s = some m)
    (hr : ∀ g', RepG S (S' g') g g') (hflat : ∀ {C C' vs a}, R.rd C vs a → R.rd C' vs a) (hd : d = none ∨ ∃ s, d = some s ∧ Nat.blt s c.n = true ∧ apartB [(s, undef)] (T ++ L) = true) (h : ∀ g', Own R v m g' → OkO c all rest T L (S' g') Q) : OkO c all (⟨d, .call ⟨.builtin .copy, #[x, y], #[t, ts]⟩, ty, pos, af, none⟩ :: rest) T L S Q := by
  unfold cpL at hm; split at hm
  case isFalse => cases hm
  rename_i hc
  cases hm
  rcases hw with ⟨rfl, _⟩ | ⟨bs, os, cs_, css, t2, fz, rfl, k1, k2, k3, k4⟩
  · simp at hc
  rcases hv with ⟨rfl, rfl⟩ | ⟨b, cap, cur, rs, rfl, rfl, g1, g2, g3, g4⟩
  · have q1 := hc.1
    have q2 := hc.2
    simp only [List.length_nil] at q2
    omega
  rw [h1, Nat.mul_one] at k3 k4 g3
  have e1 : (css.extract os (os + s.length)).toList.length = s.length := by simp; omega
  refine o_copy (sz := 1) s.length hf hx hy (by rw [← hc.2]; exact (Nat.min_self _).symm) (hr ((b, Obj.cells (cur.toList.take 0 ++ (css.extract os (os + s.length)).toList ++ cur.toList.drop (0 + s.length)).toArray R.ty (0, 0)) :: rs)).cell (hC _ k1) rfl (by omega) (by omega) k4.plain hd ?_
  refine h _ (.inr ⟨b, cap, _, rs, by rw [hc.2], rfl, by omega, g2, ?_, ?_⟩)
  · have : cur.toList.length = cap := by simpa using g3
    rw [h1, Nat.mul_one]
    simp only [List.size_toArray, List.length_append, List.take_zero, List.length_nil, e1, List.length_drop, this]
    omega
  · rw [h1, Nat.mul_one]
    simp only [List.take_zero, List.nil_append]
    have key : ∀ {xs : List Value} {q : List α}, Els R C xs q → Els R rs xs q := by
      intro xs q
      induction q generalizing xs with
      | nil => exact fun h => h
      | cons a q ih => rintro ⟨y, ys, e, e2, e3⟩; exact ⟨y, ys, e, hflat e2, ih e3⟩
    have e2 : List.take s.length ((css.extract os (os + s.length)).toList ++ List.drop (0 + s.length) cur.toList) = (css.extract os (os + s.length)).toList := by
      have e3 := List.take_left (l₁ := (css.extract os (os + s.length)).toList) (l₂ := List.drop (0 + s.length) cur.toList)
      rw [e1] at e3; exact e3
    rw [e2]
    exact key k4
end
/-! lists of lists, row by row -/
def Rows {α : Type} (R : Lay α) : List Value → List (List α) → List Chunk → Prop
  | vs, [], g => vs = [] ∧ g = []
  | vs, l :: ll, g => ∃ v vs' g1 g2, vs = v :: vs' ∧ Own R v l g1 ∧ Rows R vs' ll g2 ∧ g = g1 ++ g2
def OwnT {α : Type} (R : Lay α) (ty : Nat) (v : Value) (tt : List (List α)) (g : List Chunk) : Prop := ∃ b cap cur rs, v = .slice (some ⟨b, 0, none⟩) tt.length cap ∧ g = (b, Obj.cells cur ty (0, 0)) :: rs ∧ cap ≤ maxLen ∧ tt.length ≤ cap ∧ cur.size = cap ∧ Rows R (cur.toList.take tt.length) tt rs
section
variable {α : Type} {R : Lay α} {ty : Nat}
theorem Rows.get : ∀ {vs : List Value} {tt : List (List α)} {g : List Chunk} {i : Nat} {l : List α}, Rows R vs tt g → tt[i]? = some l → ∃ w gi A B, vs[i]? = some w ∧ Own R w l gi ∧ g = A ++ gi ++ B ∧
    ∀ w' l' gi', Own R w' l' gi' → Rows R (vs.set i w') (tt.set i l') (A ++ gi' ++ B)
  | vs, [], g, i, l, _, h => by simp at h
  | vs, l0 :: ll, g, 0, l, ⟨v, vs', g1, g2, h1, h2, h3, h4⟩, h => by
    simp at h; subst h
    refine ⟨v, g1, [], g2, by simp [h1], h2, by simpa using h4, fun w' l' gi' hw => ?_⟩
    subst h1
    exact ⟨w', vs', gi', g2, by simp, hw, h3, by simp⟩
  | vs, l0 :: ll, g, i + 1, l, ⟨v, vs', g1, g2, h1, h2, h3, h4⟩, h => by
    obtain ⟨w, gi, A, B, e1, e2, e3, e4⟩ := Rows.get (i := i) h3 (by simpa using h)
    refine ⟨w, gi, g1 ++ A, B, by simp [h1, e1], e2, by rw [h4, e3]; simp, fun w' l' gi' hw => ?_⟩
    subst h1
    exact ⟨v, vs'.set i w', g1, A ++ gi' ++ B, by simp, h2, e4 w' l' gi' hw, by simp⟩
theorem Rows.els {n : Nat} : ∀ {vs : List Value} {tt : List (List α)} {g : List Chunk}, Rows R vs tt g → Els (rList R n) g vs tt
  | vs, [], g, ⟨h, _⟩ => h
  | vs, l0 :: ll, g, ⟨v, vs', g1, g2, h1, h2, h3, h4⟩ => by
    subst h4
    exact ⟨[v], vs', by rw [h1]; rfl, ⟨v, rfl, h2.rd.mono (fun _ h => List.mem_append_left _ h)⟩, (Rows.els h3).mono (fun _ h => List.mem_append_right _ h)⟩
theorem OwnT.own {v : Value} {tt : List (List α)} {g : List Chunk} (h : OwnT R ty v tt g) : Own (rList R ty) v tt g := by
  obtain ⟨b, cap, cur, rs, rfl, rfl, h1, h2, h3, h4⟩ := h
  exact .inr ⟨b, cap, cur, rs, rfl, rfl, h2, h1, by rw [h3]; exact (Nat.mul_one _).symm, by have e : (rList R ty).sz = 1 := rfl; rw [e, Nat.mul_one]; exact h4.els⟩
theorem OwnT.rd {v : Value} {tt : List (List α)} {g : List Chunk} (h : OwnT R ty v tt g) : Rd (rList R ty) g v tt := h.own.rd
theorem OwnT.pl {v : Value} {tt : List (List α)} {g : List Chunk} (h : OwnT R ty v tt g) : plainV v = true := h.own.pl
theorem OwnT.to {v : Value} {tt tt' : List (List α)} {g : List Chunk} (h : OwnT R ty v tt g) (e : tt = tt') : OwnT R ty v tt' g := e ▸ h
/-- the place of a row's header, and its row -/
theorem OwnT.ixr {v : Value} {tt : List (List α)} {g : List Chunk} {i : Int} {l : List α} (h : OwnT R ty v tt g) (hi : ixL tt i = some l) : ∃ b cur w gi A B, (b, Obj.cells cur ty (0, 0)) ∈ g ∧ cur[0 + i.toNat * 1]? = some w ∧ Own R w l gi ∧ g = A ++ gi ++ B ∧
    (∀ l' gi', Own R w l' gi' → OwnT R ty v (tt.set i.toNat l') (A ++ gi' ++ B)) ∧
    ∀ {P : Program} {n : Nat} {e : Env} {tz : TypeId} {t el : TypeId} {sz : Nat} {x y : Operand} {k : IntKind}, SlcAt P t el sz → sz = 1 → gv e x = some v → gv e y = some (.int k i) → Yields P n e (.indexAddr t x y) tz (.pointer (some ⟨b, 0 + i.toNat * 1, none⟩)) := by
  obtain ⟨h0, hlt, hl⟩ := ixL_lt hi
  obtain ⟨b, cap, cur, rs, rfl, rfl, h1, h2, h3, h4⟩ := h
  obtain ⟨w, gi, A, B, e1, e2, e3, e4⟩ := h4.get hl
  have e5 : cur[i.toNat]? = some w := by
    rw [List.getElem?_take] at e1
    split at e1
    · simpa using e1
    · cases e1
  refine ⟨b, cur, w, gi, (b, Obj.cells cur ty (0, 0)) :: A, B, by simp, by simpa using e5, e2, by rw [e3]; simp, fun l' gi' hw => ?_, fun hf hsz hx hy => by
    subst hsz
    exact y_is hf hx hy h0 hlt⟩
  refine ⟨b, cap, cur, A ++ gi' ++ B, by simp, by simp, h1, by simpa using h2, h3, ?_⟩
  have e6 := e4 w l' gi' hw
  have e7 : (cur.toList.take tt.length).set i.toNat w = cur.toList.take tt.length := by
    apply List.ext_getElem?
    intro j
    rw [List.getElem?_set]
    split
    · rename_i hj
      subst hj
      rw [e1]
      have : i.toNat < (cur.toList.take tt.length).length := (List.getElem?_eq_some_iff.1 e1).1
      rw [if_pos this]
    · rfl
  rw [e7] at e6
  simpa using e6
/-- writing a row's header -/
theorem OwnT.wrow {v : Value} {tt : List (List α)} {g : List Chunk} {i : Int} (h : OwnT R ty v tt g) (hi : 0 ≤ i ∧ i < tt.length) : ∃ b cap cur rs, v = .slice (some ⟨b, 0, none⟩) tt.length cap ∧ g = (b, Obj.cells cur ty (0, 0)) :: rs ∧ 0 + i.toNat * 1 < cur.size ∧
    (∀ w l' gi', Own R w l' gi' → ∃ rs' F, (gi' ++ rs).Perm (rs' ++ F) ∧ OwnT R ty v (tt.set i.toNat l') ((b, Obj.cells (cur.setIfInBounds (0 + i.toNat * 1) w) ty (0, 0)) :: rs')) ∧
    ∀ {P : Program} {n : Nat} {e : Env} {tz : TypeId} {t el : TypeId} {sz : Nat} {x y : Operand} {k : IntKind}, SlcAt P t el sz → sz = 1 → gv e x = some v → gv e y = some (.int k i) → Yields P n e (.indexAddr t x y) tz (.pointer (some ⟨b, 0 + i.toNat * 1, none⟩)) := by
  obtain ⟨b, cap, cur, rs, rfl, rfl, h1, h2, h3, h4⟩ := h
  have hlt : i.toNat < tt.length := by omega
  obtain ⟨w0, gi, A, B, e1, e2, e3, e4⟩ := h4.get (List.getElem?_eq_getElem hlt)
  refine ⟨b, cap, cur, rs, rfl, rfl, by omega, fun w l' gi' hw => ⟨A ++ gi' ++ B, gi, ?_, b, cap, _, A ++ gi' ++ B, by simp, rfl, h1, by simpa using h2, by simpa using h3, ?_⟩, fun hf hsz hx hy => by
    subst hsz
    exact y_is hf hx hy hi.1 hi.2⟩
  · rw [e3]
    have p1 : (gi' ++ (A ++ gi ++ B)).Perm (A ++ (gi' ++ (gi ++ B))) := by
      simp only [List.append_assoc]
      exact List.perm_append_comm_assoc _ _ _
    refine p1.trans ?_
    simp only [List.append_assoc]
    refine List.Perm.append_left _ (List.Perm.append_left _ ?_)
    exact List.perm_append_comm
  · have e6 := e4 w l' gi' hw
    have e7 : (cur.setIfInBounds (0 + i.toNat * 1) w).toList.take (tt.set i.toNat l').length = (cur.toList.take tt.length).set i.toNat w := by
      simp only [Array.toList_setIfInBounds, List.length_set, Nat.zero_add, Nat.mul_one]
      rw [List.take_set]
    rw [e7]; exact e6
end
section
variable {c : Cx} {all : Array Oper} {rest : List Oper} {T L : Env} {S : SH} {Q : Env → SH → Prop} {pos : String} {af : Array Edge} {ty : TypeId} {α : Type} {R : Lay α}
theorem Rows.nils : ∀ (n : Nat), Rows R (List.replicate n (.slice none 0 0)) (List.replicate n []) []
  | 0 => ⟨rfl, rfl⟩
  | n + 1 => ⟨_, _, [], [], by rw [List.replicate_succ], .nil, Rows.nils n, rfl⟩
theorem o_mkT {d : Nat} {x y : Operand} {t e bytes : Nat} {kl kc : IntKind} {p : Int} {m : List (List α)} (hf : SlcZ c.P t e 1 bytes [Value.slice none 0 0].toArray) (hby : Nat.ble bytes 60000 = true) 
    (hx : gv (T ++ L) x = some (.int kl p)) (hy : gv (T ++ L) y = some (.int kc p)) (hm : mkL p p ([] : List α) = some m) (hd : Nat.blt d c.n = true)
    (h : ∀ v g, OwnT R e v m g → OkO c all rest ((d, v) :: T) L (g :: S) Q) : OkO c all (⟨some d, .makeSlice t x y, ty, pos, af, none⟩ :: rest) T L S Q := by
  obtain ⟨⟨h1, h2, h3⟩, rfl⟩ := mkL_some hm
  have hb : bytes ≤ 60000 := Nat.le_of_ble_eq_true hby
  refine o_make p.toNat p.toNat hf hx hy (by omega) (by omega) (by omega) (Nat.le_trans (Nat.mul_le_mul hb (by omega : p.toNat ≤ 1073741824)) (by decide)) (by omega) hd fun b => ?_
  refine h _ _ ⟨b, p.toNat, _, [], by simp, rfl, Nat.le_trans (by omega) bigLe, by simp, ?_, ?_⟩
  · rw [size_madeCells, Nat.mul_one]
  · have e1 := madeCells_rep [Value.slice none 0 0].toArray p.toNat
    have e2 : [Value.slice none 0 0].toArray.size = 1 := rfl
    rw [e2] at e1
    rw [e1]
    have e3 : (List.replicate p.toNat [Value.slice none 0 0].toArray.toList).flatten = List.replicate p.toNat (.slice none 0 0) := by
      have : [Value.slice none 0 0].toArray.toList = [Value.slice none 0 0] := rfl
      rw [this]
      generalize p.toNat = k
      induction k with
      | zero => rfl
      | succ k ih => rw [List.replicate_succ, List.replicate_succ, List.flatten_cons, ih]; rfl
    rw [e3, List.length_replicate, List.take_of_length_le (by simp)]
    exact Rows.nils _
theorem o_stT {x y : Operand} {t e b cap : Nat} {i : Int} {v w : Value} {tt m : List (List α)} {l : List α} {g gi : List Chunk} {cur : Array Value} {rs : List Chunk} {F : SH} (ht : One c.P t) (hx : gv (T ++ L) x = some (.pointer (some ⟨b, 0 + i.toNat * 1, none⟩))) (hy : gv (T ++ L) y = some w) (ho : Own R w l gi)
    (hv : v = .slice (some ⟨b, 0, none⟩) tt.length cap) (hg : g = (b, Obj.cells cur e (0, 0)) :: rs) (hlt : 0 + i.toNat * 1 < cur.size) (hup : ∀ w l' gi', Own R w l' gi' → ∃ rs' F, (gi' ++ rs).Perm (rs' ++ F) ∧ OwnT R e v (tt.set i.toNat l') ((b, Obj.cells (cur.setIfInBounds (0 + i.toNat * 1) w) e (0, 0)) :: rs'))
    (hm : stL tt i l = some m) (hsel : Sel S [g, gi] F) (h : ∀ g', OwnT R e v m g' → OkO c all rest T L ([g'] ++ F) Q) : OkO c all (⟨none, .store t x y, ty, pos, af, none⟩ :: rest) T L S Q := by
  obtain ⟨_, rfl⟩ := stL_some hm
  subst hg
  obtain ⟨rs', F', hp, ho'⟩ := hup w l gi ho
  have hS : S.flatten.Perm (List.flatten ([(b, Obj.cells cur e (0, 0))] :: rs' :: F' :: F)) := by
    refine List.Perm.trans hsel ?_
    simp only [List.flatten_cons, List.flatten_nil, List.append_nil, List.append_assoc, List.cons_append, List.nil_append]
    refine List.Perm.cons _ ?_
    rw [← List.append_assoc, ← List.append_assoc]
    exact (List.perm_append_comm.trans hp).append_right _
  refine o_perm hS ?_
  refine o_st ht hx hy ho.pl r0 rfl hlt ?_
  refine o_drop (F := [F']) ?_ (h _ ho')
  unfold Sel
  simp only [List.flatten_cons, List.flatten_nil, List.append_nil, List.append_assoc, List.cons_append, List.nil_append, List.flatten_append]
  refine List.Perm.cons _ (List.Perm.append_left _ ?_)
  exact List.perm_append_comm
/-- an element of a row -/
theorem o_stTT {x y : Operand} {t ez b2 cap : Nat} {i j : Int} {v w u : Value} {tt : List (List α)} {l m : List α} {a : α} {g gi A B : List Chunk} {S' : List Chunk → SH} (ht : One c.P t) (hx : gv (T ++ L) x = some (.pointer (some ⟨b2, 0 + j.toNat * R.sz, none⟩))) (hy : gv (T ++ L) y = some u) (hu : plainV u = true) (hR : R.rd [] [u] a)
    (ho : Own R w l gi) (hb : w = .slice (some ⟨b2, 0, none⟩) l.length cap) (hm : stL l j a = some m) (hg : g = A ++ gi ++ B) (hup : ∀ l' gi', Own R w l' gi' → OwnT R ez v (tt.set i.toNat l') (A ++ gi' ++ B)) (hr : ∀ g', RepG S (S' g') g g')
    (h : ∀ g', OwnT R ez v (tt.set i.toNat m) g' → OkO c all rest T L (S' g') Q) : OkO c all (⟨none, .store t x y, ty, pos, af, none⟩ :: rest) T L S Q := by
  subst hg
  obtain ⟨hi, rfl⟩ := stL_some hm
  obtain ⟨cur, cur', rs, us, rfl, hu', ho'⟩ := ho.upd hb hi hR
  have h1 : us.length = 1 := by
    obtain ⟨p, q, _, _, _, h4⟩ := hu'
    exact h4.symm
  obtain ⟨u0, rfl⟩ := List.length_eq_one_iff.1 h1
  have hrep : Rep S (S' (A ++ ((b2, Obj.cells cur' R.ty (0, 0)) :: rs) ++ B)) (b2, Obj.cells cur R.ty (0, 0)) (b2, Obj.cells cur' R.ty (0, 0)) := by
    obtain ⟨X, Y, h2, h3⟩ := hr (A ++ ((b2, Obj.cells cur' R.ty (0, 0)) :: rs) ++ B)
    exact ⟨X.flatten ++ A, rs ++ B ++ Y.flatten, by rw [h2]; simp, by rw [h3]; simp⟩
  exact o_st ht hx hy hu hrep hu'.arr.1 hu'.arr.2 (h _ (hup _ _ ho'))
end
/-! lists of lent lists -/
def OwnC {α : Type} (R : Lay α) (C : List Chunk) (v : Value) (l : List α) (g : List Chunk) : Prop :=
  (v = .slice none 0 0 ∧ l = []) ∨ ∃ b cap cur rest, v = .slice (some ⟨b, 0, none⟩) l.length cap ∧ g = (b, Obj.cells cur R.ty (0, 0)) :: rest ∧ l.length ≤ cap ∧ cap ≤ maxLen ∧ cur.size = cap * R.sz ∧ Els R C (cur.toList.take (l.length * R.sz)) l
section
variable {α : Type} {R : Lay α} {C : List Chunk}
theorem OwnC.nil {g : List Chunk} : OwnC R C (.slice none 0 0) [] g := .inl ⟨rfl, rfl⟩
theorem OwnC.rd {v : Value} {l : List α} {g : List Chunk} (h : OwnC R C v l g) : Rd R (g ++ C) v l := by
  rcases h with ⟨rfl, rfl⟩ | ⟨b, cap, cur, rest, rfl, rfl, h1, h2, h3, h4⟩
  · exact .nil
  · refine .inr ⟨b, 0, cap, cur, R.ty, (0, 0), rfl, by simp, h1, by rw [h3, Nat.zero_add]; exact Nat.mul_le_mul_right _ h1, ?_⟩
    rw [Array.toList_extract, List.extract_eq_take_drop]
    simp only [List.drop_zero, Nat.zero_add, Nat.sub_zero]
    exact h4.mono (fun x hx => List.mem_append_right _ hx)
theorem OwnC.pl {v : Value} {l : List α} {g : List Chunk} (h : OwnC R C v l g) : plainV v = true := h.rd.pl
theorem o_appRC {c : Cx} {all : Array Oper} {rest : List Oper} {T L : Env} {S : SH} {Q : Env → SH → Prop} {pos : String} {af : Array Edge} {ty : TypeId} {d : Nat} {x y : Operand} {t bytes : Nat} {z : Array Value} {v : Value} {l m : List α} {a : α} {g : List Chunk} {b2 : Nat} {css : Array Value} {t2 : TypeId} {fz : Nat × Nat} {F : SH}
    (hf : SlcZ c.P t R.ty R.sz bytes z) (hsz : z.size = R.sz) (hby : Nat.ble bytes 60000 = true) (hx : gv (T ++ L) x = some v) (hy : gv (T ++ L) y = some (.slice (some ⟨b2, 0, none⟩) 1 1)) (hv : OwnC R C v l g) (hR : R.rd C css.toList a) (hm : apd l a = some m)
    (hsel : Sel S [g, [(b2, .cells css t2 fz)]] F) (hd : Nat.blt d c.n = true)
    (h : ∀ v' g', OwnC R C v' m g' → OkO c all rest ((d, v') :: T) L ([g'] ++ F) Q) :
    OkO c all (⟨some d, .call ⟨.builtin .append, #[x, y], #[t, t]⟩, ty, pos, af, none⟩ :: rest) T L S Q := by
  unfold apd at hm; split at hm
  · rename_i hlt
    cases hm
    obtain ⟨xs, gh, rs, rfl, hvec, hels⟩ : ∃ xs gh rs, g = gh ++ rs ∧ Vec R.ty R.sz v l.length xs gh ∧ Els R C xs l := by
      rcases hv with ⟨rfl, rfl⟩ | ⟨b, cap, cur, rest, rfl, rfl, h1, h2, h3, h4⟩
      · exact ⟨[], [], g, rfl, ⟨by simp, .inl ⟨rfl, rfl, rfl⟩⟩, rfl⟩
      · exact ⟨_, [_], rest, rfl, ⟨h4.len, .inr ⟨b, cap, cur, rfl, rfl, h1, h2, h3, rfl⟩⟩, h4⟩
    have hS : S.flatten.Perm (List.flatten (gh :: [(b2, Obj.cells css t2 fz)] :: rs :: F)) := by
      refine List.Perm.trans hsel ?_
      simp only [List.flatten_cons, List.flatten_nil, List.append_nil, List.append_assoc]
      exact List.Perm.append_left _ (List.perm_append_comm_assoc _ _ _)
    refine o_perm hS ?_
    have hs1 : css.size = R.sz := by have := R.len hR; simpa using this
    have e1 : (css.extract 0 (0 + 1 * R.sz)).toList = css.toList := by rw [← hs1]; simp
    have hb60 : bytes ≤ 60000 := Nat.le_of_ble_eq_true hby
    refine o_append hf hsz hx hy hvec (fun g' => q0) (ms m0) e1 (by omega) (R.plain hR) ?_ (by omega) hd fun v' g' hv' _ => ?_
    · exact Nat.le_trans (Nat.mul_le_mul (Nat.le_of_lt (by omega : l.length + 1 + 4096 < 1073741824 + 5000)) hb60) (by decide)
    · have hown : OwnC R C v' (l ++ [a]) (g' ++ rs) := by
        have he : Els R C (xs ++ css.toList) (l ++ [a]) := hels.app (Els.one hR)
        have hv2 : Vec R.ty R.sz v' (l ++ [a]).length (xs ++ css.toList) g' := by simpa using hv'
        rcases hv2 with ⟨h0, ⟨_, h1, _⟩ | ⟨b, cap, cur, rfl, rfl, h1, h2, h3, h4⟩⟩
        · simp at h1
        · exact .inr ⟨b, cap, cur, rs, rfl, rfl, h1, h2, h3, by rw [h4]; exact he⟩
      have hsl : Sel (g' :: [(b2, Obj.cells css t2 fz)] :: rs :: F) ([g' ++ rs] ++ F) [[(b2, Obj.cells css t2 fz)]] := by
        unfold Sel
        simp only [List.flatten_cons, List.flatten_nil, List.append_nil, List.append_assoc, List.flatten_append]
        refine List.Perm.append_left _ ?_
        refine List.perm_append_comm.trans ?_
        simp only [List.append_assoc]
        exact List.Perm.refl _
      exact o_drop hsl (h v' _ hown)
  · cases hm
end
/-! an array of bytes read as a slice -/
def arrL {α : Type} (f : Int → α) (n : Nat) : List α := (List.range n).map fun (k : Nat) => f (k : Int)
theorem encN_els {α : Type} {R : Lay α} {enc : α → List Value} {C : List Chunk} (h : ∀ a, R.rd C (enc a) a) (f : Int → α) : ∀ n, Els R C (encN enc f n) (arrL f n)
  | 0 => rfl
  | n + 1 => by
    unfold arrL
    rw [List.range_succ, List.map_append]
    exact (encN_els h f n).app (Els.one (h _))
def slA {α : Type} (f : Int → α) (n : Nat) (lo : Int) : Option (List α) := if 0 ≤ lo ∧ lo ≤ (n : Int) then some ((arrL f n).drop lo.toNat) else none
theorem arr_sl {f : Int → UInt8} {n : Nat} {lo : Int} {m : Str} {b t : Nat} (hm : slA f n lo = some m) : ∃ v', Rd rByte [(b, Obj.cells (encN enc8 f n).toArray t (0, 0))] v' m ∧
    ∀ {P : Program} {nn : Nat} {e : Env} {ty : TypeId} {ta : TypeId} {x y : Operand}, ArrAt P ta n 1 → gv e x = some (.pointer (some ⟨b, 0, none⟩)) → BndI e (some y) 0 lo → Yields P nn e (.slice ta x (some y) none none) ty v' := by
  unfold slA at hm; split at hm
  case isFalse => cases hm
  rename_i hc
  cases hm
  have hlen : (arrL f n).length = n := by simp [arrL]
  have hl2 : ((arrL f n).drop lo.toNat).length = n - lo.toNat := by simp [hlen]
  have hsz := encN_len (enc := enc8) (sz := 1) (fun _ => rfl) f n
  refine ⟨.slice (some ⟨b, (if n = lo.toNat then 0 else 0 + lo.toNat * 1), none⟩) (n - lo.toNat) (n - lo.toNat), ?_, fun hf hx hl => ?_⟩
  · by_cases hz : n = lo.toNat
    · refine .inl ⟨List.eq_nil_of_length_eq_zero (by omega), _, _, by rw [if_pos hz]; congr 1; omega⟩
    · rw [if_neg hz]
      refine .inr ⟨b, 0 + lo.toNat * 1, n - lo.toNat, (encN enc8 f n).toArray, t, (0, 0), by rw [hl2], by simp, by omega, ?_, ?_⟩
      · have e1 : rByte.sz = 1 := rfl
        rw [hl2, e1]; simp [hsz]; omega
      · have e1 : rByte.sz = 1 := rfl
        rw [hl2, e1]
        have h1 := (encN_els (R := rByte) (C := [(b, Obj.cells (encN enc8 f n).toArray t (0, 0))]) (enc := enc8) (fun _ => rfl) f n).drop lo.toNat
        have e2 : ((encN enc8 f n).toArray.extract (0 + lo.toNat * 1) (0 + lo.toNat * 1 + (n - lo.toNat) * 1)).toList = (encN enc8 f n).drop (lo.toNat * 1) := by
          rw [Array.toList_extract, List.extract_eq_take_drop]
          simp only [Nat.zero_add]
          refine List.take_of_length_le ?_
          simp [hsz]
        rw [e2]; exact h1
  · exact y_sla hf hx (BndI.nat (d := 0) hl hc.1) bN (by omega) (Nat.le_refl _)
end Go.Eng
