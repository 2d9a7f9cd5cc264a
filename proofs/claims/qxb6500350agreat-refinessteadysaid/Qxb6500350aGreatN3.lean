/- RULES over lists in memory; calls. -/
import Derived.Test.Qxb6500350aGreatN2
set_option linter.unusedVariables false
set_option linter.unusedSimpArgs false
namespace Go.Eng
section
variable {α : Type} {R : Lay α} {C : List Chunk} {v : Value} {l : List α}
/-- an element's place -/
theorem Rd.ix {i : Int} {a : α} (h : Rd R C v l) (hi : ixL l i = some a) : ∃ b o cs t fz vs, (b, Obj.cells cs t fz) ∈ C ∧ At cs.toList o vs ∧ R.rd C vs a ∧
    ∀ {P : Program} {n : Nat} {e : Env} {ty : TypeId} {t el : TypeId} {sz : Nat} {x y : Operand} {k : IntKind}, SlcAt P t el sz → sz = R.sz → gv e x = some v → gv e y = some (.int k i) → Yields P n e (.indexAddr t x y) ty (.pointer (some ⟨b, o, none⟩)) := by
  obtain ⟨h0, h1, h2⟩ := ixL_lt hi
  rcases h with ⟨rfl, _⟩ | ⟨b, o, cap, cs, t, fz, rfl, h4, h5, h6, h7⟩
  · simp at h2
  · obtain ⟨vs, ⟨p, q, e1, e2⟩, hr⟩ := h7.get h2
    refine ⟨b, o + i.toNat * R.sz, cs, t, fz, vs, h4, ?_, hr, fun hf hsz hx hy => y_is (by rw [← hsz]; exact hf) hx hy h0 h1⟩
    have e3 : cs.toList = cs.toList.take o ++ (cs.extract o (o + l.length * R.sz)).toList ++ cs.toList.drop (o + l.length * R.sz) := by
      rw [Array.toList_extract, List.extract_eq_take_drop]
      have : o + l.length * R.sz - o = l.length * R.sz := by omega
      rw [this]
      have h8 : cs.toList.take o ++ (cs.toList.drop o).take (l.length * R.sz) = cs.toList.take (o + l.length * R.sz) := by rw [List.take_add]
      rw [h8, List.take_append_drop]
    refine ⟨cs.toList.take o ++ p, q ++ cs.toList.drop (o + l.length * R.sz), ?_, ?_⟩
    · rw [e1] at e3
      refine e3.trans ?_
      simp
    · have : l.length * R.sz + o ≤ cs.toList.length := by simpa [Nat.add_comm] using h6
      rw [List.length_append, e2, List.length_take]; omega
theorem y_lenR {P : Program} {n : Nat} {e : Env} {ty : TypeId} {x : Operand} {t el : TypeId} (h : Rd R C v l) (ht : P.underlying t = some (.slice el)) (hx : gv e x = some v) : Yields P n e (.call ⟨.builtin .len, #[x], #[t]⟩) ty (.int .i64 (l.length : Int)) := by
  obtain ⟨p, cap, rfl⟩ := h.slice
  exact y_len ht hx
theorem Rd.sl {lo hi : Int} {m : List α} (h : Rd R C v l) (hm : slL l lo hi = some m) : ∃ v', Rd R C v' m ∧ ∀ {P : Program} {n : Nat} {e : Env} {ty : TypeId} {t el : TypeId} {sz : Nat} {x : Operand} {ol oh : Option Operand}, SlcAt P t el sz → sz = R.sz → gv e x = some v → BndI e ol 0 lo → BndI e oh (l.length : Int) hi →
    Yields P n e (.slice t x ol oh none) ty v' := by
  unfold slL at hm
  split at hm
  · rename_i hc
    obtain ⟨h1, h2, h3⟩ := hc
    cases hm
    by_cases hn : l.length = 0
    · have hl : l = [] := List.eq_nil_of_length_eq_zero hn
      obtain ⟨p, cap, rfl⟩ := h.slice
      subst hl
      obtain rfl : lo = 0 := by simp at h3; omega
      obtain rfl : hi = 0 := by simp at h3; omega
      cases p with
      | none =>
        refine ⟨.slice none 0 cap, .inl ⟨by simp, _, _, rfl⟩, fun {P n e ty t el sz x ol oh} hf hsz hx hl hh a w d pos af he => ?_⟩
        obtain ⟨inf, h3, h4, rfl⟩ := hf
        have g1 := he.gv hx
        have r1 := bnd_run (P := P) (w := w) (cd := .sliceAcap) he (BndI.nat (d := 0) (by simpa using hh) (by omega)) (show (0 : Int).toNat ≤ cap by omega)
        have r2 := bnd_run (P := P) (w := w) (cd := .sliceB) he (BndI.nat (d := 0) hl (by omega)) (show (0 : Int).toNat ≤ (0 : Int).toNat by omega)
        generalize a.eval = ρ at *
        cases ol <;> cases oh <;> simp only [Option.map_none, Option.map_some] at r1 r2 <;>
          simp [execOp, go_sem, g1, Instr.sliceAt, Instr.slice, Instr.sliceBounds, run_underlying h3, sz_run h4] <;> simp_all [go_sem]
      | some a0 =>
        refine ⟨.slice (if cap = 0 then some a0 else some (a0.add 0)) 0 cap, .inl ⟨by simp, _, _, rfl⟩, fun {P n e ty t el sz x ol oh} hf hsz hx hl hh a w d pos af he => ?_⟩
        obtain ⟨inf, h3, h4, rfl⟩ := hf
        have g1 := he.gv hx
        have r1 := bnd_run (P := P) (w := w) (cd := .sliceAcap) he (BndI.nat (d := 0) (by simpa using hh) (by omega)) (show (0 : Int).toNat ≤ cap by omega)
        have r2 := bnd_run (P := P) (w := w) (cd := .sliceB) he (BndI.nat (d := 0) hl (by omega)) (show (0 : Int).toNat ≤ (0 : Int).toNat by omega)
        generalize a.eval = ρ at *
        cases ol <;> cases oh <;> simp only [Option.map_none, Option.map_some] at r1 r2 <;>
          simp [execOp, go_sem, g1, Instr.sliceAt, Instr.slice, Instr.sliceBounds, run_underlying h3, sz_run h4] <;> simp_all [go_sem] <;> (split <;> simp)
    · have hh := h
      rcases hh with ⟨rfl, _⟩ | ⟨b, o, cap, cs, t, fz, rfl, h4, h5, h6, h7⟩
      · simp at hn
      · refine ⟨_, h.sub lo.toNat hi.toNat (by omega) (by omega) rfl, fun hf hsz hx hl hh => y_sls (by rw [← hsz]; exact hf) hx (BndI.nat (d := 0) hl h1) (BndI.nat hh (by omega)) (by omega) (by omega)⟩
  · cases hm
/-! Owned lists -/
theorem Own.vec {g : List Chunk} (h : Own R v l g) : ∃ xs gh rest, g = gh ++ rest ∧ Vec R.ty R.sz v l.length xs gh ∧ Els R rest xs l := by
  rcases h with ⟨rfl, rfl⟩ | ⟨b, cap, cur, rest, rfl, rfl, h1, h2, h3, h4⟩
  · exact ⟨[], [], g, rfl, ⟨by simp, .inl ⟨rfl, rfl, rfl⟩⟩, rfl⟩
  · exact ⟨_, [_], rest, rfl, ⟨h4.len, .inr ⟨b, cap, cur, rfl, rfl, h1, h2, h3, rfl⟩⟩, h4⟩
theorem Own.of {xs : List Value} {gh rest : List Chunk} (h : Vec R.ty R.sz v l.length xs gh) (k : Els R rest xs l) : Own R v l (gh ++ rest) := by
  rcases h with ⟨h0, ⟨rfl, h1, rfl⟩ | ⟨b, cap, cur, rfl, rfl, h1, h2, h3, h4⟩⟩
  · exact .inl ⟨rfl, List.eq_nil_of_length_eq_zero h1⟩
  · exact .inr ⟨b, cap, cur, rest, rfl, rfl, h1, h2, h3, by rw [h4]; exact k⟩
theorem Own.emp {g : List Chunk} (h : Own R v l g) : ∃ p cap, v = .slice p l.length cap := h.rd.slice
theorem Own.ix {g : List Chunk} {i : Int} (h : Own R v l g) (hi : 0 ≤ i ∧ i < l.length) : ∃ b cap, v = .slice (some ⟨b, 0, none⟩) l.length cap ∧
    ∀ {P : Program} {n : Nat} {e : Env} {ty : TypeId} {t el : TypeId} {sz : Nat} {x y : Operand} {k : IntKind}, SlcAt P t el sz → sz = R.sz → gv e x = some v → gv e y = some (.int k i) → Yields P n e (.indexAddr t x y) ty (.pointer (some ⟨b, 0 + i.toNat * R.sz, none⟩)) := by
  rcases h with ⟨rfl, rfl⟩ | ⟨b, cap, cur, rest, rfl, rfl, h1, h2, h3, h4⟩
  · simp at hi; omega
  · exact ⟨b, cap, rfl, fun hf hsz hx hy => y_is (by rw [← hsz]; exact hf) hx hy hi.1 hi.2⟩
theorem stL_some {i : Int} {x : α} {m : List α} (h : stL l i x = some m) : (0 ≤ i ∧ i < l.length) ∧ m = l.set i.toNat x := by
  unfold stL at h; split at h
  · rename_i hc; cases h; exact ⟨hc, rfl⟩
  · cases h
theorem Own.upd {g : List Chunk} {i : Int} {x : α} {b cap : Nat} {ws : List Value} (h : Own R v l g) (hv : v = .slice (some ⟨b, 0, none⟩) l.length cap) (hi : 0 ≤ i ∧ i < l.length) (hR : R.rd [] ws x) :
    ∃ cur cur' rest us, g = (b, Obj.cells cur R.ty (0, 0)) :: rest ∧ Upd cur.toList (0 + i.toNat * R.sz) us ws cur'.toList ∧ Own R v (l.set i.toNat x) ((b, Obj.cells cur' R.ty (0, 0)) :: rest) := by
  rcases h with ⟨rfl, rfl⟩ | ⟨b', cap', cur, rest, e1, rfl, h1, h2, h3, h4⟩
  · cases hv
  · subst hv
    injection e1 with e1 _ e3
    injection e1 with e1
    injection e1 with e1
    subst e1 e3
    have hR' : R.rd rest ws x := R.mono (fun _ h => by cases h) hR
    obtain ⟨us, xs', ⟨p, q, f1, f2, f3, f4⟩, h5⟩ := h4.set (i := i.toNat) (by omega) hR'
    have f5 : cur.toList = (p ++ us ++ q) ++ cur.toList.drop (l.length * R.sz) := by rw [← f1, List.take_append_drop]
    refine ⟨cur, ((p ++ ws ++ q) ++ cur.toList.drop (l.length * R.sz)).toArray, rest, us, rfl, ⟨p, q ++ cur.toList.drop (l.length * R.sz), by rw [← List.append_assoc]; exact f5, by simp, by omega, f4⟩, .inr ⟨b, cap, _, rest, by simp, rfl, by simpa using h1, h2, ?_, ?_⟩⟩
    · have := congrArg List.length f5
      simp only [List.length_append] at this
      simp only [List.size_toArray, List.length_append, f4]
      rw [← h3]
      simp only [Array.length_toList] at this
      omega
    · have f6 : xs'.length = l.length * R.sz := by rw [h5.len, List.length_set]
      rw [← f2]
      have : (l.set i.toNat x).length * R.sz = xs'.length := by rw [f6, List.length_set]
      rw [this, List.take_left]
      exact h5
end
theorem Upd.arr {cs cs' : Array Value} {o : Nat} {u w : Value} (h : Upd cs.toList o [u] [w] cs'.toList) : cs.setIfInBounds o w = cs' ∧ o < cs.size := by
  obtain ⟨p, q, h1, h2, rfl, _⟩ := h
  constructor
  · apply Array.ext'
    rw [Array.toList_setIfInBounds, h1, h2]; simp
  · have := congrArg List.length h1
    simp at this; omega
theorem Upd.arrs {cs cs' : Array Value} {o : Nat} {us ws : List Value} (h : Upd cs.toList o us ws cs'.toList) : Eng.setAll cs o ws = cs' ∧ o + ws.length ≤ cs.size := by
  obtain ⟨p, q, h1, h2, rfl, h4⟩ := h
  have h5 := congrArg List.length h1
  simp at h5
  have h6 : p.length + ws.length ≤ cs.size := by omega
  refine ⟨?_, h6⟩
  apply Array.ext'
  rw [setAll_toList _ _ _ h6, h1, h2]; simp [h4]
theorem cons_append' {x : Chunk} {r : List Chunk} : x :: r = [x] ++ r := rfl
section
variable {c : Cx} {all : Array Oper} {rest : List Oper} {T L : Env} {S : SH} {Q : Env → SH → Prop} {pos : String} {af : Array Edge} {ty : TypeId} {α : Type} {R : Lay α}
theorem RepG.cell {S S' : SH} {x y : Chunk} {r : List Chunk} (h : RepG S S' (x :: r) (y :: r)) : Rep S S' x y := by
  obtain ⟨A, B, rfl, rfl⟩ := h
  exact ⟨A.flatten, r ++ B.flatten, by simp, by simp⟩
/-- a plain cell of an owned list is written -/
theorem o_stO1 {x y : Operand} {t : TypeId} {b cap : Nat} {i : Int} {v w : Value} {l m : List α} {a : α} {g : List Chunk} {S' : List Chunk → SH} (ht : One c.P t) (hx : gv (T ++ L) x = some (.pointer (some ⟨b, 0 + i.toNat * R.sz, none⟩))) (hy : gv (T ++ L) y = some w) (hw : plainV w = true) (hR : R.rd [] [w] a)
    (hv : Own R v l g) (hb : v = .slice (some ⟨b, 0, none⟩) l.length cap) (hm : stL l i a = some m) (hr : ∀ g', RepG S (S' g') g g')
    (h : ∀ g', Own R v m g' → OkO c all rest T L (S' g') Q) : OkO c all (⟨none, .store t x y, ty, pos, af, none⟩ :: rest) T L S Q := by
  obtain ⟨hi, rfl⟩ := stL_some hm
  obtain ⟨cur, cur', rs, us, rfl, hu, ho⟩ := hv.upd hb hi hR
  have h1 : us.length = 1 := by
    obtain ⟨p, q, _, _, _, h4⟩ := hu
    exact h4.symm
  obtain ⟨u, rfl⟩ := List.length_eq_one_iff.1 h1
  exact o_st ht hx hy hw (hr _).cell hu.arr.1 hu.arr.2 (h _ ho)
theorem o_stOA {x y : Operand} {t : TypeId} {b cap sz : Nat} {i : Int} {v : Value} {ws : List Value} {l m : List α} {a : α} {g : List Chunk} {S' : List Chunk → SH} (ht : Agg c.P t sz) (hx : gv (T ++ L) x = some (.pointer (some ⟨b, 0 + i.toNat * R.sz, none⟩))) (hy : gv (T ++ L) y = some (.agg ws.toArray)) (hsz : sz = R.sz) (hR : R.rd [] ws a)
    (hv : Own R v l g) (hb : v = .slice (some ⟨b, 0, none⟩) l.length cap) (hm : stL l i a = some m) (hr : ∀ g', RepG S (S' g') g g')
    (h : ∀ g', Own R v m g' → OkO c all rest T L (S' g') Q) : OkO c all (⟨none, .store t x y, ty, pos, af, none⟩ :: rest) T L S Q := by
  obtain ⟨hi, rfl⟩ := stL_some hm
  obtain ⟨cur, cur', rs, us, rfl, hu, ho⟩ := hv.upd hb hi hR
  have h1 := hu.arrs
  rw [R.len hR] at h1
  exact o_sta ht hx hy (by simpa using R.plain hR) (by rw [List.size_toArray, R.len hR, hsz]) (hr _).cell h1.1 (by rw [hsz]; exact h1.2) (h _ ho)
/-- one element is appended: its temporary row and what it lies in go into the list's group -/
theorem o_appR {d : Nat} {x y : Operand} {t bytes : Nat} {z : Array Value} {v : Value} {l m : List α} {a : α} {g gm : List Chunk} {b2 : Nat} {css : Array Value} {t2 : TypeId} {fz : Nat × Nat} {F : SH}
    (hf : SlcZ c.P t R.ty R.sz bytes z) (hsz : z.size = R.sz) (hby : Nat.ble bytes 60000 = true) (hx : gv (T ++ L) x = some v) (hy : gv (T ++ L) y = some (.slice (some ⟨b2, 0, none⟩) 1 1)) (hv : Own R v l g) (hR : R.rd gm css.toList a) (hm : apd l a = some m)
    (hsel : Sel S [g, [(b2, .cells css t2 fz)], gm] F) (hd : Nat.blt d c.n = true)
    (h : ∀ v' g', Own R v' m g' → OkO c all rest ((d, v') :: T) L ([g'] ++ F) Q) :
    OkO c all (⟨some d, .call ⟨.builtin .append, #[x, y], #[t, t]⟩, ty, pos, af, none⟩ :: rest) T L S Q := by
  unfold apd at hm; split at hm
  · rename_i hlt
    cases hm
    obtain ⟨xs, gh, rs, rfl, hvec, hels⟩ := hv.vec
    have hS : S.flatten.Perm (List.flatten (gh :: [(b2, Obj.cells css t2 fz)] :: (rs ++ gm) :: F)) := by
      refine List.Perm.trans hsel ?_
      simp only [List.flatten_cons, List.flatten_nil, List.append_nil, List.append_assoc]
      exact List.Perm.append_left _ (List.perm_append_comm_assoc _ _ _)
    refine o_perm hS ?_
    have hs1 : css.size = R.sz := by have := R.len hR; simpa using this
    have e1 : (css.extract 0 (0 + 1 * R.sz)).toList = css.toList := by rw [← hs1]; simp
    have hb60 : bytes ≤ 60000 := Nat.le_of_ble_eq_true hby
    refine o_append hf hsz hx hy hvec (fun g' => q0) (ms m0) e1 (by omega) (R.plain hR) ?_ (by omega) hd fun v' g' hv' _ => ?_
    · exact Nat.le_trans (Nat.mul_le_mul (Nat.le_of_lt (by omega : l.length + 1 + 4096 < 1073741824 + 5000)) hb60) (by decide)
    · have hown : Own R v' (l ++ [a]) (g' ++ (rs ++ gm)) := by
        refine Own.of (by simpa using hv') ?_
        exact (hels.mono (fun _ hx => List.mem_append_left _ hx)).app (Els.one (R.mono (fun _ hx => List.mem_append_right _ hx) hR))
      have hsl : Sel (g' :: [(b2, Obj.cells css t2 fz)] :: (rs ++ gm) :: F) ([g' ++ (rs ++ gm)] ++ F) [[(b2, Obj.cells css t2 fz)]] := by
        unfold Sel
        simp only [List.flatten_cons, List.flatten_nil, List.append_nil, List.append_assoc, List.flatten_append]
        refine List.Perm.append_left _ ?_
        refine List.perm_append_comm.trans ?_
        simp only [List.append_assoc]
        exact List.Perm.refl _
      exact o_drop hsl (h v' _ hown)
  · cases hm
end
end Go.Eng
