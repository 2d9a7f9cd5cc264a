/- Rows written over: towerlaw.spoilInts and its like. -/
import Derived.Test.Qxb6500350aGreatF2
set_option linter.unusedVariables false
set_option linter.unusedSimpArgs false
set_option maxRecDepth 20000
set_option maxHeartbeats 4000000
namespace Go.Proofs.Qxb6500350aGreat
open Go.Eng
/-- the same blocks, of the same sizes -/
def SameSh (bag bag' : List Chunk) : Prop := ∀ b cur t, (b, Obj.cells cur t (0, 0)) ∈ bag → ∃ cur', (b, Obj.cells cur' t (0, 0)) ∈ bag' ∧ cur'.size = cur.size
theorem SameSh.refl (bag : List Chunk) : SameSh bag bag := fun b cur t h => ⟨cur, h, rfl⟩
theorem SameSh.trans {a b c : List Chunk} (h : SameSh a b) (k : SameSh b c) : SameSh a c := fun x cur t hx => by
  obtain ⟨c1, h1, h2⟩ := h x cur t hx
  obtain ⟨c2, h3, h4⟩ := k x c1 t h1
  exact ⟨c2, h3, h4.trans h2⟩
theorem SameSh.mid {A B : List Chunk} {b t : Nat} {cur cur' : Array Value} (h : cur'.size = cur.size) : SameSh (A ++ (b, Obj.cells cur t (0, 0)) :: B) (A ++ (b, Obj.cells cur' t (0, 0)) :: B) := fun x c0 t0 hx => by
  rcases List.mem_append.1 hx with hx | hx
  · exact ⟨c0, List.mem_append_left _ hx, rfl⟩
  · rcases List.mem_cons.1 hx with hx | hx
    · injection hx with h1 h2
      injection h2 with h2 h3
      subst h1 h2 h3
      exact ⟨cur', by simp, h⟩
    · exact ⟨c0, by simp [hx], rfl⟩
theorem Shp.same {R : Nat × Nat} {bag bag' : List Chunk} {v : Value} (h : Shp R bag v) (k : SameSh bag bag') : Shp R bag' v := by
  rcases h with h | ⟨b, len, cap, cur, h1, h2, h3, h4⟩
  · exact .inl h
  · obtain ⟨cur', k1, k2⟩ := k _ _ _ h2
    exact .inr ⟨b, len, cap, cur', h1, k1, k2.trans h3, h4⟩

theorem fit_lem {i cap sz : Nat} (h : i < cap) : 0 + ((i : Int)).toNat * sz + sz ≤ cap * sz := by
  have h1 : (i + 1) * sz ≤ cap * sz := Nat.mul_le_mul_right _ h
  rw [Nat.succ_mul] at h1
  simp only [Int.toNat_natCast, Nat.zero_add]
  exact h1
theorem y_slnil {P : Program} {n : Nat} {e : Env} {ty : TypeId} {x y : Operand} {t el sz : Nat} {k : IntKind} (hf : SlcAt P t el sz) (hx : gv e x = some (.slice none 0 0)) (hy : gv e y = some (.int k ((0 : Nat) : Int))) : Eng.Yields P n e (.slice t x none (some y) none) ty (.slice none 0 0) := fun a w d pos af he => by
  obtain ⟨inf, h3, h4, rfl⟩ := hf
  have g1 := he.gv hx
  have g2 := he.gv hy
  generalize a.eval = ρ at *
  simp [execOp, go_sem, g1, g2, Instr.sliceAt, Instr.slice, Instr.sliceBounds, Instr.sliceBound, asIntOf, run_underlying h3, sz_run h4]
theorem y_slcap {P : Program} {n : Nat} {e : Env} {ty : TypeId} {x y : Operand} {t el sz b len cap : Nat} {k : IntKind} (hf : SlcAt P t el sz) (hx : gv e x = some (.slice (some ⟨b, 0, none⟩) len cap)) (hy : gv e y = some (.int k (cap : Int))) : Eng.Yields P n e (.slice t x none (some y) none) ty (.slice (some ⟨b, 0, none⟩) cap cap) := by
  have h := y_sls (ty := ty) hf hx (bN (d := 0)) (bS (d := len) hy rfl) (Nat.zero_le _) (Nat.le_refl _) (n := n)
  have e1 : (if cap = 0 then 0 else 0 + 0 * sz) = 0 := by split <;> simp
  rw [e1] at h
  exact h
theorem Trip.post {P : Program} {f : FuncId} {args : Array Value} {S : SH} {R R' : Value → SH → Prop} (h : Trip P f args S R) (k : ∀ v S', R v S' → ∃ S'' F, Sel S' S'' F ∧ R' v S'') : Trip P f args S R' := fun w hs => by
  refine (h w hs).mono ?_
  rintro e w' ⟨v, S', rfl, hR, hst⟩
  obtain ⟨S'', F, hF, hR'⟩ := k v S' hR
  exact ⟨v, S'', rfl, hR', hst.drop hF⟩

def m82 (n : Nat) (l : List Int) : Option Unit := some ()
theorem t82s {C bag : List Chunk} {v : Value} (hv : Shp (3, 1) bag v) : Trip Tryz.prog 82 #[v] ([bag] ++ [C]) (fun u S' => ∃ bag', .tuple #[] = u ∧ S' = [bag'] ++ [C] ∧ SameSh bag bag') := by
  rcases hv with rfl | ⟨b, len, cap, cur, rfl, hm, hsz, hlc, hcm⟩
  · refine fn_entry (args := [.slice none 0 0]) Tryz.func82 rfl Tryz.ntmps82 rfl (fun w0 => ?_)
    refine c_seq ?_
    refine c_region ?_
    refine o_T (y_move rfl) rfl ?_
    refine o_T (y_move rfl) rfl ?_
    refine o_T (y_cap Tryz.underlying65 rfl) rfl ?_
    refine o_T (y_slnil sl_65 rfl rfl) rfl ?_
    refine o_L (y_assign rfl) rfl rfl ?_
    refine o_nil0 rfl ?_
    refine c_seq ?_
    refine c_region ?_
    refine o_L (y_assign rfl) rfl rfl ?_
    refine o_nil0 rfl ?_
    refine c_block ?_
    refine c_loopP (n := 0) (fun mm sh G => sh = [] ∧ G = []) 0 Sel.all' .z ⟨_, _, ⟨rfl, rfl⟩, trivial, _, Sel.all'⟩ ?_
    rintro mm sh G ⟨rfl, rfl⟩
    refine c_seq ?_
    refine c_seq ?_
    refine c_region ?_
    refine o_T (y_move rfl) rfl ?_
    refine o_T (y_move rfl) rfl ?_
    refine o_T (y_len Tryz.underlying65 rfl) rfl ?_
    refine o_T (y_lss rfl rfl) rfl ?_
    refine o_nil1 10 rfl rfl ?_
    refine c_cond rfl (fun h1 => ?_) (fun h1 => ?_)
    · exact absurd h1 (by decide)
    · refine c_exit ?_
      refine fun aX wX heX hsX => ret0 Tryz.results82 (s_take (s_take s_nil)) ?_
      exact ⟨bag, rfl, rfl, SameSh.refl _⟩
  · obtain ⟨A, B, rfl⟩ := List.append_of_mem hm
    refine fn_entry (args := [.slice (some ⟨b, 0, none⟩) len cap]) Tryz.func82 rfl Tryz.ntmps82 rfl (fun w0 => ?_)
    refine c_seq ?_
    refine c_region ?_
    refine o_T (y_move rfl) rfl ?_
    refine o_T (y_move rfl) rfl ?_
    refine o_T (y_cap Tryz.underlying65 rfl) rfl ?_
    refine o_T (y_slcap sl_65 rfl rfl) rfl ?_
    refine o_L (y_assign rfl) rfl rfl ?_
    refine o_nil0 rfl ?_
    refine c_seq ?_
    refine c_region ?_
    refine o_L (y_assign rfl) rfl rfl ?_
    refine o_nil0 rfl ?_
    refine c_block ?_
    refine c_loopP (n := 1) (fun mm sh G => ∃ (i : Nat) (cur' : Array Value), sh = [(2, .int .i64 (i : Int))] ∧ G = [A ++ (b, Obj.cells cur' 3 (0, 0)) :: B] ∧ mm = cap - i ∧ i ≤ cap ∧ cur'.size = cap * 1) cap Sel.all' (.s .z) ⟨_, _, ⟨0, cur, rfl, rfl, by omega, by omega, hsz⟩, ⟨rfl, trivial⟩, _, Sel.all'⟩ ?_
    rintro mm sh G ⟨i, cur', rfl, rfl, hmm, hi, hz⟩
    refine c_seq ?_
    refine c_seq ?_
    refine c_region ?_
    refine o_T (y_move rfl) rfl ?_
    refine o_T (y_move rfl) rfl ?_
    refine o_T (y_len Tryz.underlying65 rfl) rfl ?_
    refine o_T (y_lss rfl rfl) rfl ?_
    refine o_nil1 10 rfl rfl ?_
    refine c_cond rfl (fun h1 => ?_) (fun h1 => ?_)
    · have hlt : i < cap := by simpa using h1
      refine c_skip ?_
      refine c_seq ?_
      refine c_block ?_
      refine c_region ?_
      refine o_T (y_move rfl) rfl ?_
      refine o_T (y_move rfl) rfl ?_
      refine o_T (y_is sl_65 rfl rfl (by omega) (by omega)) rfl ?_
      refine o_st one_3 rfl rfl rfl (rg (R := [C])) rfl (by rw [hz]; exact Nat.lt_of_lt_of_le (by omega) (fit_lem (sz := 1) hlt)) ?_
      refine o_nil0 rfl ?_
      refine c_region ?_
      refine o_T (y_move rfl) rfl ?_
      refine o_T (y_add rfl rfl (w64 (n := (i : Int) + 1) (by have : maxLen = 9223372036854775807 := maxLen_eq; omega))) rfl ?_
      refine o_L (y_assign rfl) rfl rfl ?_
      refine o_nil0 rfl ?_
      exact ⟨cap - (i + 1), by omega, _, _, ⟨i + 1, _, rfl, rfl, rfl, by omega, by simp [hz, setAll_size]⟩, ⟨rfl, trivial⟩, ⟨rfl, rfl⟩, _, Sel.all'⟩
    · refine c_exit ?_
      refine fun aX wX heX hsX => ret0 Tryz.results82 Sel.all' ?_
      exact ⟨_, rfl, rfl, SameSh.mid (hz.trans hsz.symm)⟩
theorem t82 {n : Nat} {C : List Chunk} {v : Value} {l : List Int} {g : List Chunk} (ho : Own rInt v l g) (hm : m82 n l = some ()) : Trip Tryz.prog 82 #[v] ([g] ++ [C]) (fun u S' => .tuple #[] = u ∧ S' = [] ++ [C]) := by
  refine Trip.post (t82s ho.rds.2) ?_
  rintro u S' ⟨bag', rfl, rfl, _⟩
  exact ⟨_, [bag'], s_skip (s_take s_nil), rfl, rfl⟩

def m188 (n : Nat) (l : List Str) : Option Unit := some ()
theorem t188s {C bag : List Chunk} {v : Value} (hv : Shp (9, 1) bag v) : Trip Tryz.prog 188 #[v] ([bag] ++ [C]) (fun u S' => ∃ bag', .tuple #[] = u ∧ S' = [bag'] ++ [C] ∧ SameSh bag bag') := by
  rcases hv with rfl | ⟨b, len, cap, cur, rfl, hm, hsz, hlc, hcm⟩
  · refine fn_entry (args := [.slice none 0 0]) Tryz.func188 rfl Tryz.ntmps188 rfl (fun w0 => ?_)
    refine c_seq ?_
    refine c_region ?_
    refine o_T (y_move rfl) rfl ?_
    refine o_T (y_move rfl) rfl ?_
    refine o_T (y_cap Tryz.underlying185 rfl) rfl ?_
    refine o_T (y_slnil sl_185 rfl rfl) rfl ?_
    refine o_L (y_assign rfl) rfl rfl ?_
    refine o_nil0 rfl ?_
    refine c_seq ?_
    refine c_region ?_
    refine o_L (y_assign rfl) rfl rfl ?_
    refine o_nil0 rfl ?_
    refine c_block ?_
    refine c_loopP (n := 0) (fun mm sh G => sh = [] ∧ G = []) 0 Sel.all' .z ⟨_, _, ⟨rfl, rfl⟩, trivial, _, Sel.all'⟩ ?_
    rintro mm sh G ⟨rfl, rfl⟩
    refine c_seq ?_
    refine c_seq ?_
    refine c_region ?_
    refine o_T (y_move rfl) rfl ?_
    refine o_T (y_move rfl) rfl ?_
    refine o_T (y_len Tryz.underlying185 rfl) rfl ?_
    refine o_T (y_lss rfl rfl) rfl ?_
    refine o_nil1 10 rfl rfl ?_
    refine c_cond rfl (fun h1 => ?_) (fun h1 => ?_)
    · exact absurd h1 (by decide)
    · refine c_exit ?_
      refine fun aX wX heX hsX => ret0 Tryz.results188 (s_take (s_take s_nil)) ?_
      exact ⟨bag, rfl, rfl, SameSh.refl _⟩
  · obtain ⟨A, B, rfl⟩ := List.append_of_mem hm
    refine fn_entry (args := [.slice (some ⟨b, 0, none⟩) len cap]) Tryz.func188 rfl Tryz.ntmps188 rfl (fun w0 => ?_)
    refine c_seq ?_
    refine c_region ?_
    refine o_T (y_move rfl) rfl ?_
    refine o_T (y_move rfl) rfl ?_
    refine o_T (y_cap Tryz.underlying185 rfl) rfl ?_
    refine o_T (y_slcap sl_185 rfl rfl) rfl ?_
    refine o_L (y_assign rfl) rfl rfl ?_
    refine o_nil0 rfl ?_
    refine c_seq ?_
    refine c_region ?_
    refine o_L (y_assign rfl) rfl rfl ?_
    refine o_nil0 rfl ?_
    refine c_block ?_
    refine c_loopP (n := 1) (fun mm sh G => ∃ (i : Nat) (cur' : Array Value), sh = [(2, .int .i64 (i : Int))] ∧ G = [A ++ (b, Obj.cells cur' 9 (0, 0)) :: B] ∧ mm = cap - i ∧ i ≤ cap ∧ cur'.size = cap * 1) cap Sel.all' (.s .z) ⟨_, _, ⟨0, cur, rfl, rfl, by omega, by omega, hsz⟩, ⟨rfl, trivial⟩, _, Sel.all'⟩ ?_
    rintro mm sh G ⟨i, cur', rfl, rfl, hmm, hi, hz⟩
    refine c_seq ?_
    refine c_seq ?_
    refine c_region ?_
    refine o_T (y_move rfl) rfl ?_
    refine o_T (y_move rfl) rfl ?_
    refine o_T (y_len Tryz.underlying185 rfl) rfl ?_
    refine o_T (y_lss rfl rfl) rfl ?_
    refine o_nil1 10 rfl rfl ?_
    refine c_cond rfl (fun h1 => ?_) (fun h1 => ?_)
    · have hlt : i < cap := by simpa using h1
      refine c_skip ?_
      refine c_seq ?_
      refine c_block ?_
      refine c_region ?_
      refine o_T (y_move rfl) rfl ?_
      refine o_T (y_move rfl) rfl ?_
      refine o_T (y_is sl_185 rfl rfl (by omega) (by omega)) rfl ?_
      refine o_st one_9 rfl rfl rfl (rg (R := [C])) rfl (by rw [hz]; exact Nat.lt_of_lt_of_le (by omega) (fit_lem (sz := 1) hlt)) ?_
      refine o_nil0 rfl ?_
      refine c_region ?_
      refine o_T (y_move rfl) rfl ?_
      refine o_T (y_add rfl rfl (w64 (n := (i : Int) + 1) (by have : maxLen = 9223372036854775807 := maxLen_eq; omega))) rfl ?_
      refine o_L (y_assign rfl) rfl rfl ?_
      refine o_nil0 rfl ?_
      exact ⟨cap - (i + 1), by omega, _, _, ⟨i + 1, _, rfl, rfl, rfl, by omega, by simp [hz, setAll_size]⟩, ⟨rfl, trivial⟩, ⟨rfl, rfl⟩, _, Sel.all'⟩
    · refine c_exit ?_
      refine fun aX wX heX hsX => ret0 Tryz.results188 Sel.all' ?_
      exact ⟨_, rfl, rfl, SameSh.mid (hz.trans hsz.symm)⟩
theorem t188 {n : Nat} {C : List Chunk} {v : Value} {l : List Str} {g : List Chunk} (ho : Own rStr v l g) (hm : m188 n l = some ()) : Trip Tryz.prog 188 #[v] ([g] ++ [C]) (fun u S' => .tuple #[] = u ∧ S' = [] ++ [C]) := by
  refine Trip.post (t188s ho.rds.2) ?_
  rintro u S' ⟨bag', rfl, rfl, _⟩
  exact ⟨_, [bag'], s_skip (s_take s_nil), rfl, rfl⟩

def m86 (n : Nat) (l : List Chg) : Option Unit := some ()
theorem t86s {C bag : List Chunk} {v : Value} (hv : Shp (196, 3) bag v) : Trip Tryz.prog 86 #[v] ([bag] ++ [C]) (fun u S' => ∃ bag', .tuple #[] = u ∧ S' = [bag'] ++ [C] ∧ SameSh bag bag') := by
  rcases hv with rfl | ⟨b, len, cap, cur, rfl, hm, hsz, hlc, hcm⟩
  · refine fn_entry (args := [.slice none 0 0]) Tryz.func86 rfl Tryz.ntmps86 rfl (fun w0 => ?_)
    refine c_seq ?_
    refine c_region ?_
    refine o_T (y_move rfl) rfl ?_
    refine o_T (y_move rfl) rfl ?_
    refine o_T (y_cap Tryz.underlying99 rfl) rfl ?_
    refine o_T (y_slnil sl_99 rfl rfl) rfl ?_
    refine o_L (y_assign rfl) rfl rfl ?_
    refine o_nil0 rfl ?_
    refine c_seq ?_
    refine c_region ?_
    refine o_L (y_assign rfl) rfl rfl ?_
    refine o_nil0 rfl ?_
    refine c_block ?_
    refine c_loopP (n := 0) (fun mm sh G => sh = [] ∧ G = []) 0 Sel.all' .z ⟨_, _, ⟨rfl, rfl⟩, trivial, _, Sel.all'⟩ ?_
    rintro mm sh G ⟨rfl, rfl⟩
    refine c_seq ?_
    refine c_seq ?_
    refine c_region ?_
    refine o_T (y_move rfl) rfl ?_
    refine o_T (y_move rfl) rfl ?_
    refine o_T (y_len Tryz.underlying99 rfl) rfl ?_
    refine o_T (y_lss rfl rfl) rfl ?_
    refine o_nil1 10 rfl rfl ?_
    refine c_cond rfl (fun h1 => ?_) (fun h1 => ?_)
    · exact absurd h1 (by decide)
    · refine c_exit ?_
      refine fun aX wX heX hsX => ret0 Tryz.results86 (s_take (s_take s_nil)) ?_
      exact ⟨bag, rfl, rfl, SameSh.refl _⟩
  · obtain ⟨A, B, rfl⟩ := List.append_of_mem hm
    refine fn_entry (args := [.slice (some ⟨b, 0, none⟩) len cap]) Tryz.func86 rfl Tryz.ntmps86 rfl (fun w0 => ?_)
    refine c_seq ?_
    refine c_region ?_
    refine o_T (y_move rfl) rfl ?_
    refine o_T (y_move rfl) rfl ?_
    refine o_T (y_cap Tryz.underlying99 rfl) rfl ?_
    refine o_T (y_slcap sl_99 rfl rfl) rfl ?_
    refine o_L (y_assign rfl) rfl rfl ?_
    refine o_nil0 rfl ?_
    refine c_seq ?_
    refine c_region ?_
    refine o_L (y_assign rfl) rfl rfl ?_
    refine o_nil0 rfl ?_
    refine c_block ?_
    refine c_loopP (n := 1) (fun mm sh G => ∃ (i : Nat) (cur' : Array Value), sh = [(2, .int .i64 (i : Int))] ∧ G = [A ++ (b, Obj.cells cur' 196 (0, 0)) :: B] ∧ mm = cap - i ∧ i ≤ cap ∧ cur'.size = cap * 3) cap Sel.all' (.s .z) ⟨_, _, ⟨0, cur, rfl, rfl, by omega, by omega, hsz⟩, ⟨rfl, trivial⟩, _, Sel.all'⟩ ?_
    rintro mm sh G ⟨i, cur', rfl, rfl, hmm, hi, hz⟩
    refine c_seq ?_
    refine c_seq ?_
    refine c_region ?_
    refine o_T (y_move rfl) rfl ?_
    refine o_T (y_move rfl) rfl ?_
    refine o_T (y_len Tryz.underlying99 rfl) rfl ?_
    refine o_T (y_lss rfl rfl) rfl ?_
    refine o_nil1 10 rfl rfl ?_
    refine c_cond rfl (fun h1 => ?_) (fun h1 => ?_)
    · have hlt : i < cap := by simpa using h1
      refine c_skip ?_
      refine c_seq ?_
      refine c_block ?_
      refine c_region ?_
      refine o_T (y_move rfl) rfl ?_
      refine o_T (y_move rfl) rfl ?_
      refine o_T (y_build st_196 rfl (fbU rfl Chg.u_path rfl rfl (fbU rfl Chg.u_staged rfl rfl (fbU rfl Chg.u_work rfl rfl fbU0)))) rfl ?_
      refine o_T (y_is sl_99 rfl rfl (by omega) (by omega)) rfl ?_
      refine o_sta ag_196 rfl rfl rfl rfl (rg (R := [C])) (rfl : setAll cur' _ _ = _) (by rw [hz]; exact fit_lem hlt) ?_
      refine o_nil0 rfl ?_
      refine c_region ?_
      refine o_T (y_move rfl) rfl ?_
      refine o_T (y_add rfl rfl (w64 (n := (i : Int) + 1) (by have : maxLen = 9223372036854775807 := maxLen_eq; omega))) rfl ?_
      refine o_L (y_assign rfl) rfl rfl ?_
      refine o_nil0 rfl ?_
      exact ⟨cap - (i + 1), by omega, _, _, ⟨i + 1, _, rfl, rfl, rfl, by omega, by simp [hz, setAll_size]⟩, ⟨rfl, trivial⟩, ⟨rfl, rfl⟩, _, Sel.all'⟩
    · refine c_exit ?_
      refine fun aX wX heX hsX => ret0 Tryz.results86 Sel.all' ?_
      exact ⟨_, rfl, rfl, SameSh.mid (hz.trans hsz.symm)⟩
theorem t86 {n : Nat} {C : List Chunk} {v : Value} {l : List Chg} {g : List Chunk} (ho : Own rChg v l g) (hm : m86 n l = some ()) : Trip Tryz.prog 86 #[v] ([g] ++ [C]) (fun u S' => .tuple #[] = u ∧ S' = [] ++ [C]) := by
  refine Trip.post (t86s ho.rds.2) ?_
  rintro u S' ⟨bag', rfl, rfl, _⟩
  exact ⟨_, [bag'], s_skip (s_take s_nil), rfl, rfl⟩

def m94 (n : Nat) (l : List Ref_) : Option Unit := some ()
theorem t94s {C bag : List Chunk} {v : Value} (hv : Shp (96, 2) bag v) : Trip Tryz.prog 94 #[v] ([bag] ++ [C]) (fun u S' => ∃ bag', .tuple #[] = u ∧ S' = [bag'] ++ [C] ∧ SameSh bag bag') := by
  rcases hv with rfl | ⟨b, len, cap, cur, rfl, hm, hsz, hlc, hcm⟩
  · refine fn_entry (args := [.slice none 0 0]) Tryz.func94 rfl Tryz.ntmps94 rfl (fun w0 => ?_)
    refine c_seq ?_
    refine c_region ?_
    refine o_T (y_move rfl) rfl ?_
    refine o_T (y_move rfl) rfl ?_
    refine o_T (y_cap Tryz.underlying56 rfl) rfl ?_
    refine o_T (y_slnil sl_56 rfl rfl) rfl ?_
    refine o_L (y_assign rfl) rfl rfl ?_
    refine o_nil0 rfl ?_
    refine c_seq ?_
    refine c_region ?_
    refine o_L (y_assign rfl) rfl rfl ?_
    refine o_nil0 rfl ?_
    refine c_block ?_
    refine c_loopP (n := 0) (fun mm sh G => sh = [] ∧ G = []) 0 Sel.all' .z ⟨_, _, ⟨rfl, rfl⟩, trivial, _, Sel.all'⟩ ?_
    rintro mm sh G ⟨rfl, rfl⟩
    refine c_seq ?_
    refine c_seq ?_
    refine c_region ?_
    refine o_T (y_move rfl) rfl ?_
    refine o_T (y_move rfl) rfl ?_
    refine o_T (y_len Tryz.underlying56 rfl) rfl ?_
    refine o_T (y_lss rfl rfl) rfl ?_
    refine o_nil1 10 rfl rfl ?_
    refine c_cond rfl (fun h1 => ?_) (fun h1 => ?_)
    · exact absurd h1 (by decide)
    · refine c_exit ?_
      refine fun aX wX heX hsX => ret0 Tryz.results94 (s_take (s_take s_nil)) ?_
      exact ⟨bag, rfl, rfl, SameSh.refl _⟩
  · obtain ⟨A, B, rfl⟩ := List.append_of_mem hm
    refine fn_entry (args := [.slice (some ⟨b, 0, none⟩) len cap]) Tryz.func94 rfl Tryz.ntmps94 rfl (fun w0 => ?_)
    refine c_seq ?_
    refine c_region ?_
    refine o_T (y_move rfl) rfl ?_
    refine o_T (y_move rfl) rfl ?_
    refine o_T (y_cap Tryz.underlying56 rfl) rfl ?_
    refine o_T (y_slcap sl_56 rfl rfl) rfl ?_
    refine o_L (y_assign rfl) rfl rfl ?_
    refine o_nil0 rfl ?_
    refine c_seq ?_
    refine c_region ?_
    refine o_L (y_assign rfl) rfl rfl ?_
    refine o_nil0 rfl ?_
    refine c_block ?_
    refine c_loopP (n := 1) (fun mm sh G => ∃ (i : Nat) (cur' : Array Value), sh = [(2, .int .i64 (i : Int))] ∧ G = [A ++ (b, Obj.cells cur' 96 (0, 0)) :: B] ∧ mm = cap - i ∧ i ≤ cap ∧ cur'.size = cap * 2) cap Sel.all' (.s .z) ⟨_, _, ⟨0, cur, rfl, rfl, by omega, by omega, hsz⟩, ⟨rfl, trivial⟩, _, Sel.all'⟩ ?_
    rintro mm sh G ⟨i, cur', rfl, rfl, hmm, hi, hz⟩
    refine c_seq ?_
    refine c_seq ?_
    refine c_region ?_
    refine o_T (y_move rfl) rfl ?_
    refine o_T (y_move rfl) rfl ?_
    refine o_T (y_len Tryz.underlying56 rfl) rfl ?_
    refine o_T (y_lss rfl rfl) rfl ?_
    refine o_nil1 10 rfl rfl ?_
    refine c_cond rfl (fun h1 => ?_) (fun h1 => ?_)
    · have hlt : i < cap := by simpa using h1
      refine c_skip ?_
      refine c_seq ?_
      refine c_block ?_
      refine c_region ?_
      refine o_T (y_move rfl) rfl ?_
      refine o_T (y_move rfl) rfl ?_
      refine o_T (y_build st_96 rfl (fbU rfl Ref_.u_name rfl rfl (fbU rfl Ref_.u_seq rfl rfl fbU0))) rfl ?_
      refine o_T (y_is sl_56 rfl rfl (by omega) (by omega)) rfl ?_
      refine o_sta ag_96 rfl rfl rfl rfl (rg (R := [C])) (rfl : setAll cur' _ _ = _) (by rw [hz]; exact fit_lem hlt) ?_
      refine o_nil0 rfl ?_
      refine c_region ?_
      refine o_T (y_move rfl) rfl ?_
      refine o_T (y_add rfl rfl (w64 (n := (i : Int) + 1) (by have : maxLen = 9223372036854775807 := maxLen_eq; omega))) rfl ?_
      refine o_L (y_assign rfl) rfl rfl ?_
      refine o_nil0 rfl ?_
      exact ⟨cap - (i + 1), by omega, _, _, ⟨i + 1, _, rfl, rfl, rfl, by omega, by simp [hz, setAll_size]⟩, ⟨rfl, trivial⟩, ⟨rfl, rfl⟩, _, Sel.all'⟩
    · refine c_exit ?_
      refine fun aX wX heX hsX => ret0 Tryz.results94 Sel.all' ?_
      exact ⟨_, rfl, rfl, SameSh.mid (hz.trans hsz.symm)⟩
theorem t94 {n : Nat} {C : List Chunk} {v : Value} {l : List Ref_} {g : List Chunk} (ho : Own rRef_ v l g) (hm : m94 n l = some ()) : Trip Tryz.prog 94 #[v] ([g] ++ [C]) (fun u S' => .tuple #[] = u ∧ S' = [] ++ [C]) := by
  refine Trip.post (t94s ho.rds.2) ?_
  rintro u S' ⟨bag', rfl, rfl, _⟩
  exact ⟨_, [bag'], s_skip (s_take s_nil), rfl, rfl⟩

def m97 (n : Nat) (l : List File) : Option Unit := some ()
theorem t97s {C bag : List Chunk} {v : Value} (hv : Shp (71, 3) bag v) : Trip Tryz.prog 97 #[v] ([bag] ++ [C]) (fun u S' => ∃ bag', .tuple #[] = u ∧ S' = [bag'] ++ [C] ∧ SameSh bag bag') := by
  rcases hv with rfl | ⟨b, len, cap, cur, rfl, hm, hsz, hlc, hcm⟩
  · refine fn_entry (args := [.slice none 0 0]) Tryz.func97 rfl Tryz.ntmps97 rfl (fun w0 => ?_)
    refine c_seq ?_
    refine c_region ?_
    refine o_T (y_move rfl) rfl ?_
    refine o_T (y_move rfl) rfl ?_
    refine o_T (y_cap Tryz.underlying57 rfl) rfl ?_
    refine o_T (y_slnil sl_57 rfl rfl) rfl ?_
    refine o_L (y_assign rfl) rfl rfl ?_
    refine o_nil0 rfl ?_
    refine c_seq ?_
    refine c_region ?_
    refine o_L (y_assign rfl) rfl rfl ?_
    refine o_nil0 rfl ?_
    refine c_block ?_
    refine c_loopP (n := 0) (fun mm sh G => sh = [] ∧ G = []) 0 Sel.all' .z ⟨_, _, ⟨rfl, rfl⟩, trivial, _, Sel.all'⟩ ?_
    rintro mm sh G ⟨rfl, rfl⟩
    refine c_seq ?_
    refine c_seq ?_
    refine c_region ?_
    refine o_T (y_move rfl) rfl ?_
    refine o_T (y_move rfl) rfl ?_
    refine o_T (y_len Tryz.underlying57 rfl) rfl ?_
    refine o_T (y_lss rfl rfl) rfl ?_
    refine o_nil1 10 rfl rfl ?_
    refine c_cond rfl (fun h1 => ?_) (fun h1 => ?_)
    · exact absurd h1 (by decide)
    · refine c_exit ?_
      refine fun aX wX heX hsX => ret0 Tryz.results97 (s_take (s_take s_nil)) ?_
      exact ⟨bag, rfl, rfl, SameSh.refl _⟩
  · obtain ⟨A, B, rfl⟩ := List.append_of_mem hm
    refine fn_entry (args := [.slice (some ⟨b, 0, none⟩) len cap]) Tryz.func97 rfl Tryz.ntmps97 rfl (fun w0 => ?_)
    refine c_seq ?_
    refine c_region ?_
    refine o_T (y_move rfl) rfl ?_
    refine o_T (y_move rfl) rfl ?_
    refine o_T (y_cap Tryz.underlying57 rfl) rfl ?_
    refine o_T (y_slcap sl_57 rfl rfl) rfl ?_
    refine o_L (y_assign rfl) rfl rfl ?_
    refine o_nil0 rfl ?_
    refine c_seq ?_
    refine c_region ?_
    refine o_L (y_assign rfl) rfl rfl ?_
    refine o_nil0 rfl ?_
    refine c_block ?_
    refine c_loopP (n := 1) (fun mm sh G => ∃ (i : Nat) (cur' : Array Value), sh = [(2, .int .i64 (i : Int))] ∧ G = [A ++ (b, Obj.cells cur' 71 (0, 0)) :: B] ∧ mm = cap - i ∧ i ≤ cap ∧ cur'.size = cap * 3) cap Sel.all' (.s .z) ⟨_, _, ⟨0, cur, rfl, rfl, by omega, by omega, hsz⟩, ⟨rfl, trivial⟩, _, Sel.all'⟩ ?_
    rintro mm sh G ⟨i, cur', rfl, rfl, hmm, hi, hz⟩
    refine c_seq ?_
    refine c_seq ?_
    refine c_region ?_
    refine o_T (y_move rfl) rfl ?_
    refine o_T (y_move rfl) rfl ?_
    refine o_T (y_len Tryz.underlying57 rfl) rfl ?_
    refine o_T (y_lss rfl rfl) rfl ?_
    refine o_nil1 10 rfl rfl ?_
    refine c_cond rfl (fun h1 => ?_) (fun h1 => ?_)
    · have hlt : i < cap := by simpa using h1
      refine c_skip ?_
      refine c_seq ?_
      refine c_block ?_
      refine c_region ?_
      refine o_T (y_move rfl) rfl ?_
      refine o_T (y_move rfl) rfl ?_
      refine o_T (y_build st_71 rfl (fbU rfl File.u_path rfl rfl (fbU rfl File.u_data rfl rfl (fbU rfl File.u_mode rfl rfl fbU0)))) rfl ?_
      refine o_T (y_is sl_57 rfl rfl (by omega) (by omega)) rfl ?_
      refine o_sta ag_71 rfl rfl rfl rfl (rg (R := [C])) (rfl : setAll cur' _ _ = _) (by rw [hz]; exact fit_lem hlt) ?_
      refine o_nil0 rfl ?_
      refine c_region ?_
      refine o_T (y_move rfl) rfl ?_
      refine o_T (y_add rfl rfl (w64 (n := (i : Int) + 1) (by have : maxLen = 9223372036854775807 := maxLen_eq; omega))) rfl ?_
      refine o_L (y_assign rfl) rfl rfl ?_
      refine o_nil0 rfl ?_
      exact ⟨cap - (i + 1), by omega, _, _, ⟨i + 1, _, rfl, rfl, rfl, by omega, by simp [hz, setAll_size]⟩, ⟨rfl, trivial⟩, ⟨rfl, rfl⟩, _, Sel.all'⟩
    · refine c_exit ?_
      refine fun aX wX heX hsX => ret0 Tryz.results97 Sel.all' ?_
      exact ⟨_, rfl, rfl, SameSh.mid (hz.trans hsz.symm)⟩
theorem t97 {n : Nat} {C : List Chunk} {v : Value} {l : List File} {g : List Chunk} (ho : Own rFile v l g) (hm : m97 n l = some ()) : Trip Tryz.prog 97 #[v] ([g] ++ [C]) (fun u S' => .tuple #[] = u ∧ S' = [] ++ [C]) := by
  refine Trip.post (t97s ho.rds.2) ?_
  rintro u S' ⟨bag', rfl, rfl, _⟩
  exact ⟨_, [bag'], s_skip (s_take s_nil), rfl, rfl⟩

def m105 (n : Nat) (l : List Hunk) : Option Unit := some ()
/-- hunks whose lists may be written over -/
def HEls (bag : List Chunk) : List Value → Nat → Prop
  | xs, 0 => True
  | xs, k + 1 => ∃ a v w r, xs = a :: v :: w :: r ∧ plainV a = true ∧ Shp (9, 1) bag v ∧ Shp (9, 1) bag w ∧ HEls bag r k
theorem HEls.same {bag bag' : List Chunk} (h : SameSh bag bag') : ∀ {k : Nat} {xs : List Value}, HEls bag xs k → HEls bag' xs k
  | 0, xs, _ => trivial
  | k + 1, xs, ⟨a, v, w, r, h1, h2, h3, h4, h5⟩ => ⟨a, v, w, r, h1, h2, Shp.same h3 h, Shp.same h4 h, HEls.same h h5⟩
theorem HEls.get {bag : List Chunk} : ∀ {k : Nat} {xs : List Value} {i : Nat}, HEls bag xs k → i < k → ∃ v w, xs[i * 3 + 1]? = some v ∧ xs[i * 3 + 2]? = some w ∧ Shp (9, 1) bag v ∧ Shp (9, 1) bag w
  | 0, xs, i, _, h => by omega
  | k + 1, xs, 0, ⟨a, v, w, r, h1, h2, h3, h4, h5⟩, _ => ⟨v, w, by simp [h1], by simp [h1], h3, h4⟩
  | k + 1, xs, i + 1, ⟨a, v, w, r, h1, h2, h3, h4, h5⟩, h => by
    obtain ⟨v', w', e1, e2, e3, e4⟩ := HEls.get (i := i) h5 (by omega)
    have q1 : (i + 1) * 3 + 1 = (i * 3 + 1) + 3 := by omega
    have q2 : (i + 1) * 3 + 2 = (i * 3 + 2) + 3 := by omega
    exact ⟨v', w', by rw [h1, q1]; simpa using e1, by rw [h1, q2]; simpa using e2, e3, e4⟩
theorem HEls.of {C bag : List Chunk} (hC : ∀ x, x ∈ C → x ∈ bag) : ∀ {l : List Hunk} {xs : List Value}, Els rHunk C xs l → HEls bag xs l.length
  | [], xs, _ => trivial
  | a :: l, xs, ⟨x, xs', h1, hr, h4⟩ => by
    obtain ⟨p, q, rfl, h2, h3⟩ := hr
    subst h1
    exact ⟨_, p, q, xs', rfl, rfl, h2.2.mono hC, h3.2.mono hC, HEls.of hC h4⟩
theorem HEls.app {bag : List Chunk} : ∀ {k : Nat} {xs ys : List Value}, HEls bag xs k → HEls bag (xs ++ ys) k
  | 0, xs, ys, _ => trivial
  | k + 1, xs, ys, ⟨a, v, w, r, h1, h2, h3, h4, h5⟩ => ⟨a, v, w, r ++ ys, by rw [h1]; rfl, h2, h3, h4, h5.app⟩
theorem t105 {n : Nat} {C : List Chunk} {v : Value} {l : List Hunk} {g : List Chunk} (ho : Own rHunk v l g) (hm : m105 n l = some ()) : Trip Tryz.prog 105 #[v] ([g] ++ [C]) (fun u S' => .tuple #[] = u ∧ S' = [] ++ [C]) := by
  rcases ho with ⟨rfl, rfl⟩ | ⟨b, cap, cur, rs, rfl, rfl, hlc, hcm, hsz, hels⟩
  · refine fn_entry (args := [.slice none 0 0]) Tryz.func105 rfl Tryz.ntmps105 rfl (fun w0 => ?_)
    refine c_seq ?_
    refine c_seq ?_
    refine c_region ?_
    refine o_L (y_assign rfl) rfl rfl ?_
    refine o_nil0 rfl ?_
    refine c_block ?_
    refine c_loopP (n := 0) (fun mm sh G => sh = [] ∧ G = []) 0 Sel.all' .z ⟨_, _, ⟨rfl, rfl⟩, trivial, _, Sel.all'⟩ ?_
    rintro mm sh G ⟨rfl, rfl⟩
    refine c_seq ?_
    refine c_seq ?_
    refine c_region ?_
    refine o_T (y_move rfl) rfl ?_
    refine o_T (y_move rfl) rfl ?_
    refine o_T (y_len Tryz.underlying112 rfl) rfl ?_
    refine o_T (y_lss rfl rfl) rfl ?_
    refine o_nil1 7 rfl rfl ?_
    refine c_cond rfl (fun h1 => ?_) (fun h1 => ?_)
    · exact absurd h1 (by decide)
    refine c_exit ?_
    refine c_seq ?_
    refine c_region ?_
    refine o_T (y_move rfl) rfl ?_
    refine o_T (y_move rfl) rfl ?_
    refine o_T (y_cap Tryz.underlying112 rfl) rfl ?_
    refine o_T (y_slnil sl_112 rfl rfl) rfl ?_
    refine o_L (y_assign rfl) rfl rfl ?_
    refine o_nil0 rfl ?_
    refine c_seq ?_
    refine c_region ?_
    refine o_L (y_assign rfl) rfl rfl ?_
    refine o_nil0 rfl ?_
    refine c_block ?_
    refine c_loopP (n := 0) (fun mm sh G => sh = [] ∧ G = []) 0 Sel.all' .z ⟨_, _, ⟨rfl, rfl⟩, trivial, _, Sel.all'⟩ ?_
    rintro mm sh G ⟨rfl, rfl⟩
    refine c_seq ?_
    refine c_seq ?_
    refine c_region ?_
    refine o_T (y_move rfl) rfl ?_
    refine o_T (y_move rfl) rfl ?_
    refine o_T (y_len Tryz.underlying112 rfl) rfl ?_
    refine o_T (y_lss rfl rfl) rfl ?_
    refine o_nil1 29 rfl rfl ?_
    refine c_cond rfl (fun h1 => ?_) (fun h1 => ?_)
    · exact absurd h1 (by decide)
    · refine c_exit ?_
      refine fun aX wX heX hsX => ret0 Tryz.results105 (s_skip (s_take s_nil)) ?_
      exact ⟨rfl, rfl⟩
  · have hH : HEls rs cur.toList l.length := by
      have h1 := HEls.app (ys := cur.toList.drop (l.length * rHunk.sz)) (HEls.of (bag := rs) (fun _ h => h) hels)
      rw [List.take_append_drop] at h1; exact h1
    have hsz3 : cur.size = cap * 3 := hsz
    have hmx : maxLen = 9223372036854775807 := maxLen_eq
    refine fn_entry (args := [.slice (some ⟨b, 0, none⟩) l.length cap]) Tryz.func105 rfl Tryz.ntmps105 rfl (fun w0 => ?_)
    refine c_unmerge (g1 := [(b, Obj.cells cur 203 (0, 0))]) (g2 := rs) (R := [C]) ?_
    refine c_seq ?_
    refine c_seq ?_
    refine c_region ?_
    refine o_L (y_assign rfl) rfl rfl ?_
    refine o_nil0 rfl ?_
    refine c_joinP (n := 2) (fun sh G => ∃ (c : Int) (bag : List Chunk), sh = [(2, .int .i64 c)] ∧ G = [[(b, Obj.cells cur 203 (0, 0))], bag]) Sel.all' (.s (.s .z)) (fun _ _ h => h) ?_ ?_
    · refine c_block ?_
      refine c_loopP (n := 2) (fun mm sh G => ∃ (i : Nat) (bag : List Chunk), sh = [(2, .int .i64 (i : Int))] ∧ G = [[(b, Obj.cells cur 203 (0, 0))], bag] ∧ mm = l.length - i ∧ i ≤ l.length ∧ HEls bag cur.toList l.length) l.length Sel.all' (.s (.s .z)) ⟨_, _, ⟨0, rs, rfl, rfl, by omega, by omega, hH⟩, ⟨rfl, trivial⟩, _, Sel.all'⟩ ?_
      rintro mm sh G ⟨i, bag, rfl, rfl, hmm, hi, hB⟩
      refine c_seq ?_
      refine c_seq ?_
      refine c_region ?_
      refine o_T (y_move rfl) rfl ?_
      refine o_T (y_move rfl) rfl ?_
      refine o_T (y_len Tryz.underlying112 rfl) rfl ?_
      refine o_T (y_lss rfl rfl) rfl ?_
      refine o_nil1 7 rfl rfl ?_
      refine c_cond rfl (fun h1 => ?_) (fun h1 => ?_)
      · have hlt : i < l.length := by simpa using h1
        obtain ⟨p, q, hp, hq, hP, hQ⟩ := hB.get hlt
        refine c_skip ?_
        refine c_seq ?_
        refine c_block ?_
        refine c_seq ?_
        refine c_region ?_
        refine o_T (y_move rfl) rfl ?_
        refine o_T (y_move rfl) rfl ?_
        refine o_T (y_is sl_112 rfl rfl (by omega) (by omega)) rfl ?_
        refine o_T (y_fa fl_203_1 rfl) rfl ?_
        refine o_ld one_185 rfl m0 (show cur[0 + ((i : Int)).toNat * 3 + 1]? = some p from by simpa using hp) rfl ?_
        refine o_callC en_188 rfl (s_skip (s_take s_nil)) (t188s hP) rfl (fun u1 S1 h9 => ?_)
        obtain ⟨bag1, rfl, rfl, hs1⟩ := h9
        refine o_rest ?_
        refine o_nil0 rfl ?_
        refine c_region ?_
        refine o_T (y_move rfl) rfl ?_
        refine o_T (y_move rfl) rfl ?_
        refine o_T (y_is sl_112 rfl rfl (by omega) (by omega)) rfl ?_
        refine o_T (y_fa fl_203_2 rfl) rfl ?_
        refine o_ld one_185 rfl (ms m0) (show cur[0 + ((i : Int)).toNat * 3 + 2]? = some q from by simpa using hq) rfl ?_
        refine o_callC en_188 rfl (s_take s_nil) (t188s (Shp.same hQ hs1)) rfl (fun u2 S2 h9 => ?_)
        obtain ⟨bag2, rfl, rfl, hs2⟩ := h9
        refine o_rest ?_
        refine o_nil0 rfl ?_
        refine c_region ?_
        refine o_T (y_move rfl) rfl ?_
        refine o_T (y_add rfl rfl (w64 (n := (i : Int) + 1) (by omega))) rfl ?_
        refine o_L (y_assign rfl) rfl rfl ?_
        refine o_nil0 rfl ?_
        exact ⟨l.length - (i + 1), by omega, _, _, ⟨i + 1, bag2, rfl, rfl, rfl, by omega, hB.same (hs1.trans hs2)⟩, ⟨rfl, trivial⟩, ⟨rfl, rfl⟩, _, (s_get (ks k0) (s_take (s_take s_nil)))⟩
      · refine c_exit ?_
        exact ⟨_, _, ⟨_, bag, rfl, rfl⟩, ⟨rfl, trivial⟩, ⟨rfl, rfl⟩, _, Sel.all'⟩
    rintro sh G ⟨c2, bag, rfl, rfl⟩
    refine c_seq ?_
    refine c_region ?_
    refine o_T (y_move rfl) rfl ?_
    refine o_T (y_move rfl) rfl ?_
    refine o_T (y_cap Tryz.underlying112 rfl) rfl ?_
    refine o_T (y_slcap sl_112 rfl rfl) rfl ?_
    refine o_L (y_assign rfl) rfl rfl ?_
    refine o_nil0 rfl ?_
    refine c_seq ?_
    refine c_region ?_
    refine o_L (y_assign rfl) rfl rfl ?_
    refine o_nil0 rfl ?_
    refine c_block ?_
    refine c_loopP (n := 1) (fun mm sh G => ∃ (i : Nat) (cur' : Array Value), sh = [(3, .int .i64 (i : Int))] ∧ G = [[(b, Obj.cells cur' 203 (0, 0))]] ∧ mm = cap - i ∧ i ≤ cap ∧ cur'.size = cap * 3) cap Sel.all' (.s .z) ⟨_, _, ⟨0, cur, rfl, rfl, by omega, by omega, hsz3⟩, ⟨rfl, trivial⟩, _, Sel.all'⟩ ?_
    rintro mm sh G ⟨i, cur', rfl, rfl, hmm, hi, hz⟩
    refine c_seq ?_
    refine c_seq ?_
    refine c_region ?_
    refine o_T (y_move rfl) rfl ?_
    refine o_T (y_move rfl) rfl ?_
    refine o_T (y_len Tryz.underlying112 rfl) rfl ?_
    refine o_T (y_lss rfl rfl) rfl ?_
    refine o_nil1 29 rfl rfl ?_
    refine c_cond rfl (fun h1 => ?_) (fun h1 => ?_)
    · have hlt : i < cap := by simpa using h1
      refine c_skip ?_
      refine c_seq ?_
      refine c_block ?_
      refine c_region ?_
      refine o_T (y_move rfl) rfl ?_
      refine o_T (y_move rfl) rfl ?_
      refine o_T (y_build st_203 rfl (fbU rfl Hunk.u_at_ rfl rfl fbU0)) rfl ?_
      refine o_T (y_is sl_112 rfl rfl (by omega) (by omega)) rfl ?_
      refine o_sta ag_203 rfl rfl rfl rfl r0 (rfl : setAll cur' _ _ = _) (by rw [hz]; exact fit_lem hlt) ?_
      refine o_nil0 rfl ?_
      refine c_region ?_
      refine o_T (y_move rfl) rfl ?_
      refine o_T (y_add rfl rfl (w64 (n := (i : Int) + 1) (by omega))) rfl ?_
      refine o_L (y_assign rfl) rfl rfl ?_
      refine o_nil0 rfl ?_
      exact ⟨cap - (i + 1), by omega, _, _, ⟨i + 1, _, rfl, rfl, rfl, by omega, by simp [hz, setAll_size]⟩, ⟨rfl, trivial⟩, ⟨rfl, rfl⟩, _, Sel.all'⟩
    · refine c_exit ?_
      refine fun aX wX heX hsX => ret0 Tryz.results105 (s_skip (s_skip (s_take s_nil))) ?_
      exact ⟨rfl, rfl⟩
end Go.Proofs.Qxb6500350aGreat
