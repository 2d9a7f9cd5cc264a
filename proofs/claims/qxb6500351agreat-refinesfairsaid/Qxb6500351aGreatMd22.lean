/- THE WORLD in memory: wire, network, lists, pools. -/
import Derived.Test.Qxb6500351aGreatMd21
set_option linter.unusedVariables false
set_option linter.unusedSimpArgs false
namespace Go.Proofs.Qxb6500351aGreat
open Go.Eng
section
variable {cx : Cx} {k : Code} {e : Go.Eng.Env} {R : SH} {Q : Exit → Go.Eng.Env → SH → Prop} {g g1 g2 g3 : List Chunk}
theorem c_opn (p : g.Perm (g1 ++ g2)) (h : OkC cx k e (g1 :: g2 :: R) Q) : OkC cx k e (g :: R) Q :=
  c_perm (by simp only [List.flatten_cons, ← List.append_assoc]; exact List.Perm.append_right _ p) h
theorem c_sht (p : g.Perm (g1 ++ g2)) (h : OkC cx k e (g :: R) Q) : OkC cx k e (g1 :: g2 :: R) Q :=
  c_perm (by simp only [List.flatten_cons, ← List.append_assoc]; exact List.Perm.append_right _ p.symm) h
theorem c_cut3 (h : OkC cx k e (g1 :: g2 :: g3 :: R) Q) : OkC cx k e ((g1 ++ (g2 ++ g3)) :: R) Q :=
  c_perm (by simp only [List.flatten_cons, List.append_assoc]; exact List.Perm.refl _) h
theorem c_glue3 (h : OkC cx k e ((g1 ++ (g2 ++ g3)) :: R) Q) : OkC cx k e (g1 :: g2 :: g3 :: R) Q :=
  c_perm (by simp only [List.flatten_cons, List.append_assoc]; exact List.Perm.refl _) h
end
theorem f3 (a b d : List Chunk) (X : SH) : ((a ++ (b ++ d)) :: X : SH).flatten = (a :: b :: d :: X : SH).flatten := by simp
theorem f3' (c : Chunk) (b d : List Chunk) (X : SH) : ((c :: (b ++ d)) :: X : SH).flatten = ([c] :: b :: d :: X : SH).flatten := by simp
theorem inf_plain {e : Int} {ci : Ci} {v : Value} {g : List Chunk} (h : InfG e ci v g) : plainV v = true := by
  rcases h with ⟨_, rfl, _⟩ | ⟨_, b, rfl, _⟩ <;> rfl
theorem si_plain {e : Int} {ci : Ci} {v : Value} {g : List Chunk} {en : En} (h : InfG e ci v g) : (Si.mk en v).enc.toList.all plainV = true := by
  simp only [Si.enc, List.all_cons, List.all_nil, inf_plain h, Bool.and_true]; rfl
/-! ### the wire -/
def WrG (b : Nat) (l : List Flt) (g : List Chunk) : Prop := ∃ v gv gd, LstN 130 3 flR v l gv gd ∧ g = (b, .cells (Wr.mk v).enc 98 (0, 0)) :: (gv ++ gd)
section
variable {b : Nat} {l : List Flt} {g : List Chunk}
theorem i20 : Trip Tryz.prog 20 #[] [] (fun u S' => ∃ b g, u = .pointer (some ⟨b, 0, none⟩) ∧ WrG b [] g ∧ S' = [g]) :=
  t20.over (F := []) (by simp) (fun u A' ⟨b, h1, h2⟩ => ⟨_, ⟨b, _, h1, ⟨_, [], [], LstN.nil, rfl⟩, rfl⟩, by subst h2; simp⟩)
theorem i86 (h : WrG b l g) : Trip Tryz.prog 86 #[.pointer (some ⟨b, 0, none⟩)] [g] (fun u S' => u = .int .i64 (l.length : Int) ∧ S' = [g]) := by
  obtain ⟨v, gv, gd, hw, rfl⟩ := h
  exact (t86 b v l gv gd hw).over (F := gv ++ gd) (by simp) fun u A' ⟨h1, h2⟩ => ⟨_, ⟨h1, rfl⟩, by subst h2; simp⟩
theorem i124 (h : WrG b l g) (h64 : l.length ≤ 64) (b2 : Nat) (raw : List Int) (hb : Bytes raw) (hr : raw.length ≤ 1000) : Trip Tryz.prog 124 #[.pointer (some ⟨b, 0, none⟩), byV b2 raw] [g, byG b2 raw 5] (fun u S' => ∃ g', u = .bool (decide (l.length < 64)) ∧ WrG b (wPut l raw) g' ∧ S' = [g', byG b2 raw 5]) := by
  obtain ⟨v, gv, gd, hw, rfl⟩ := h
  refine (t124 b v l gv gd b2 0 raw.length raw.length 5 (bV raw).toArray raw hw h64 (BytAt.full hb (by omega)) hr).over (F := []) (by simp) ?_
  rintro u A' ⟨v', gv', gd', h1, h2, rfl⟩
  exact ⟨_, ⟨_, h1, ⟨v', gv', gd', h2, rfl⟩, rfl⟩, by simp⟩
theorem i77 (h : WrG b l g) (h64 : l.length ≤ 64) (i : Int) : Trip Tryz.prog 77 #[.pointer (some ⟨b, 0, none⟩), .int .i64 i] [g] (fun u S' => (wTake l i = none ∧ ∃ g', u = .tuple #[.slice none 0 0, .bool false] ∧ WrG b (wRest l i) g' ∧ S' = [g']) ∨ (∃ raw, wTake l i = some raw ∧ Bytes raw ∧ raw.length ≤ 1000 ∧ ∃ (br : Nat) (g' : List Chunk), u = .tuple #[byV br raw, .bool true] ∧ WrG b (wRest l i) g' ∧ S' = [g', byG br raw 5])) := by
  obtain ⟨v, gv, gd, hw, rfl⟩ := h
  refine (t77 b v l gv gd i hw h64).over (F := []) (by simp) ?_
  rintro u A' (⟨h0, v', gv', gd', h1, h2, rfl⟩ | ⟨raw, h0, hb, hl, br, v', gv', gd', h1, h2, rfl⟩)
  · exact ⟨_, .inl ⟨h0, _, h1, ⟨v', gv', gd', h2, rfl⟩, rfl⟩, by simp⟩
  · exact ⟨_, .inr ⟨raw, h0, hb, hl, br, _, h1, ⟨v', gv', gd', h2, rfl⟩, rfl⟩, by simp⟩
theorem i41 (h : WrG b l g) (h64 : l.length ≤ 64) (i : Int) : Trip Tryz.prog 41 #[.pointer (some ⟨b, 0, none⟩), .int .i64 i] [g] (fun u S' => ∃ (r : Bool) (g' : List Chunk), u = .bool r ∧ WrG b (wRest l i) g' ∧ S' = [g']) := by
  obtain ⟨v, gv, gd, hw, rfl⟩ := h
  refine (t41 b v l gv gd i hw h64).over (F := []) (by simp) ?_
  rintro u A' ⟨v', gv', gd', h1, h2, rfl⟩
  exact ⟨_, ⟨_, _, h1, ⟨v', gv', gd', h2, rfl⟩, rfl⟩, by simp⟩
theorem i42 (h : WrG b l g) (h64 : l.length ≤ 64) (i : Int) : Trip Tryz.prog 42 #[.pointer (some ⟨b, 0, none⟩), .int .i64 i] [g] (fun u S' => ∃ (r : Bool) (g' : List Chunk), u = .bool r ∧ WrG b (wDouble l i) g' ∧ S' = [g']) := by
  obtain ⟨v, gv, gd, hw, rfl⟩ := h
  refine (t42 b v l gv gd i hw h64).over (F := []) (by simp) ?_
  rintro u A' ⟨v', gv', gd', h1, h2, rfl⟩
  exact ⟨_, ⟨_, _, h1, ⟨v', gv', gd', h2, rfl⟩, rfl⟩, by simp⟩
theorem i43 (h : WrG b l g) (h64 : l.length ≤ 64) (i bit : Int) (hb : bit < 9223372036854775808) : Trip Tryz.prog 43 #[.pointer (some ⟨b, 0, none⟩), .int .i64 i, .int .i64 bit] [g] (fun u S' => ∃ (r : Bool) (g' : List Chunk), u = .bool r ∧ WrG b (wFlip l i bit) g' ∧ S' = [g']) := by
  obtain ⟨v, gv, gd, hw, rfl⟩ := h
  refine (t43 b v l gv gd i bit hw h64 hb).over (F := []) (by simp) ?_
  rintro u A' ⟨gv', gd', h1, h2, rfl⟩
  exact ⟨_, ⟨_, _, h1, ⟨v, gv', gd', h2, rfl⟩, rfl⟩, by simp⟩
end
/-! ### the network -/
def NtG (b : Nat) (l : List Ned) (dl : Nat → Int) (g : List Chunk) : Prop := ∃ v gv gd, LstN 83 16 edR v l gv gd ∧ g = (b, .cells (Nt.mk v dl).enc 80 (0, 0)) :: (gv ++ gd)
section
variable {b : Nat} {l : List Ned} {dl : Nat → Int} {g : List Chunk}
theorem i21 : Trip Tryz.prog 21 #[] [] (fun u S' => ∃ b g, u = .pointer (some ⟨b, 0, none⟩) ∧ NtG b [] (fun _ => 0) g ∧ S' = [g]) :=
  t21.over (F := []) (by simp) (fun u A' ⟨b, h1, h2⟩ => ⟨_, ⟨b, _, h1, ⟨_, [], [], LstN.nil, rfl⟩, rfl⟩, by subst h2; simp⟩)
theorem i70 (h : NtG b l dl g) (hs sd : Int) : Trip Tryz.prog 70 #[.pointer (some ⟨b, 0, none⟩), .int .i64 hs, .int .i64 sd] [g] (fun u S' => u = .int .i64 (nFind l hs sd) ∧ S' = [g]) := by
  obtain ⟨v, gv, gd, hw, rfl⟩ := h
  exact (t70 b v l gv gd dl hs sd hw).over (F := gd) (by simp) fun u A' ⟨h1, h2⟩ => ⟨_, ⟨h1, rfl⟩, by subst h2; simp⟩
theorem i19 (h : NtG b l dl g) : Trip Tryz.prog 19 #[.pointer (some ⟨b, 0, none⟩)] [g] (fun u S' => u = .bool (nNoneFailed l) ∧ S' = [g]) := by
  obtain ⟨v, gv, gd, hw, rfl⟩ := h
  exact (t19 b v l gv gd dl hw).over (F := gd) (by simp) fun u A' ⟨h1, h2⟩ => ⟨_, ⟨h1, rfl⟩, by subst h2; simp⟩
theorem i57 (h : NtG b l dl g) : Trip Tryz.prog 57 #[.pointer (some ⟨b, 0, none⟩)] [g] (fun u S' => u = .bool (nAllGone l) ∧ S' = [g]) := by
  obtain ⟨v, gv, gd, hw, rfl⟩ := h
  exact (t57 b v l gv gd dl hw).over (F := gd) (by simp) fun u A' ⟨h1, h2⟩ => ⟨_, ⟨h1, rfl⟩, by subst h2; simp⟩
theorem i91 (h : NtG b l dl g) (h64 : l.length ≤ 60000000000) (hs : Int) (en : En) (bc : Nat) (ci : Ci) : Trip Tryz.prog 91 #[.pointer (some ⟨b, 0, none⟩), .int .i64 hs, .agg (Si.mk en (.pointer (some ⟨bc, 0, none⟩))).enc] [g, [(bc, .cells ci.enc 95 (0, 0))]] (fun u S' => ∃ g', u = .bool (nCan l hs en ci) ∧ NtG b (nConn l hs en ci) dl g' ∧ S' = [g', [(bc, .cells ci.enc 95 (0, 0))]]) := by
  obtain ⟨v, gv, gd, hw, rfl⟩ := h
  refine (t91 b v l gv gd dl hs en bc ci hw h64).over (F := []) (by simp) ?_
  rintro u A' ⟨v', gv', gd', h1, h2, rfl⟩
  exact ⟨_, ⟨_, h1, ⟨v', gv', gd', h2, rfl⟩, rfl⟩, by simp⟩
theorem i96 (h : NtG b l dl g) (i m : Int) (b2 : Nat) (d : List Int) (hb : Bytes d) (hs : ∀ x ∈ l, x.sent.length ≤ 1000000000000) (hdl : d.length ≤ 1000000000000) : Trip Tryz.prog 96 #[.pointer (some ⟨b, 0, none⟩), .int .i64 i, .int .i64 m, byV b2 d] [g, byG b2 d 5] (fun u S' => ∃ g', u = .bool (nTook l i m d) ∧ NtG b (nTaken l i m d) dl g' ∧ S' = [g', byG b2 d 5]) := by
  obtain ⟨v, gv, gd, hw, rfl⟩ := h
  refine (t96 b v l gv gd dl i m b2 0 d.length d.length 5 (bV d).toArray d hw (BytAt.full hb (by omega)) hs hdl).over (F := []) (by simp) ?_
  rintro u A' ⟨gv', gd', h1, h2, rfl⟩
  exact ⟨_, ⟨_, h1, ⟨v, gv', gd', h2, rfl⟩, rfl⟩, by simp⟩
theorem i101 (h : NtG b l dl g) (i : Int) (b2 : Nat) (d : List Int) (hb : Bytes d) (hs : ∀ x ∈ l, x.rcvd.length ≤ 1000000000000) (hdl : d.length ≤ 1000000000000) (hp : ∀ x ∈ l, x.peer < l.length) : Trip Tryz.prog 101 #[.pointer (some ⟨b, 0, none⟩), .int .i64 i, byV b2 d] [g, byG b2 d 5] (fun u S' => ∃ g', u = .bool (nReadB l i d) ∧ NtG b (nReadL l i d) dl g' ∧ S' = [g', byG b2 d 5]) := by
  obtain ⟨v, gv, gd, hw, rfl⟩ := h
  refine (t101 b v l gv gd dl i b2 0 d.length d.length 5 (bV d).toArray d hw (BytAt.full hb (by omega)) hs hdl hp).over (F := []) (by simp) ?_
  rintro u A' ⟨gv', gd', h1, h2, rfl⟩
  exact ⟨_, ⟨_, h1, ⟨v, gv', gd', h2, rfl⟩, rfl⟩, by simp⟩
theorem i100 (h : NtG b l dl g) (i : Int) (hl : 0 < l.length) (hp : ∀ x ∈ l, x.peer < l.length) : Trip Tryz.prog 100 #[.pointer (some ⟨b, 0, none⟩), .int .i64 i] [g] (fun u S' => u = .bool (nEOF l i) ∧ S' = [g]) := by
  obtain ⟨v, gv, gd, hw, rfl⟩ := h
  exact (t100g b v l gv gd dl i hw hl hp).over (F := []) (by simp) fun u A' ⟨h1, h2⟩ => ⟨_, ⟨h1, rfl⟩, by subst h2; simp⟩
theorem i105 (h : NtG b l dl g) (i : Int) : Trip Tryz.prog 105 #[.pointer (some ⟨b, 0, none⟩), .int .i64 i] [g] (fun u S' => ∃ g', u = .bool (nHas l i) ∧ NtG b (nUpd l i (fun x => { x with closed := true })) dl g' ∧ S' = [g']) := by
  obtain ⟨v, gv, gd, hw, rfl⟩ := h
  refine (t105 b v l gv gd dl i hw).over (F := gd) (by simp) ?_
  rintro u A' ⟨gv', h1, h2, rfl⟩
  exact ⟨_, ⟨_, h1, ⟨v, gv', gd, h2, rfl⟩, rfl⟩, by simp⟩
theorem i36 (h : NtG b l dl g) (i : Int) : Trip Tryz.prog 36 #[.pointer (some ⟨b, 0, none⟩), .int .i64 i] [g] (fun u S' => ∃ g', u = .bool (nUnl l i) ∧ NtG b (nUnlisted l i) dl g' ∧ S' = [g']) := by
  obtain ⟨v, gv, gd, hw, rfl⟩ := h
  refine (t36 b v l gv gd dl i hw).over (F := gd) (by simp) ?_
  rintro u A' ⟨gv', h1, h2, rfl⟩
  exact ⟨_, ⟨_, h1, ⟨v, gv', gd, h2, rfl⟩, rfl⟩, by simp⟩
end
/-! ### what the hosts showed -/
def SnG (sn : Nat → List Int) (sv : Nat → Value) (g : List Chunk) : Prop := ∃ G : Nat → List Chunk, (∀ i, i < 3 → Inl (sv i) (sn i) (G i)) ∧ g = G 0 ++ (G 1 ++ G 2)
theorem SnG.at {sn : Nat → List Int} {sv : Nat → Value} {g : List Chunk} (h : SnG sn sv g) {c : Nat} (c3 : c < 3) :
    ∃ gc rest, Inl (sv c) (sn c) gc ∧ g.Perm (gc ++ rest) ∧ ∀ l' v' gc', Inl v' l' gc' → ∃ g', SnG (upA sn c l') (upA sv c v') g' ∧ g'.Perm (gc' ++ rest) := by
  obtain ⟨G, hG, rfl⟩ := h
  have key : ∀ l' v' gc', Inl v' l' gc' → ∀ i, i < 3 → Inl (upA sv c v' i) (upA sn c l' i) (upA G c gc' i) := fun l' v' gc' e i i3 => by
    unfold upA; split
    · exact e
    · exact hG i i3
  have hc : c = 0 ∨ c = 1 ∨ c = 2 := by omega
  rcases hc with rfl | rfl | rfl
  · exact ⟨G 0, G 1 ++ G 2, hG 0 (by omega), List.Perm.refl _, fun l' v' gc' e => ⟨_, ⟨upA G 0 gc', key l' v' gc' e, rfl⟩, List.Perm.refl _⟩⟩
  · exact ⟨G 1, G 0 ++ G 2, hG 1 (by omega), perm_mid _ _ _, fun l' v' gc' e => ⟨_, ⟨upA G 1 gc', key l' v' gc' e, rfl⟩, perm_mid _ _ _⟩⟩
  · exact ⟨G 2, G 0 ++ G 1, hG 2 (by omega), perm_end _ _ _, fun l' v' gc' e => ⟨_, ⟨upA G 2 gc', key l' v' gc' e, rfl⟩, perm_end _ _ _⟩⟩
/-- who waits to be accepted -/
def wtR (xs : List Value) (x : Wt) (g : List Chunk) : Prop := xs = x.enc.toList ∧ g = []
theorem wtE : ∀ {xs : List Value} {l : List Wt} {g : List Chunk}, Elems 3 wtR xs l g → g = []
  | xs, [], g, h => h.2
  | xs, a :: l, g, ⟨x, xs', g1, g2, h1, h2, h3, h4, h5⟩ => by rw [h5, h3.2, wtE h4]; rfl
/-! ### the pools -/
def stp (j n : Nat) : List Int := (List.range n).map (mark j)
def PM (m : Nat) (v : Value) (g : List Chunk) : Prop := ∃ rows gv gd, LstN 81 1 rowR v rows gv gd ∧ g = gv ++ gd ∧ rows.length ≤ m ∧ ∀ j (h : j < rows.length), rows[j] = stp j rows[j].length
def inlR (xs : List Value) (l : List Int) (g : List Chunk) : Prop := ∃ b, xs = [inV b l] ∧ g = inG b l 3 ∧ l.length ≤ 1073741824
theorem inlR_plain : ∀ xs a g, inlR xs a g → xs.all plainV = true := by rintro xs a g ⟨b, rfl, _, _⟩; rfl
def PI (m : Nat) (v : Value) (g : List Chunk) : Prop := ∃ rows gv gd, LstN 46 1 inlR v rows gv gd ∧ g = gv ++ gd ∧ rows.length ≤ m ∧ ∀ j (h : j < rows.length), rows[j] = List.replicate rows[j].length (-1 - (j : Int))
/-- a list of n tokens that spell j -/
def outR (xs : List Value) (x : Nat × Nat) (g : List Chunk) : Prop := ∃ bf bt, xs = [.slice (some ⟨bf, 0, none⟩) x.2 x.2] ∧ x.2 ≤ maxLen ∧ g = [(bf, .cells (List.replicate x.2 (byV bt (tok x.1))).toArray 81 (0, 0))] ++ byG bt (tok x.1) 5
theorem outR_plain : ∀ xs a g, outR xs a g → xs.all plainV = true := by rintro xs a g ⟨b, b2, rfl, _, _⟩; rfl
def PO (m : Nat) (v : Value) (g : List Chunk) : Prop := ∃ rows gv gd, LstN 51 1 outR v rows gv gd ∧ g = gv ++ gd ∧ rows.length ≤ m ∧ ∀ j (h : j < rows.length), rows[j].1 = j
theorem PM.nil : PM 0 (.slice none 0 0) [] := ⟨[], [], [], LstN.nil, rfl, Nat.zero_le _, fun j h => absurd h (Nat.not_lt_zero j)⟩
theorem PI.nil : PI 0 (.slice none 0 0) [] := ⟨[], [], [], LstN.nil, rfl, Nat.zero_le _, fun j h => absurd h (Nat.not_lt_zero j)⟩
theorem PO.nil : PO 0 (.slice none 0 0) [] := ⟨[], [], [], LstN.nil, rfl, Nat.zero_le _, fun j h => absurd h (Nat.not_lt_zero j)⟩
theorem PM.mono {m n : Nat} {v : Value} {g : List Chunk} (h : PM m v g) (k : m ≤ n) : PM n v g := by obtain ⟨r, gv, gd, a, b, c, d⟩ := h; exact ⟨r, gv, gd, a, b, by omega, d⟩
theorem PI.mono {m n : Nat} {v : Value} {g : List Chunk} (h : PI m v g) (k : m ≤ n) : PI n v g := by obtain ⟨r, gv, gd, a, b, c, d⟩ := h; exact ⟨r, gv, gd, a, b, by omega, d⟩
theorem PO.mono {m n : Nat} {v : Value} {g : List Chunk} (h : PO m v g) (k : m ≤ n) : PO n v g := by obtain ⟨r, gv, gd, a, b, c, d⟩ := h; exact ⟨r, gv, gd, a, b, by omega, d⟩
/-! ### the world's block -/
structure WA where
  b : Nat
  hv : Nat → Value
  bv : Nat → Bl
  qv : Nat → Value
  qb : Nat → Bl
  bw : Nat
  bn : Nat
structure WV where
  seen : Nat → Value
  ready : Value
  ints : Value
  outs : Value
  mine : Value
  cm : Int
@[reducible] def WA.wd (A : WA) (q : Bool) (x : Wrld) (V : WV) : Wd := ⟨A.hv, A.bv, A.qv, q, V.cm, ptr A.bw, ptr A.bn, x.top, V.seen, x.lost, x.out, x.ticks, x.flood, x.spilt, V.ready, V.ints, V.outs, V.mine⟩
abbrev WA.wG (A : WA) (q : Bool) (x : Wrld) (V : WV) : List Chunk := [(A.b, .cells (A.wd q x V).enc 53 (0, 0))]
end Go.Proofs.Qxb6500351aGreat
