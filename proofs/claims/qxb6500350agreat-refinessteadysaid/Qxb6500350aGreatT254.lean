/- MADE BY PROGRAM (tools350/mir.py): mirror and walk. -/
import Derived.Test.Qxb6500350aGreatF2
import Derived.Test.Qxb6500350aGreatT290
set_option linter.unusedVariables false
set_option linter.unusedSimpArgs false
set_option maxRecDepth 20000
set_option maxHeartbeats 4000000
namespace Go.Proofs.Qxb6500350aGreat
open Go.Eng

/- (*diff.Engine).numbers -/
def m254_w1 (n : Nat) (l : (List Str)) (mm : Nat) : Int → (List Int) → Engine → Option (Int × (List Int) × Engine) := it3 (fun lp1 c1 l2 z1 =>
cond (decide (c1 < (l.length : Int))) (
Option.bind (ixL l c1) fun x1 =>
ob2 (m290 n z1 x1) fun c3 z4 =>
Option.bind (ckA c1 (l2.length : Int)) fun _ =>
Option.bind (stL l2 c1 c3) fun l4 =>
lp1 (wi (c1 + 1)) l4 z4) (
some (c1, l2, z1))) mm
def m254 (n : Nat) (e : Engine) (l : (List Str)) : Option ((List Int) × Engine) :=
Option.bind (mkL (l.length : Int) (l.length : Int) (0 : Int)) fun l1 =>
ob3 (m254_w1 n l n 0 l1 e) fun c2 l3 z2 =>
some (l3, z2)
theorem t254 {n : Nat} {C : List Chunk} {rl1 : List Int} {rz1 : Engine} {b1 : Nat} {e : Engine} {v1 : Value} {g1 : List Chunk} {v2 : Value} {g2 : List Chunk} {v3 : Value} {g3 : List Chunk} {v4 : Value} {l : (List Str)} (ho1 : Own rStr v1 e.line_ g1) (ho2 : Own rInt v2 e.sum g2) (ho3 : Own rInt v3 e.nxt g3) (hr1 : Rd rStr C v4 l)  (hm : m254 n e l = some (rl1, rz1)) : Trip Tryz.prog 254 #[.pointer (some ⟨b1, 0, none⟩), v4] ([[(b1, .cells (Engine.enc (v1) (v2) (v3) e).toArray 187 (0, 0))], g1, g2, g3] ++ [C]) (fun u S' => ∃ (ev1 : Value), ∃ (eg1 : List Chunk), ∃ (ev2 : Value), ∃ (eg2 : List Chunk), ∃ (ev3 : Value), ∃ (eg3 : List Chunk), ∃ (ev4 : Value), ∃ (eg4 : List Chunk), ev1 = u ∧ S' = [[(b1, .cells (Engine.enc (ev2) (ev3) (ev4) rz1).toArray 187 (0, 0))], eg2, eg3, eg4, eg1] ++ [C] ∧ Own rInt ev1 rl1 eg1 ∧ Own rStr ev2 rz1.line_ eg2 ∧ Own rInt ev3 rz1.sum eg3 ∧ Own rInt ev4 rz1.nxt eg4) := by
  refine fn_entry (args := [.pointer (some ⟨b1, 0, none⟩), v4]) Tryz.func254 rfl Tryz.ntmps254 rfl (fun w0 => ?_)
  refine c_seq ?_
  refine c_region ?_
  have ho4 : Own rInt (.slice none 0 0) [] [] := Own.nil
  refine o_emp ?_
  refine o_L (y_assign rfl) rfl rfl ?_
  refine o_nil0 rfl ?_
  refine c_seq ?_
  refine c_region ?_
  refine o_T (y_move rfl) rfl ?_
  refine o_T (y_lenR hr1 Tryz.underlying185 rfl) rfl ?_
  obtain ⟨l1, hx1, hm⟩ := bd hm
  refine o_mkR (R := rInt) (a := 0) sz_65 rfl rfl rfl rfl rfl hx1 rfl (fun v5 g4 ho5 => ?_)
  refine o_L (y_assign rfl) rfl rfl ?_
  refine o_nil0 rfl ?_
  refine c_seq ?_
  refine c_seq ?_
  refine c_region ?_
  refine o_L (y_assign rfl) rfl rfl ?_
  refine o_nil0 rfl ?_
  obtain ⟨c2, l3, z2, hj1, hm⟩ := bd3 hm
  refine c_joinP (n := 5) (fun sh G => ∃ (g9 : List Chunk), ∃ (v11 : Value), ∃ (g10 : List Chunk), ∃ (v12 : Value), ∃ (g11 : List Chunk), ∃ (v13 : Value), ∃ (g12 : List Chunk), sh = [(6, .int .i64 c2)] ∧ G = [g9, [(b1, .cells (Engine.enc (v11) (v12) (v13) z2).toArray 187 (0, 0))], g10, g11, g12] ∧ Own rInt v5 l3 g9 ∧ Own rStr v11 z2.line_ g10 ∧ Own rInt v12 z2.sum g11 ∧ Own rInt v13 z2.nxt g12) (s_take (s_skip (s_take (s_take (s_take (s_take (s_take s_nil))))))) (.s (.s (.s (.s (.s .z))))) (fun _ _ h => h) ?_ ?_
  · skip
    refine c_block ?_
    refine c_loopP (n := 5) (fun mm sh G => ∃ (c1 : Int), ∃ (l2 : List Int), ∃ (z1 : Engine), ∃ (g5 : List Chunk), ∃ (v7 : Value), ∃ (g6 : List Chunk), ∃ (v8 : Value), ∃ (g7 : List Chunk), ∃ (v9 : Value), ∃ (g8 : List Chunk), sh = [(6, .int .i64 c1)] ∧ G = [g5, [(b1, .cells (Engine.enc (v7) (v8) (v9) z1).toArray 187 (0, 0))], g6, g7, g8] ∧ m254_w1 n l mm c1 l2 z1 = some (c2, l3, z2) ∧ Own rInt v5 l2 g5 ∧ Own rStr v7 z1.line_ g6 ∧ Own rInt v8 z1.sum g7 ∧ Own rInt v9 z1.nxt g8) n (s_take (s_skip (s_take (s_take (s_take (s_take (s_take s_nil))))))) (.s (.s (.s (.s (.s .z))))) ⟨_, _, ⟨_, _, _, _, v1, _, v2, _, v3, _, rfl, rfl, hj1, ho5, ho1, ho2, ho3⟩, ⟨rfl, trivial⟩, _, (s_take (s_skip (s_take (s_take (s_take (s_take (s_take s_nil)))))))⟩ ?_
    rintro mm sh G ⟨c1, l2, z1, g5, v7, g6, v8, g7, v9, g8, rfl, rfl, hm, ho6, ho7, ho8, ho9⟩
    obtain ⟨mm1, rfl, hm⟩ := it3_s hm
    refine c_seq ?_
    refine c_seq ?_
    refine c_region ?_
    refine o_T (y_move rfl) rfl ?_
    refine o_T (y_move rfl) rfl ?_
    refine o_T (y_lenR hr1 Tryz.underlying185 rfl) rfl ?_
    refine o_T (y_lss rfl rfl) rfl ?_
    refine o_nil1 13 rfl rfl ?_
    refine c_cond rfl (fun h1 => ?_) (fun h1 => ?_)
    · have hm := cd_t h1 hm
      refine c_skip ?_
      refine c_seq ?_
      refine c_block ?_
      refine c_region ?_
      refine o_T (y_move rfl) rfl ?_
      refine o_T (y_move rfl) rfl ?_
      refine o_T (y_move rfl) rfl ?_
      refine o_T (y_move rfl) rfl ?_
      refine o_T (y_move rfl) rfl ?_
      obtain ⟨x1, hx2, hm⟩ := bd hm
      obtain ⟨b2, w1, cs1, y1, z3, vs1, hc1, ha1, hr2, hy1⟩ := hr1.ix hx2
      obtain rfl : vs1 = (encS x1) := hr2
      refine o_T (hy1 sl_185 rfl rfl rfl) rfl ?_
      refine o_ld one_9 rfl (ms (ms (ms (ms (ms (mg hc1)))))) (At.getA (ha1)) rfl ?_
      obtain ⟨c3, z4, hx3, hm⟩ := bd2 hm
      refine o_callC en_290 rfl (s_skip (s_take (s_take (s_take (s_take s_nil))))) (t290 ho7 ho8 ho9 hx3) rfl (fun u1 S1 hR1 => ?_)
      obtain ⟨v14, g13, v15, g14, v16, g15, rfl, rfl, ho14, ho15, ho16⟩ := hR1
      refine o_rest ?_
      obtain ⟨_, hi1, hm⟩ := bd hm
      have hi1 := ckA_some hi1
      obtain ⟨b3, cp1, hv1, hy2⟩ := ho6.ix hi1
      refine o_T (hy2 sl_65 rfl rfl rfl) rfl ?_
      obtain ⟨l4, hx5, hm⟩ := bd hm
      refine o_stO1 one_3 rfl rfl rfl rfl ho6 hv1 hx5 (fun _ => (qs (qs (qs (qs q0))))) (fun g16 ho17 => ?_)
      refine o_nil0 rfl ?_
      refine c_region ?_
      refine o_T (y_move rfl) rfl ?_
      refine o_T (y_add rfl rfl rfl) rfl ?_
      refine o_L (y_assign rfl) rfl rfl ?_
      refine o_nil0 rfl ?_
      exact ⟨mm1, Nat.lt_succ_self _, _, _, ⟨_, _, _, _, v14, _, v15, _, v16, _, rfl, rfl, hm, ho17, ho14, ho15, ho16⟩, ⟨rfl, trivial⟩, ⟨rfl, rfl⟩, _, (s_get (ks (ks (ks (ks k0)))) (s_take (s_take (s_take (s_take (s_take s_nil))))))⟩
    · have hm := cd_f h1 hm
      refine c_exit ?_
      obtain ⟨rfl, rfl, rfl⟩ := pr3 hm
      exact ⟨_, _, ⟨_, v7, _, v8, _, v9, _, rfl, rfl, ho6, ho7, ho8, ho9⟩, ⟨rfl, trivial⟩, ⟨rfl, rfl⟩, _, (s_take (s_take (s_take (s_take (s_take (s_take s_nil))))))⟩
  · rintro sh G ⟨g9, v11, g10, v12, g11, v13, g12, rfl, rfl, ho10, ho11, ho12, ho13⟩
    refine c_seq ?_
    refine c_region ?_
    refine o_T (y_move rfl) rfl ?_
    refine o_L (y_assign rfl) rfl rfl ?_
    refine o_nil0 rfl ?_
    refine c_ret ?_
    obtain ⟨rfl, rfl⟩ := pr2 hm
    refine fun aX wX heX hsX => ret1 Tryz.results254 heX rfl (s_get (ks k0) (s_get (ks k0) (s_get (ks k0) (s_get (ks k0) (s_take (s_take s_nil)))))) ?_
    exact ⟨v5, _, v11, _, v12, _, v13, _, rfl, rfl, ho10, ho11, ho12, ho13⟩
end Go.Proofs.Qxb6500350aGreat
