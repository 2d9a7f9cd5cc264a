/- MADE BY PROGRAM (tools350/mir.py): mirror and walk. -/
import Derived.Test.Qxb6500350aGreatF2
set_option linter.unusedVariables false
set_option linter.unusedSimpArgs false
set_option maxRecDepth 20000
set_option maxHeartbeats 4000000
namespace Go.Proofs.Qxb6500350aGreat
open Go.Eng

/- tree.appendRow -/
def m315_w1 (n : Nat) (name : Str) (mm : Nat) : (List UInt8) → Int → Option ((List UInt8) × Int) := it2 (fun lp1 l2 c1 =>
cond (decide (c1 < (name.length : Int))) (
Option.bind (sIx name c1) fun c3 =>
Option.bind (apd l2 c3) fun l4 =>
lp1 l4 (wi (c1 + 1))) (
some (l2, c1))) mm
def m315 (n : Nat) (buf : (List UInt8)) (head : Int) (id : Int) (name : Str) : Option ((List UInt8)) :=
Option.bind (apds buf ([(u8 head), (u8 id), (u8 (name.length : Int))] : List UInt8)) fun l1 =>
ob2 (m315_w1 n name n l1 0) fun l3 c2 =>
some l3
theorem t315 {n : Nat} {C : List Chunk} {rl1 : List UInt8} {v1 : Value} {buf : (List UInt8)} {g1 : List Chunk} {head : Int} {id : Int} {name : Str} (ho1 : Own rByte v1 buf g1)  (hm : m315 n buf head id name = some rl1) : Trip Tryz.prog 315 #[v1, .int .i64 head, .int .i64 id, .string ⟨(name : Str).toArray⟩] ([g1] ++ [C]) (fun u S' => ∃ (ev1 : Value), ∃ (eg1 : List Chunk), ev1 = u ∧ S' = [eg1] ++ [C] ∧ Own rByte ev1 rl1 eg1) := by
  refine fn_entry (args := [v1, .int .i64 head, .int .i64 id, .string ⟨(name : Str).toArray⟩]) Tryz.func315 rfl Tryz.ntmps315 rfl (fun w0 => ?_)
  refine c_seq ?_
  refine c_region ?_
  have ho2 : Own rByte (.slice none 0 0) [] [] := Own.nil
  refine o_emp ?_
  refine o_L (y_assign rfl) rfl rfl ?_
  refine o_nil0 rfl ?_
  refine c_seq ?_
  refine c_region ?_
  refine o_T (y_move rfl) rfl ?_
  refine o_T (y_move rfl) rfl ?_
  refine o_T (y_conv Tryz.underlying3 Tryz.underlying5 rfl (u8_eq _)) rfl ?_
  refine o_T (y_move rfl) rfl ?_
  refine o_T (y_conv Tryz.underlying3 Tryz.underlying5 rfl (u8_eq _)) rfl ?_
  refine o_T (y_move rfl) rfl ?_
  refine o_T (y_slen Tryz.underlying9 rfl) rfl ?_
  refine o_T (y_conv Tryz.underlying3 Tryz.underlying5 rfl (u8_eq _)) rfl ?_
  refine o_lit3 (R := rByte) sz_81 rfl rfl rfl rfl (show rByte.rd [] [.int .u8 ((u8 head).toNat : Int)] (u8 head) from rfl) (show rByte.rd [] [.int .u8 ((u8 id).toNat : Int)] (u8 id) from rfl) (show rByte.rd [] [.int .u8 ((u8 (name.length : Int)).toNat : Int)] (u8 (name.length : Int)) from rfl) rfl (fun b1 => ?_)
  obtain ⟨l1, hx1, hm⟩ := bd hm
  refine o_appRs (R := rByte) (m := [(u8 head), (u8 id), (u8 (name.length : Int))]) sz_81 rfl rfl rfl rfl ho1 ⟨[_], _, rfl, rfl, ⟨[_], _, rfl, rfl, ⟨[_], _, rfl, rfl, rfl⟩⟩⟩ rfl (Nat.le_refl _) hx1 (s_get (ks (ks k0)) (s_take s_nil)) rfl (fun v2 g2 ho3 => ?_)
  refine o_L (y_assign rfl) rfl rfl ?_
  refine o_nil0 rfl ?_
  refine c_seq ?_
  refine c_seq ?_
  refine c_region ?_
  refine o_L (y_assign rfl) rfl rfl ?_
  refine o_nil0 rfl ?_
  obtain ⟨l3, c2, hj1, hm⟩ := bd2 hm
  refine c_joinP (n := 1) (fun sh G => ∃ (v4 : Value), ∃ (g4 : List Chunk), sh = [(0, v4), (9, .int .i64 c2)] ∧ G = [g4] ∧ Own rByte v4 l3 g4) (s_take (s_skip (s_take s_nil))) (.s .z) (fun _ _ h => h) ?_ ?_
  · skip
    refine c_block ?_
    refine c_loopP (n := 1) (fun mm sh G => ∃ (l2 : List UInt8), ∃ (c1 : Int), ∃ (v3 : Value), ∃ (g3 : List Chunk), sh = [(0, v3), (9, .int .i64 c1)] ∧ G = [g3] ∧ m315_w1 n name mm l2 c1 = some (l3, c2) ∧ Own rByte v3 l2 g3) n (s_take (s_skip (s_take s_nil))) (.s .z) ⟨_, _, ⟨_, _, v2, _, rfl, rfl, hj1, ho3⟩, ⟨rfl, rfl, trivial⟩, _, (s_take (s_skip (s_take s_nil)))⟩ ?_
    rintro mm sh G ⟨l2, c1, v3, g3, rfl, rfl, hm, ho4⟩
    obtain ⟨mm1, rfl, hm⟩ := it2_s hm
    refine c_seq ?_
    refine c_seq ?_
    refine c_region ?_
    refine o_T (y_move rfl) rfl ?_
    refine o_T (y_move rfl) rfl ?_
    refine o_T (y_slen Tryz.underlying9 rfl) rfl ?_
    refine o_T (y_lss rfl rfl) rfl ?_
    refine o_nil1 23 rfl rfl ?_
    refine c_cond rfl (fun h1 => ?_) (fun h1 => ?_)
    · have hm := cd_t h1 hm
      refine c_skip ?_
      refine c_seq ?_
      refine c_block ?_
      refine c_region ?_
      refine o_T (y_move rfl) rfl ?_
      refine o_T (y_move rfl) rfl ?_
      refine o_T (y_move rfl) rfl ?_
      obtain ⟨c3, hx2, hm⟩ := bd hm
      refine o_T (y_sidx Tryz.underlying9 rfl rfl hx2) rfl ?_
      refine o_bs1 sz_81 rfl rfl rfl rfl rfl rfl (fun b2 => ?_)
      obtain ⟨l4, hx3, hm⟩ := bd hm
      refine o_appR (R := rByte) (a := c3) sz_81 rfl rfl rfl rfl ho4 rfl hx3 (Sel.e (s_get (ks k0) (s_take s_nil))) rfl (fun v5 g5 ho6 => ?_)
      refine o_L (y_assign rfl) rfl rfl ?_
      refine o_nil0 rfl ?_
      refine c_region ?_
      refine o_T (y_move rfl) rfl ?_
      refine o_T (y_add rfl rfl rfl) rfl ?_
      refine o_L (y_assign rfl) rfl rfl ?_
      refine o_nil0 rfl ?_
      exact ⟨mm1, Nat.lt_succ_self _, _, _, ⟨_, _, v5, _, rfl, rfl, hm, ho6⟩, ⟨rfl, rfl, trivial⟩, ⟨rfl, rfl⟩, _, (s_take (s_take s_nil))⟩
    · have hm := cd_f h1 hm
      refine c_exit ?_
      obtain ⟨rfl, rfl⟩ := pr2 hm
      exact ⟨_, _, ⟨v3, _, rfl, rfl, ho4⟩, ⟨rfl, rfl, trivial⟩, ⟨rfl, rfl⟩, _, (s_take (s_take s_nil))⟩
  · rintro sh G ⟨v4, g4, rfl, rfl, ho5⟩
    refine c_seq ?_
    refine c_region ?_
    refine o_T (y_move rfl) rfl ?_
    refine o_L (y_assign rfl) rfl rfl ?_
    refine o_nil0 rfl ?_
    refine c_ret ?_
    obtain rfl := p1 hm
    refine fun aX wX heX hsX => ret1 Tryz.results315 heX rfl (s_take (s_take s_nil)) ?_
    exact ⟨v4, _, rfl, rfl, ho5⟩
end Go.Proofs.Qxb6500350aGreat
