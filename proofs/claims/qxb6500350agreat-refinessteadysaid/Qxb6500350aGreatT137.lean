/- MADE BY PROGRAM (tools350/mir.py): mirror and walk. -/
import Derived.Test.Qxb6500350aGreatF2
import Derived.Test.Qxb6500350aGreatT210
set_option linter.unusedVariables false
set_option linter.unusedSimpArgs false
set_option maxRecDepth 20000
set_option maxHeartbeats 4000000
namespace Go.Proofs.Qxb6500350aGreat
open Go.Eng

/- (*graph.Graph).Branches -/
def m137_w1 (n : Nat) (g : Graph) (mm : Nat) : (List Ref_) → Int → Option ((List Ref_) × Int) := it2 (fun lp1 l1 c1 =>
cond (decide (c1 < g.nb)) (
Option.bind (ckA c1 4) fun _ =>
ob1 (m210 n g ((g.br c1).id)) fun c3 =>
Option.bind (ckA c1 4) fun _ =>
Option.bind (apd l1 ({ name := (g.br c1).name, seq := c3 } : Ref_)) fun l3 =>
lp1 l3 (wi (c1 + 1))) (
some (l1, c1))) mm
def m137 (n : Nat) (g : Graph) : Option ((List Ref_)) :=
ob2 (m137_w1 n g n ([] : List Ref_) 0) fun l2 c2 =>
some l2
theorem t137 {n : Nat} {C : List Chunk} {rl1 : List Ref_} {b1 : Nat} {g : Graph} {q1 : Option Addr}   (hm : m137 n g = some rl1) : Trip Tryz.prog 137 #[.pointer (some ⟨b1, 0, none⟩)] ([[(b1, .cells (Graph.enc ((.pointer q1)) g).toArray 179 (0, 0))]] ++ [C]) (fun u S' => ∃ (ev1 : Value), ∃ (eg1 : List Chunk), ev1 = u ∧ S' = [[(b1, .cells (Graph.enc ((.pointer q1)) g).toArray 179 (0, 0))], eg1] ++ [C] ∧ Own rRef_ ev1 rl1 eg1) := by
  refine fn_entry (args := [.pointer (some ⟨b1, 0, none⟩)]) Tryz.func137 rfl Tryz.ntmps137 rfl (fun w0 => ?_)
  refine c_seq ?_
  refine c_region ?_
  have ho1 : Own rRef_ (.slice none 0 0) [] [] := Own.nil
  refine o_emp ?_
  refine o_L (y_assign rfl) rfl rfl ?_
  refine o_nil0 rfl ?_
  refine c_seq ?_
  refine c_region ?_
  have ho2 : Own rRef_ (.slice none 0 0) [] [] := Own.nil
  refine o_emp ?_
  refine o_L (y_assign rfl) rfl rfl ?_
  refine o_nil0 rfl ?_
  refine c_seq ?_
  refine c_seq ?_
  refine c_region ?_
  refine o_L (y_assign rfl) rfl rfl ?_
  refine o_nil0 rfl ?_
  obtain ⟨l2, c2, hj1, hm⟩ := bd2 hm
  refine c_joinP (n := 1) (fun sh G => ∃ (v2 : Value), ∃ (g2 : List Chunk), sh = [(3, v2), (4, .int .i64 c2)] ∧ G = [g2] ∧ Own rRef_ v2 l2 g2) (s_take (s_skip (s_take (s_take s_nil)))) (.s .z) (fun _ _ h => h) ?_ ?_
  · skip
    refine c_block ?_
    refine c_loopP (n := 1) (fun mm sh G => ∃ (l1 : List Ref_), ∃ (c1 : Int), ∃ (v1 : Value), ∃ (g1 : List Chunk), sh = [(3, v1), (4, .int .i64 c1)] ∧ G = [g1] ∧ m137_w1 n g mm l1 c1 = some (l2, c2) ∧ Own rRef_ v1 l1 g1) n (s_take (s_skip (s_take (s_take s_nil)))) (.s .z) ⟨_, _, ⟨_, _, (.slice none 0 0), _, rfl, rfl, hj1, ho2⟩, ⟨rfl, rfl, trivial⟩, _, (s_take (s_skip (s_take (s_take s_nil))))⟩ ?_
    rintro mm sh G ⟨l1, c1, v1, g1, rfl, rfl, hm, ho3⟩
    obtain ⟨mm1, rfl, hm⟩ := it2_s hm
    refine c_seq ?_
    refine c_seq ?_
    refine c_region ?_
    refine o_T (y_move rfl) rfl ?_
    refine o_T (y_move rfl) rfl ?_
    refine o_T (y_nilck rfl) rfl ?_
    refine o_T (y_fa fl_179_5 rfl) rfl ?_
    refine o_ld one_3 rfl (ms m0) (At.got (At.refl.comp Graph.a_nb)) rfl ?_
    refine o_T (y_lss rfl rfl) rfl ?_
    refine o_nil1 11 rfl rfl ?_
    refine c_cond rfl (fun h1 => ?_) (fun h1 => ?_)
    · have hm := cd_t h1 hm
      refine c_skip ?_
      refine c_seq ?_
      refine c_block ?_
      refine c_seq ?_
      refine c_region ?_
      refine o_T (y_move rfl) rfl ?_
      refine o_T (y_move rfl) rfl ?_
      refine o_T (y_move rfl) rfl ?_
      refine o_T (y_nilck rfl) rfl ?_
      refine o_T (y_fa fl_179_4 rfl) rfl ?_
      obtain ⟨_, hx1, hm⟩ := bd hm
      have hx1 := ckA_some hx1
      refine o_T (y_ia ar_177 rfl rfl hx1.1 hx1.2) rfl ?_
      refine o_T (y_fa fl_176_1 rfl) rfl ?_
      refine o_ld one_3 rfl (ms m0) (At.got (((At.refl.comp Graph.a_br).comp (encN_a Brn.len _ _ hx1.1 _ hx1.2)).comp Brn.a_id)) rfl ?_
      obtain ⟨c3, hx2, hm⟩ := bd1 hm
      refine o_callC en_210 rfl (s_skip (s_take s_nil)) (t210 hx2) rfl (fun u1 S1 hR1 => ?_)
      obtain ⟨rfl, rfl⟩ := hR1
      refine o_rest ?_
      refine o_L (y_assign rfl) rfl rfl ?_
      refine o_nil0 rfl ?_
      refine c_region ?_
      refine o_T (y_move rfl) rfl ?_
      refine o_T (y_move rfl) rfl ?_
      refine o_T (y_move rfl) rfl ?_
      refine o_T (y_nilck rfl) rfl ?_
      refine o_T (y_fa fl_179_4 rfl) rfl ?_
      obtain ⟨_, hx3, hm⟩ := bd hm
      have hx3 := ckA_some hx3
      refine o_T (y_ia ar_177 rfl rfl hx3.1 hx3.2) rfl ?_
      refine o_T (y_fa fl_176_0 rfl) rfl ?_
      refine o_ld one_9 rfl m0 (At.got (((At.refl.comp Graph.a_br).comp (encN_a Brn.len _ _ hx3.1 _ hx3.2)).comp Brn.a_name)) rfl ?_
      refine o_T (y_move rfl) rfl ?_
      refine o_T (y_build st_96 rfl (fbU rfl Ref_.u_name rfl rfl (fbU rfl Ref_.u_seq rfl rfl fbU0))) rfl ?_
      refine o_bs1 sz_56 rfl rfl rfl rfl rfl rfl (fun b2 => ?_)
      obtain ⟨l3, hx4, hm⟩ := bd hm
      refine o_appR (R := rRef_) (a := ({ name := (g.br c1).name, seq := c3 } : Ref_)) sz_56 rfl rfl rfl rfl ho3 rfl hx4 (Sel.e (s_get (ks (ks k0)) (s_take s_nil))) rfl (fun v3 g3 ho5 => ?_)
      refine o_L (y_assign rfl) rfl rfl ?_
      refine o_nil0 rfl ?_
      refine c_region ?_
      refine o_T (y_move rfl) rfl ?_
      refine o_T (y_add rfl rfl rfl) rfl ?_
      refine o_L (y_assign rfl) rfl rfl ?_
      refine o_nil0 rfl ?_
      exact ⟨mm1, Nat.lt_succ_self _, _, _, ⟨_, _, v3, _, rfl, rfl, hm, ho5⟩, ⟨rfl, rfl, trivial⟩, ⟨rfl, rfl⟩, _, (s_take (s_take (s_take s_nil)))⟩
    · have hm := cd_f h1 hm
      refine c_exit ?_
      obtain ⟨rfl, rfl⟩ := pr2 hm
      exact ⟨_, _, ⟨v1, _, rfl, rfl, ho3⟩, ⟨rfl, rfl, trivial⟩, ⟨rfl, rfl⟩, _, (s_take (s_take (s_take s_nil)))⟩
  · rintro sh G ⟨v2, g2, rfl, rfl, ho4⟩
    refine c_seq ?_
    refine c_region ?_
    refine o_T (y_move rfl) rfl ?_
    refine o_L (y_assign rfl) rfl rfl ?_
    refine o_nil0 rfl ?_
    refine c_ret ?_
    obtain rfl := p1 hm
    refine fun aX wX heX hsX => ret1 Tryz.results137 heX rfl (s_get (ks k0) (s_take (s_take s_nil))) ?_
    exact ⟨v2, _, rfl, rfl, ho4⟩
end Go.Proofs.Qxb6500350aGreat
