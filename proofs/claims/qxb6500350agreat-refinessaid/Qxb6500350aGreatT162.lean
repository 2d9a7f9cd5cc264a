/- MADE BY PROGRAM (tools350/mir.py): mirror and walk. -/
import Derived.Test.Qxb6500350aGreatF2
import Derived.Test.Qxb6500350aGreatT241
set_option linter.unusedVariables false
set_option linter.unusedSimpArgs false
set_option maxRecDepth 20000
set_option maxHeartbeats 4000000
namespace Go.Proofs.Qxb6500350aGreat
open Go.Eng

/- api.Stay -/
def m162_w1 (n : Nat) (n_ : (List Node)) (mm : Nat) : (List (List File)) → Int → Option ((List (List File)) × Int) := it2 (fun lp1 l1 c1 =>
cond (decide (c1 < (n_.length : Int))) (
Option.bind (ixL n_ c1) fun x1 =>
Option.bind (apd l1 x1.files) fun l3 =>
lp1 l3 (wi (c1 + 1))) (
some (l1, c1))) mm
def m162 (n : Nat) (n_ : (List Node)) (aux : (List File)) : Option (Int) :=
ob2 (m162_w1 n n_ n ([] : List (List File)) 0) fun l2 c2 =>
Option.bind (apd l2 aux) fun l4 =>
ob1 (m241 n l4) fun c3 =>
some (wi ((wi (c3 + (n_.length : Int))) + 1))
theorem t162 {n : Nat} {C : List Chunk} {rc1 : Int} {v1 : Value} {n_ : (List Node)} {v2 : Value} {aux : (List File)} (hr1 : Rd rNode C v1 n_) (hr2 : Rd rFile C v2 aux)  (hm : m162 n n_ aux = some rc1) : Trip Tryz.prog 162 #[v1, v2] ([] ++ [C]) (fun u S' => .int .i64 rc1 = u ∧ S' = [] ++ [C]) := by
  refine fn_entry (args := [v1, v2]) Tryz.func162 rfl Tryz.ntmps162 rfl (fun w0 => ?_)
  refine c_seq ?_
  refine c_region ?_
  refine o_L (y_assign rfl) rfl rfl ?_
  refine o_nil0 rfl ?_
  refine c_seq ?_
  refine c_region ?_
  have ho1 : OwnC (rList rFile 57) C (.slice none 0 0) [] [] := OwnC.nil
  refine o_emp ?_
  refine o_L (y_assign rfl) rfl rfl ?_
  refine o_nil0 rfl ?_
  refine c_seq ?_
  refine c_seq ?_
  refine c_region ?_
  refine o_L (y_assign rfl) rfl rfl ?_
  refine o_nil0 rfl ?_
  obtain ⟨l2, c2, hj1, hm⟩ := bd2 hm
  refine c_joinP (n := 1) (fun sh G => ∃ (v4 : Value), ∃ (g2 : List Chunk), sh = [(5, v4), (6, .int .i64 c2)] ∧ G = [g2] ∧ OwnC (rList rFile 57) C v4 l2 g2) (s_take (s_take s_nil)) (.s .z) (fun _ _ h => h) ?_ ?_
  · skip
    refine c_block ?_
    refine c_loopP (n := 1) (fun mm sh G => ∃ (l1 : List (List File)), ∃ (c1 : Int), ∃ (v3 : Value), ∃ (g1 : List Chunk), sh = [(5, v3), (6, .int .i64 c1)] ∧ G = [g1] ∧ m162_w1 n n_ mm l1 c1 = some (l2, c2) ∧ OwnC (rList rFile 57) C v3 l1 g1) n (s_take (s_take s_nil)) (.s .z) ⟨_, _, ⟨_, _, (.slice none 0 0), _, rfl, rfl, hj1, ho1⟩, ⟨rfl, rfl, trivial⟩, _, (s_take (s_take s_nil))⟩ ?_
    rintro mm sh G ⟨l1, c1, v3, g1, rfl, rfl, hm, ho2⟩
    obtain ⟨mm1, rfl, hm⟩ := it2_s hm
    refine c_seq ?_
    refine c_seq ?_
    refine c_region ?_
    refine o_T (y_move rfl) rfl ?_
    refine o_T (y_move rfl) rfl ?_
    refine o_T (y_lenR hr1 Tryz.underlying55 rfl) rfl ?_
    refine o_T (y_lss rfl rfl) rfl ?_
    refine o_nil1 10 rfl rfl ?_
    refine c_cond rfl (fun h1 => ?_) (fun h1 => ?_)
    · have hm := cd_t h1 hm
      refine c_skip ?_
      refine c_seq ?_
      refine c_block ?_
      refine c_region ?_
      refine o_T (y_move rfl) rfl ?_
      refine o_T (y_move rfl) rfl ?_
      refine o_T (y_move rfl) rfl ?_
      obtain ⟨x1, hx1, hm⟩ := bd hm
      obtain ⟨b1, w1, cs1, y1, z1, vs1, hc1, ha1, hr3, hy1⟩ := hr1.ix hx1
      obtain ⟨v5, v6, rfl, hr4, hr5⟩ := hr3
      refine o_T (hy1 sl_55 rfl rfl rfl) rfl ?_
      refine o_T (y_fa fl_93_1 rfl) rfl ?_
      refine o_ld one_57 rfl (ms (mg hc1)) (At.getA (ha1.comp Node.a_files)) rfl ?_
      refine o_bs1 sz_251 rfl (cells1 hr4.pl) rfl rfl rfl rfl (fun b2 => ?_)
      obtain ⟨l3, hx2, hm⟩ := bd hm
      refine o_appRC (R := (rList rFile 57)) (a := x1.files) sz_251 rfl rfl rfl rfl ho2 ⟨_, rfl, hr4⟩ hx2 (s_get (ks k0) (s_take s_nil)) rfl (fun v7 g3 ho4 => ?_)
      refine o_L (y_assign rfl) rfl rfl ?_
      refine o_nil0 rfl ?_
      refine c_region ?_
      refine o_T (y_move rfl) rfl ?_
      refine o_T (y_add rfl rfl rfl) rfl ?_
      refine o_L (y_assign rfl) rfl rfl ?_
      refine o_nil0 rfl ?_
      exact ⟨mm1, Nat.lt_succ_self _, _, _, ⟨_, _, v7, _, rfl, rfl, hm, ho4⟩, ⟨rfl, rfl, trivial⟩, ⟨rfl, rfl⟩, _, (s_take (s_take s_nil))⟩
    · have hm := cd_f h1 hm
      refine c_exit ?_
      obtain ⟨rfl, rfl⟩ := pr2 hm
      exact ⟨_, _, ⟨v3, _, rfl, rfl, ho2⟩, ⟨rfl, rfl, trivial⟩, ⟨rfl, rfl⟩, _, (s_take (s_take s_nil))⟩
  · rintro sh G ⟨v4, g2, rfl, rfl, ho3⟩
    refine c_seq ?_
    refine c_region ?_
    refine o_T (y_move rfl) rfl ?_
    refine o_T (y_move rfl) rfl ?_
    refine o_bs1 sz_251 rfl (cells1 hr2.pl) rfl rfl rfl rfl (fun b3 => ?_)
    obtain ⟨l4, hx3, hm⟩ := bd hm
    refine o_appRC (R := (rList rFile 57)) (a := aux) sz_251 rfl rfl rfl rfl ho3 ⟨_, rfl, hr2⟩ hx3 (s_get (ks k0) (s_take s_nil)) rfl (fun v8 g4 ho5 => ?_)
    refine o_L (y_assign rfl) rfl rfl ?_
    refine o_nil0 rfl ?_
    refine c_seq ?_
    refine c_region ?_
    refine o_T (y_move rfl) rfl ?_
    obtain ⟨c3, hx4, hm⟩ := bd1 hm
    refine o_callC en_241 rfl s_nil (t241 (ho5.rd.mono (fun _ hz => (List.mem_append.1 hz).elim (fun hz => (mg hz)) (fun hz => (ms (mg hz))))) hx4) rfl (fun u1 S1 hR1 => ?_)
    obtain ⟨rfl, rfl⟩ := hR1
    refine o_rest ?_
    refine o_T (y_move rfl) rfl ?_
    refine o_T (y_lenR hr1 Tryz.underlying55 rfl) rfl ?_
    refine o_T (y_add rfl rfl rfl) rfl ?_
    refine o_T (y_add rfl rfl rfl) rfl ?_
    refine o_L (y_assign rfl) rfl rfl ?_
    refine o_nil0 rfl ?_
    refine c_ret ?_
    obtain rfl := p1 hm
    refine fun aX wX heX hsX => ret1 Tryz.results162 heX rfl (s_skip (s_take s_nil)) ?_
    exact ⟨rfl, rfl⟩
end Go.Proofs.Qxb6500350aGreat
