/- MADE BY PROGRAM (tools350/mir.py): mirror and walk. -/
import Derived.Test.Qxb6500350aGreatF2
set_option linter.unusedVariables false
set_option linter.unusedSimpArgs false
set_option maxRecDepth 20000
set_option maxHeartbeats 4000000
namespace Go.Proofs.Qxb6500350aGreat
open Go.Eng

/- (*index.Index).reset -/
def m171_w1 (n : Nat) (mm : Nat) : Int → Index → Option (Int × Index) := it2 (fun lp1 c1 z1 =>
cond (decide (c1 < 49)) (
Option.bind (ckA c1 49) fun _ =>
nm ({ z1 with pool := (upI z1.pool c1 Nod.zero) } : Index) fun z3 =>
lp1 (wi (c1 + 1)) z3) (
some (c1, z1))) mm
def m171_w2 (n : Nat) (mm : Nat) : Int → Index → Option (Int × Index) := it2 (fun lp2 c3 z4 =>
cond (decide (c3 < 48)) (
Option.bind (ckA c3 49) fun _ =>
nm ({ z4 with pool := (upI z4.pool c3 { (z4.pool c3) with nxt := (wi (c3 + 1)) }) } : Index) fun z6 =>
lp2 (wi (c3 + 1)) z6) (
some (c3, z4))) mm
def m171 (n : Nat) (x : Index) : Option (Index) :=
ob2 (m171_w1 n n 0 x) fun c2 z2 =>
ob2 (m171_w2 n n 1 z2) fun c4 z5 =>
nm ({ z5 with free := 1 } : Index) fun z7 =>
nm ({ z7 with files := 0 } : Index) fun z8 =>
some z8
theorem t171 {n : Nat} {C : List Chunk} {rz1 : Index} {b1 : Nat} {x : Index}   (hm : m171 n x = some rz1) : Trip Tryz.prog 171 #[.pointer (some ⟨b1, 0, none⟩)] ([[(b1, .cells (Index.enc x).toArray 184 (0, 0))]] ++ [C]) (fun u S' => .tuple #[] = u ∧ S' = [[(b1, .cells (Index.enc rz1).toArray 184 (0, 0))]] ++ [C]) := by
  refine fn_entry (args := [.pointer (some ⟨b1, 0, none⟩)]) Tryz.func171 rfl Tryz.ntmps171 rfl (fun w0 => ?_)
  refine c_seq ?_
  refine c_seq ?_
  refine c_region ?_
  refine o_L (y_assign rfl) rfl rfl ?_
  refine o_nil0 rfl ?_
  obtain ⟨c2, z2, hj1, hm⟩ := bd2 hm
  refine c_joinP (n := 1) (fun sh G => sh = [(2, .int .i64 c2)] ∧ G = [[(b1, .cells (Index.enc z2).toArray 184 (0, 0))]]) (s_take (s_take s_nil)) (.s .z) (fun _ _ h => h) ?_ ?_
  · skip
    refine c_block ?_
    refine c_loopP (n := 1) (fun mm sh G => ∃ (c1 : Int), ∃ (z1 : Index), sh = [(2, .int .i64 c1)] ∧ G = [[(b1, .cells (Index.enc z1).toArray 184 (0, 0))]] ∧ m171_w1 n mm c1 z1 = some (c2, z2)) n (s_take (s_take s_nil)) (.s .z) ⟨_, _, ⟨_, _, rfl, rfl, hj1⟩, ⟨rfl, trivial⟩, _, (s_take (s_take s_nil))⟩ ?_
    rintro mm sh G ⟨c1, z1, rfl, rfl, hm⟩
    obtain ⟨mm1, rfl, hm⟩ := it2_s hm
    refine c_seq ?_
    refine c_seq ?_
    refine c_region ?_
    refine o_T (y_move rfl) rfl ?_
    refine o_T (y_lss rfl rfl) rfl ?_
    refine o_nil1 5 rfl rfl ?_
    refine c_cond rfl (fun h1 => ?_) (fun h1 => ?_)
    · have hm := cd_t h1 hm
      refine c_skip ?_
      refine c_seq ?_
      refine c_block ?_
      refine c_region ?_
      refine o_T (y_move rfl) rfl ?_
      refine o_T (y_move rfl) rfl ?_
      refine o_T (y_build st_181 rfl fbU0) rfl ?_
      refine o_T (y_nilck rfl) rfl ?_
      refine o_T (y_fa fl_184_0 rfl) rfl ?_
      obtain ⟨_, hx1, hm⟩ := bd hm
      have hx1 := ckA_some hx1
      refine o_T (y_ia ar_182 rfl rfl hx1.1 hx1.2) rfl ?_
      obtain ⟨z3, hn1, hm⟩ := nm_s hm
      refine o_stNA ag_181 rfl rfl (Nod.plain _) (Nod.len _) ((Upd.z Index.u_pool).comp (encN_u Nod.len _ _ _ hx1.1 _ hx1.2)) r0 (show (Index.enc z3) = _ from by subst hn1; rfl) ?_
      refine o_nil0 rfl ?_
      refine c_region ?_
      refine o_T (y_move rfl) rfl ?_
      refine o_T (y_add rfl rfl rfl) rfl ?_
      refine o_L (y_assign rfl) rfl rfl ?_
      refine o_nil0 rfl ?_
      exact ⟨mm1, Nat.lt_succ_self _, _, _, ⟨_, _, rfl, rfl, hm⟩, ⟨rfl, trivial⟩, ⟨rfl, rfl⟩, _, (s_take (s_take s_nil))⟩
    · have hm := cd_f h1 hm
      refine c_exit ?_
      obtain ⟨rfl, rfl⟩ := pr2 hm
      exact ⟨_, _, ⟨rfl, rfl⟩, ⟨rfl, trivial⟩, ⟨rfl, rfl⟩, _, (s_take (s_take s_nil))⟩
  · rintro sh G ⟨rfl, rfl⟩
    refine c_seq ?_
    refine c_seq ?_
    refine c_region ?_
    refine o_L (y_assign rfl) rfl rfl ?_
    refine o_nil0 rfl ?_
    obtain ⟨c4, z5, hj2, hm⟩ := bd2 hm
    refine c_joinP (n := 1) (fun sh G => sh = [(3, .int .i64 c4)] ∧ G = [[(b1, .cells (Index.enc z5).toArray 184 (0, 0))]]) (s_take (s_take s_nil)) (.s .z) (fun _ _ h => h) ?_ ?_
    · skip
      refine c_block ?_
      refine c_loopP (n := 1) (fun mm sh G => ∃ (c3 : Int), ∃ (z4 : Index), sh = [(3, .int .i64 c3)] ∧ G = [[(b1, .cells (Index.enc z4).toArray 184 (0, 0))]] ∧ m171_w2 n mm c3 z4 = some (c4, z5)) n (s_take (s_take s_nil)) (.s .z) ⟨_, _, ⟨_, _, rfl, rfl, hj2⟩, ⟨rfl, trivial⟩, _, (s_take (s_take s_nil))⟩ ?_
      rintro mm sh G ⟨c3, z4, rfl, rfl, hm⟩
      obtain ⟨mm2, rfl, hm⟩ := it2_s hm
      refine c_seq ?_
      refine c_seq ?_
      refine c_region ?_
      refine o_T (y_move rfl) rfl ?_
      refine o_T (y_lss rfl rfl) rfl ?_
      refine o_nil1 15 rfl rfl ?_
      refine c_cond rfl (fun h2 => ?_) (fun h2 => ?_)
      · have hm := cd_t h2 hm
        refine c_skip ?_
        refine c_seq ?_
        refine c_block ?_
        refine c_region ?_
        refine o_T (y_move rfl) rfl ?_
        refine o_T (y_move rfl) rfl ?_
        refine o_T (y_move rfl) rfl ?_
        refine o_T (y_add rfl rfl rfl) rfl ?_
        refine o_T (y_nilck rfl) rfl ?_
        refine o_T (y_fa fl_184_0 rfl) rfl ?_
        obtain ⟨_, hx2, hm⟩ := bd hm
        have hx2 := ckA_some hx2
        refine o_T (y_ia ar_182 rfl rfl hx2.1 hx2.2) rfl ?_
        refine o_T (y_fa fl_181_2 rfl) rfl ?_
        obtain ⟨z6, hn2, hm⟩ := nm_s hm
        refine o_stN one_3 rfl rfl rfl (((Upd.z Index.u_pool).comp (encN_u Nod.len _ _ _ hx2.1 _ hx2.2)).comp Nod.u_nxt) r0 (show (Index.enc z6) = _ from by subst hn2; rfl) ?_
        refine o_nil0 rfl ?_
        refine c_region ?_
        refine o_T (y_move rfl) rfl ?_
        refine o_T (y_add rfl rfl rfl) rfl ?_
        refine o_L (y_assign rfl) rfl rfl ?_
        refine o_nil0 rfl ?_
        exact ⟨mm2, Nat.lt_succ_self _, _, _, ⟨_, _, rfl, rfl, hm⟩, ⟨rfl, trivial⟩, ⟨rfl, rfl⟩, _, (s_take (s_take s_nil))⟩
      · have hm := cd_f h2 hm
        refine c_exit ?_
        obtain ⟨rfl, rfl⟩ := pr2 hm
        exact ⟨_, _, ⟨rfl, rfl⟩, ⟨rfl, trivial⟩, ⟨rfl, rfl⟩, _, (s_take (s_take s_nil))⟩
    · rintro sh G ⟨rfl, rfl⟩
      refine c_seq ?_
      refine c_region ?_
      refine o_T (y_move rfl) rfl ?_
      refine o_T (y_nilck rfl) rfl ?_
      refine o_T (y_fa fl_184_1 rfl) rfl ?_
      obtain ⟨z7, hn3, hm⟩ := nm_s hm
      refine o_stN one_3 rfl rfl rfl (Upd.z Index.u_free) r0 (show (Index.enc z7) = _ from by subst hn3; rfl) ?_
      refine o_nil0 rfl ?_
      refine c_region ?_
      refine o_T (y_move rfl) rfl ?_
      refine o_T (y_nilck rfl) rfl ?_
      refine o_T (y_fa fl_184_2 rfl) rfl ?_
      obtain ⟨z8, hn4, hm⟩ := nm_s hm
      refine o_stN one_3 rfl rfl rfl (Upd.z Index.u_files) r0 (show (Index.enc z8) = _ from by subst hn4; rfl) ?_
      refine o_nil0 rfl ?_
      obtain rfl := p1 hm
      refine fun aX wX heX hsX => ret0 Tryz.results171 (s_take (s_take s_nil)) ?_
      exact ⟨rfl, rfl⟩
end Go.Proofs.Qxb6500350aGreat
