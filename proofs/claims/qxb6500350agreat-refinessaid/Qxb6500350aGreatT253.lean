/- MADE BY PROGRAM (tools350/mir.py): mirror and walk. -/
import Derived.Test.Qxb6500350aGreatF2
set_option linter.unusedVariables false
set_option linter.unusedSimpArgs false
set_option maxRecDepth 20000
set_option maxHeartbeats 4000000
namespace Go.Proofs.Qxb6500350aGreat
open Go.Eng

/- (*diff.Engine).reset -/
def m253_w1 (n : Nat) (mm : Nat) : Int → Engine → Option (Int × Engine) := it2 (fun lp1 c1 z1 =>
cond (decide (c1 < 8)) (
Option.bind (ckA c1 8) fun _ =>
nm ({ z1 with head := (upI z1.head c1 0) } : Engine) fun z3 =>
lp1 (wi (c1 + 1)) z3) (
some (c1, z1))) mm
def m253 (n : Nat) (e : Engine) : Option (Engine) :=
ob2 (m253_w1 n n 0 e) fun c2 z2 =>
nm ({ z2 with line_ := ([] : List Str) } : Engine) fun z4 =>
nm ({ z4 with sum := ([] : List Int) } : Engine) fun z5 =>
nm ({ z5 with nxt := ([] : List Int) } : Engine) fun z6 =>
some z6
theorem t253 {n : Nat} {C : List Chunk} {rz1 : Engine} {b1 : Nat} {e : Engine} {v1 : Value} {g1 : List Chunk} {v2 : Value} {g2 : List Chunk} {v3 : Value} {g3 : List Chunk} (ho1 : Own rStr v1 e.line_ g1) (ho2 : Own rInt v2 e.sum g2) (ho3 : Own rInt v3 e.nxt g3)  (hm : m253 n e = some rz1) : Trip Tryz.prog 253 #[.pointer (some ⟨b1, 0, none⟩)] ([[(b1, .cells (Engine.enc (v1) (v2) (v3) e).toArray 187 (0, 0))], g1, g2, g3] ++ [C]) (fun u S' => ∃ (ev1 : Value), ∃ (eg1 : List Chunk), ∃ (ev2 : Value), ∃ (eg2 : List Chunk), ∃ (ev3 : Value), ∃ (eg3 : List Chunk), .tuple #[] = u ∧ S' = [[(b1, .cells (Engine.enc (ev1) (ev2) (ev3) rz1).toArray 187 (0, 0))], eg1, eg2, eg3] ++ [C] ∧ Own rStr ev1 rz1.line_ eg1 ∧ Own rInt ev2 rz1.sum eg2 ∧ Own rInt ev3 rz1.nxt eg3) := by
  refine fn_entry (args := [.pointer (some ⟨b1, 0, none⟩)]) Tryz.func253 rfl Tryz.ntmps253 rfl (fun w0 => ?_)
  refine c_seq ?_
  refine c_seq ?_
  refine c_region ?_
  refine o_L (y_assign rfl) rfl rfl ?_
  refine o_nil0 rfl ?_
  obtain ⟨c2, z2, hj1, hm⟩ := bd2 hm
  refine c_joinP (n := 4) (fun sh G => ∃ (v7 : Value), ∃ (g7 : List Chunk), ∃ (v8 : Value), ∃ (g8 : List Chunk), ∃ (v9 : Value), ∃ (g9 : List Chunk), sh = [(2, .int .i64 c2)] ∧ G = [[(b1, .cells (Engine.enc (v7) (v8) (v9) z2).toArray 187 (0, 0))], g7, g8, g9] ∧ Own rStr v7 z2.line_ g7 ∧ Own rInt v8 z2.sum g8 ∧ Own rInt v9 z2.nxt g9) (s_take (s_take (s_take (s_take (s_take s_nil))))) (.s (.s (.s (.s .z)))) (fun _ _ h => h) ?_ ?_
  · skip
    refine c_block ?_
    refine c_loopP (n := 4) (fun mm sh G => ∃ (c1 : Int), ∃ (z1 : Engine), ∃ (v4 : Value), ∃ (g4 : List Chunk), ∃ (v5 : Value), ∃ (g5 : List Chunk), ∃ (v6 : Value), ∃ (g6 : List Chunk), sh = [(2, .int .i64 c1)] ∧ G = [[(b1, .cells (Engine.enc (v4) (v5) (v6) z1).toArray 187 (0, 0))], g4, g5, g6] ∧ m253_w1 n mm c1 z1 = some (c2, z2) ∧ Own rStr v4 z1.line_ g4 ∧ Own rInt v5 z1.sum g5 ∧ Own rInt v6 z1.nxt g6) n (s_take (s_take (s_take (s_take (s_take s_nil))))) (.s (.s (.s (.s .z)))) ⟨_, _, ⟨_, _, v1, _, v2, _, v3, _, rfl, rfl, hj1, ho1, ho2, ho3⟩, ⟨rfl, trivial⟩, _, (s_take (s_take (s_take (s_take (s_take s_nil)))))⟩ ?_
    rintro mm sh G ⟨c1, z1, v4, g4, v5, g5, v6, g6, rfl, rfl, hm, ho4, ho5, ho6⟩
    obtain ⟨mm1, rfl, hm⟩ := it2_s hm
    refine c_seq ?_
    refine c_seq ?_
    refine c_region ?_
    refine o_T (y_move rfl) rfl ?_
    refine o_T (y_lss rfl rfl) rfl ?_
    refine o_nil1 4 rfl rfl ?_
    refine c_cond rfl (fun h1 => ?_) (fun h1 => ?_)
    · have hm := cd_t h1 hm
      refine c_skip ?_
      refine c_seq ?_
      refine c_block ?_
      refine c_region ?_
      refine o_T (y_move rfl) rfl ?_
      refine o_T (y_move rfl) rfl ?_
      refine o_T (y_nilck rfl) rfl ?_
      refine o_T (y_fa fl_187_0 rfl) rfl ?_
      obtain ⟨_, hx1, hm⟩ := bd hm
      have hx1 := ckA_some hx1
      refine o_T (y_ia ar_122 rfl rfl hx1.1 hx1.2) rfl ?_
      obtain ⟨z3, hn1, hm⟩ := nm_s hm
      have ho10 := ho4.to (l' := z3.line_) (by subst hn1; rfl)
      have ho11 := ho5.to (l' := z3.sum) (by subst hn1; rfl)
      have ho12 := ho6.to (l' := z3.nxt) (by subst hn1; rfl)
      refine o_stN one_3 rfl rfl rfl ((Upd.z Engine.u_head).comp (encN_u encI_len _ _ _ hx1.1 _ hx1.2)) r0 (show (Engine.enc (v4) (v5) (v6) z3) = _ from by subst hn1; rfl) ?_
      refine o_nil0 rfl ?_
      refine c_region ?_
      refine o_T (y_move rfl) rfl ?_
      refine o_T (y_add rfl rfl rfl) rfl ?_
      refine o_L (y_assign rfl) rfl rfl ?_
      refine o_nil0 rfl ?_
      exact ⟨mm1, Nat.lt_succ_self _, _, _, ⟨_, _, v4, _, v5, _, v6, _, rfl, rfl, hm, ho10, ho11, ho12⟩, ⟨rfl, trivial⟩, ⟨rfl, rfl⟩, _, (s_take (s_take (s_take (s_take (s_take s_nil)))))⟩
    · have hm := cd_f h1 hm
      refine c_exit ?_
      obtain ⟨rfl, rfl⟩ := pr2 hm
      exact ⟨_, _, ⟨v4, _, v5, _, v6, _, rfl, rfl, ho4, ho5, ho6⟩, ⟨rfl, trivial⟩, ⟨rfl, rfl⟩, _, (s_take (s_take (s_take (s_take (s_take s_nil)))))⟩
  · rintro sh G ⟨v7, g7, v8, g8, v9, g9, rfl, rfl, ho7, ho8, ho9⟩
    refine c_seq ?_
    refine c_region ?_
    refine o_T (y_move rfl) rfl ?_
    refine o_T (y_move rfl) rfl ?_
    refine o_T (y_nilck rfl) rfl ?_
    refine o_T (y_fa fl_187_1 rfl) rfl ?_
    refine o_ld one_185 rfl m0 (At.got (At.refl.comp Engine.a_line_)) rfl ?_
    obtain ⟨v10, ho13, hy1⟩ := ho7.cut0
    refine o_T (hy1 sl_185 rfl rfl) rfl ?_
    refine o_T (y_nilck rfl) rfl ?_
    refine o_T (y_fa fl_187_1 rfl) rfl ?_
    obtain ⟨z4, hn2, hm⟩ := nm_s hm
    have ho14 := ho13.to (l' := z4.line_) (by subst hn2; rfl)
    have ho15 := ho8.to (l' := z4.sum) (by subst hn2; rfl)
    have ho16 := ho9.to (l' := z4.nxt) (by subst hn2; rfl)
    refine o_stN one_185 rfl rfl ho13.pl (Upd.z Engine.u_line_) r0 (show (Engine.enc (v10) (v8) (v9) z4) = _ from by subst hn2; rfl) ?_
    refine o_nil0 rfl ?_
    refine c_seq ?_
    refine c_region ?_
    refine o_T (y_move rfl) rfl ?_
    refine o_T (y_move rfl) rfl ?_
    refine o_T (y_nilck rfl) rfl ?_
    refine o_T (y_fa fl_187_2 rfl) rfl ?_
    refine o_ld one_65 rfl m0 (At.got (At.refl.comp Engine.a_sum)) rfl ?_
    obtain ⟨v11, ho17, hy2⟩ := ho15.cut0
    refine o_T (hy2 sl_65 rfl rfl) rfl ?_
    refine o_T (y_nilck rfl) rfl ?_
    refine o_T (y_fa fl_187_2 rfl) rfl ?_
    obtain ⟨z5, hn3, hm⟩ := nm_s hm
    have ho18 := ho14.to (l' := z5.line_) (by subst hn3; rfl)
    have ho19 := ho17.to (l' := z5.sum) (by subst hn3; rfl)
    have ho20 := ho16.to (l' := z5.nxt) (by subst hn3; rfl)
    refine o_stN one_65 rfl rfl ho17.pl (Upd.z Engine.u_sum) r0 (show (Engine.enc (v10) (v11) (v9) z5) = _ from by subst hn3; rfl) ?_
    refine o_nil0 rfl ?_
    refine c_region ?_
    refine o_T (y_move rfl) rfl ?_
    refine o_T (y_move rfl) rfl ?_
    refine o_T (y_nilck rfl) rfl ?_
    refine o_T (y_fa fl_187_3 rfl) rfl ?_
    refine o_ld one_65 rfl m0 (At.got (At.refl.comp Engine.a_nxt)) rfl ?_
    obtain ⟨v12, ho21, hy3⟩ := ho20.cut0
    refine o_T (hy3 sl_65 rfl rfl) rfl ?_
    refine o_T (y_nilck rfl) rfl ?_
    refine o_T (y_fa fl_187_3 rfl) rfl ?_
    obtain ⟨z6, hn4, hm⟩ := nm_s hm
    have ho22 := ho18.to (l' := z6.line_) (by subst hn4; rfl)
    have ho23 := ho19.to (l' := z6.sum) (by subst hn4; rfl)
    have ho24 := ho21.to (l' := z6.nxt) (by subst hn4; rfl)
    refine o_stN one_65 rfl rfl ho21.pl (Upd.z Engine.u_nxt) r0 (show (Engine.enc (v10) (v11) (v12) z6) = _ from by subst hn4; rfl) ?_
    refine o_nil0 rfl ?_
    obtain rfl := p1 hm
    refine fun aX wX heX hsX => ret0 Tryz.results253 (s_take (s_take (s_take (s_take (s_take s_nil))))) ?_
    exact ⟨v10, _, v11, _, v12, _, rfl, rfl, ho22, ho23, ho24⟩
end Go.Proofs.Qxb6500350aGreat
