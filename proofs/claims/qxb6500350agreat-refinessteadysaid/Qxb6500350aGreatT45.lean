/- MADE BY PROGRAM (tools350/mir.py): mirror and walk. -/
import Derived.Test.Qxb6500350aGreatF2
set_option linter.unusedVariables false
set_option linter.unusedSimpArgs false
set_option maxRecDepth 20000
set_option maxHeartbeats 4000000
namespace Go.Proofs.Qxb6500350aGreat
open Go.Eng

def op_45_3 : Array Go.Oper := #[{ dst := some 12, op := Go.Op.move (Go.Operand.tmp 0), type := 27, pos := "devm.go:55", after := #[], guard := none }, { dst := some 13, op := Go.Op.nilCheck (Go.Operand.tmp 12), type := 0, pos := "devm.go:55", after := #[{ on := 0, ground := Go.Ground.data }], guard := none }, { dst := some 14, op := Go.Op.fieldAddr 85 (Go.Operand.tmp 13) 1, type := 0, pos := "devm.go:55", after := #[{ on := 1, ground := Go.Ground.data }], guard := none }, { dst := some 15, op := Go.Op.load 81 (Go.Operand.tmp 14), type := 81, pos := "devm.go:55", after := #[{ on := 2, ground := Go.Ground.data }], guard := none }, { dst := some 16, op := Go.Op.move (Go.Operand.tmp 2), type := 3, pos := "devm.go:55", after := #[], guard := none }, { dst := some 17, op := Go.Op.move (Go.Operand.tmp 0), type := 27, pos := "devm.go:55", after := #[], guard := none }, { dst := some 18, op := Go.Op.nilCheck (Go.Operand.tmp 17), type := 0, pos := "devm.go:55", after := #[{ on := 5, ground := Go.Ground.data }], guard := none }, { dst := some 19, op := Go.Op.fieldAddr 85 (Go.Operand.tmp 18) 0, type := 0, pos := "devm.go:55", after := #[{ on := 6, ground := Go.Ground.data }], guard := none }, { dst := some 20, op := Go.Op.load 81 (Go.Operand.tmp 19), type := 81, pos := "devm.go:55", after := #[{ on := 7, ground := Go.Ground.data }], guard := none }, { dst := some 21, op := Go.Op.move (Go.Operand.tmp 2), type := 3, pos := "devm.go:55", after := #[], guard := none }, { dst := some 22, op := Go.Op.indexAddr 81 (Go.Operand.tmp 20) (Go.Operand.tmp 21), type := 0, pos := "devm.go:55", after := #[{ on := 8, ground := Go.Ground.data }, { on := 9, ground := Go.Ground.data }], guard := none }, { dst := some 23, op := Go.Op.load 5 (Go.Operand.tmp 22), type := 5, pos := "devm.go:55", after := #[{ on := 10, ground := Go.Ground.data }], guard := none }, { dst := some 24, op := Go.Op.indexAddr 81 (Go.Operand.tmp 15) (Go.Operand.tmp 16), type := 0, pos := "devm.go:55", after := #[{ on := 3, ground := Go.Ground.data }, { on := 4, ground := Go.Ground.data }, { on := 0, ground := Go.Ground.phase }, { on := 1, ground := Go.Ground.phase }, { on := 2, ground := Go.Ground.phase }, { on := 3, ground := Go.Ground.phase }, { on := 4, ground := Go.Ground.phase }, { on := 5, ground := Go.Ground.phase }, { on := 6, ground := Go.Ground.phase }, { on := 7, ground := Go.Ground.phase }, { on := 8, ground := Go.Ground.phase }, { on := 9, ground := Go.Ground.phase }, { on := 10, ground := Go.Ground.phase }, { on := 11, ground := Go.Ground.phase }], guard := none }, { dst := none, op := Go.Op.store 5 (Go.Operand.tmp 24) (Go.Operand.tmp 23), type := 0, pos := "devm.go:55", after := #[{ on := 12, ground := Go.Ground.data }, { on := 11, ground := Go.Ground.data }, { on := 0, ground := Go.Ground.phase }, { on := 1, ground := Go.Ground.phase }, { on := 2, ground := Go.Ground.phase }, { on := 3, ground := Go.Ground.phase }, { on := 4, ground := Go.Ground.phase }, { on := 5, ground := Go.Ground.phase }, { on := 6, ground := Go.Ground.phase }, { on := 7, ground := Go.Ground.phase }, { on := 8, ground := Go.Ground.phase }, { on := 9, ground := Go.Ground.phase }, { on := 10, ground := Go.Ground.phase }, { on := 11, ground := Go.Ground.phase }], guard := none }]
theorem sb_45_3_0 : softB op_45_3 #[true, true, true, true, true, true, true, true, true, true, true, true, true, false] (Array.replicate 14 false) 0 = true := by kernel_rfl
theorem sb_45_3_1 : softB op_45_3 #[true, true, true, true, true, true, true, true, true, true, true, true, true, false] ((Array.replicate 14 false).setIfInBounds 0 true) 1 = true := by kernel_rfl
theorem sb_45_3_2 : softB op_45_3 #[true, true, true, true, true, true, true, true, true, true, true, true, true, false] (((Array.replicate 14 false).setIfInBounds 0 true).setIfInBounds 1 true) 2 = true := by kernel_rfl
theorem sb_45_3_3 : softB op_45_3 #[true, true, true, true, true, true, true, true, true, true, true, true, true, false] ((((Array.replicate 14 false).setIfInBounds 0 true).setIfInBounds 1 true).setIfInBounds 2 true) 3 = true := by kernel_rfl
theorem sb_45_3_4 : softB op_45_3 #[true, true, true, true, true, true, true, true, true, true, true, true, true, false] (((((Array.replicate 14 false).setIfInBounds 0 true).setIfInBounds 1 true).setIfInBounds 2 true).setIfInBounds 3 true) 4 = true := by kernel_rfl
theorem sb_45_3_5 : softB op_45_3 #[true, true, true, true, true, true, true, true, true, true, true, true, true, false] ((((((Array.replicate 14 false).setIfInBounds 0 true).setIfInBounds 1 true).setIfInBounds 2 true).setIfInBounds 3 true).setIfInBounds 4 true) 5 = true := by kernel_rfl
theorem sb_45_3_6 : softB op_45_3 #[true, true, true, true, true, true, true, true, true, true, true, true, true, false] (((((((Array.replicate 14 false).setIfInBounds 0 true).setIfInBounds 1 true).setIfInBounds 2 true).setIfInBounds 3 true).setIfInBounds 4 true).setIfInBounds 5 true) 6 = true := by kernel_rfl
theorem sb_45_3_7 : softB op_45_3 #[true, true, true, true, true, true, true, true, true, true, true, true, true, false] ((((((((Array.replicate 14 false).setIfInBounds 0 true).setIfInBounds 1 true).setIfInBounds 2 true).setIfInBounds 3 true).setIfInBounds 4 true).setIfInBounds 5 true).setIfInBounds 6 true) 7 = true := by kernel_rfl
theorem sb_45_3_8 : softB op_45_3 #[true, true, true, true, true, true, true, true, true, true, true, true, true, false] (((((((((Array.replicate 14 false).setIfInBounds 0 true).setIfInBounds 1 true).setIfInBounds 2 true).setIfInBounds 3 true).setIfInBounds 4 true).setIfInBounds 5 true).setIfInBounds 6 true).setIfInBounds 7 true) 8 = true := by kernel_rfl
theorem sb_45_3_9 : softB op_45_3 #[true, true, true, true, true, true, true, true, true, true, true, true, true, false] ((((((((((Array.replicate 14 false).setIfInBounds 0 true).setIfInBounds 1 true).setIfInBounds 2 true).setIfInBounds 3 true).setIfInBounds 4 true).setIfInBounds 5 true).setIfInBounds 6 true).setIfInBounds 7 true).setIfInBounds 8 true) 9 = true := by kernel_rfl
theorem sb_45_3_10 : softB op_45_3 #[true, true, true, true, true, true, true, true, true, true, true, true, true, false] (((((((((((Array.replicate 14 false).setIfInBounds 0 true).setIfInBounds 1 true).setIfInBounds 2 true).setIfInBounds 3 true).setIfInBounds 4 true).setIfInBounds 5 true).setIfInBounds 6 true).setIfInBounds 7 true).setIfInBounds 8 true).setIfInBounds 9 true) 10 = true := by kernel_rfl
theorem sb_45_3_11 : softB op_45_3 #[true, true, true, true, true, true, true, true, true, true, true, true, true, false] ((((((((((((Array.replicate 14 false).setIfInBounds 0 true).setIfInBounds 1 true).setIfInBounds 2 true).setIfInBounds 3 true).setIfInBounds 4 true).setIfInBounds 5 true).setIfInBounds 6 true).setIfInBounds 7 true).setIfInBounds 8 true).setIfInBounds 9 true).setIfInBounds 10 true) 11 = true := by kernel_rfl
theorem sb_45_3_12 : softB op_45_3 #[true, true, true, true, true, true, true, true, true, true, true, true, true, false] (((((((((((((Array.replicate 14 false).setIfInBounds 0 true).setIfInBounds 1 true).setIfInBounds 2 true).setIfInBounds 3 true).setIfInBounds 4 true).setIfInBounds 5 true).setIfInBounds 6 true).setIfInBounds 7 true).setIfInBounds 8 true).setIfInBounds 9 true).setIfInBounds 10 true).setIfInBounds 11 true) 12 = true := by kernel_rfl
theorem sb_45_3_13 : hardB op_45_3 ((((((((((((((Array.replicate 14 false).setIfInBounds 0 true).setIfInBounds 1 true).setIfInBounds 2 true).setIfInBounds 3 true).setIfInBounds 4 true).setIfInBounds 5 true).setIfInBounds 6 true).setIfInBounds 7 true).setIfInBounds 8 true).setIfInBounds 9 true).setIfInBounds 10 true).setIfInBounds 11 true).setIfInBounds 12 true) [13] = true := by kernel_rfl
theorem sb_45_3_14 : hardB op_45_3 (((((((((((((((Array.replicate 14 false).setIfInBounds 0 true).setIfInBounds 1 true).setIfInBounds 2 true).setIfInBounds 3 true).setIfInBounds 4 true).setIfInBounds 5 true).setIfInBounds 6 true).setIfInBounds 7 true).setIfInBounds 8 true).setIfInBounds 9 true).setIfInBounds 10 true).setIfInBounds 11 true).setIfInBounds 12 true).setIfInBounds 13 true) [] = true := by kernel_rfl
/- (*devm.Dev).Mark -/
def m45_w1 (n : Nat) (mm : Nat) : Int → Dev → Option (Int × Dev) := it2 (fun lp1 c1 z1 =>
cond (decide (c1 < (z1.blk.length : Int))) (
Option.bind (ixL z1.blk c1) fun x1 =>
Option.bind (ckA c1 (z1.base.length : Int)) fun _ =>
Option.bind (stL z1.base c1 x1) fun l1 =>
nm ({ z1 with base := l1 } : Dev) fun z4 =>
lp1 (wi (c1 + 1)) z4) (
some (c1, z1))) mm
def m45 (n : Nat) (d : Dev) : Option (Dev) :=
ob2 (m45_w1 n n 0 d) fun c2 z2 =>
nm ({ z2 with at_ := ([] : List Int) } : Dev) fun z5 =>
nm ({ z5 with data := ([] : List UInt8) } : Dev) fun z6 =>
some z6
theorem t45 {n : Nat} {C : List Chunk} {rz1 : Dev} {b1 : Nat} {d : Dev} {v1 : Value} {g1 : List Chunk} {v2 : Value} {g2 : List Chunk} {v3 : Value} {g3 : List Chunk} {v4 : Value} {g4 : List Chunk} (ho1 : Own rByte v1 d.blk g1) (ho2 : Own rByte v2 d.base g2) (ho3 : Own rInt v3 d.at_ g3) (ho4 : Own rByte v4 d.data g4)  (hm : m45 n d = some rz1) : Trip Tryz.prog 45 #[.pointer (some ⟨b1, 0, none⟩)] ([[(b1, .cells (Dev.enc (v1) (v2) (v3) (v4) d).toArray 85 (0, 0))], g1, g2, g3, g4] ++ [C]) (fun u S' => ∃ (ev1 : Value), ∃ (eg1 : List Chunk), ∃ (ev2 : Value), ∃ (eg2 : List Chunk), ∃ (ev3 : Value), ∃ (eg3 : List Chunk), ∃ (ev4 : Value), ∃ (eg4 : List Chunk), .tuple #[] = u ∧ S' = [[(b1, .cells (Dev.enc (ev1) (ev2) (ev3) (ev4) rz1).toArray 85 (0, 0))], eg1, eg2, eg3, eg4] ++ [C] ∧ Own rByte ev1 rz1.blk eg1 ∧ Own rByte ev2 rz1.base eg2 ∧ Own rInt ev3 rz1.at_ eg3 ∧ Own rByte ev4 rz1.data eg4) := by
  refine fn_entry (args := [.pointer (some ⟨b1, 0, none⟩)]) Tryz.func45 rfl Tryz.ntmps45 rfl (fun w0 => ?_)
  refine c_seq ?_
  refine c_seq ?_
  refine c_region ?_
  refine o_L (y_assign rfl) rfl rfl ?_
  refine o_nil0 rfl ?_
  obtain ⟨c2, z2, hj1, hm⟩ := bd2 hm
  refine c_joinP (n := 5) (fun sh G => ∃ (v9 : Value), ∃ (g9 : List Chunk), ∃ (v10 : Value), ∃ (g10 : List Chunk), ∃ (v11 : Value), ∃ (g11 : List Chunk), ∃ (v12 : Value), ∃ (g12 : List Chunk), sh = [(2, .int .i64 c2)] ∧ G = [[(b1, .cells (Dev.enc (v9) (v10) (v11) (v12) z2).toArray 85 (0, 0))], g9, g10, g11, g12] ∧ Own rByte v9 z2.blk g9 ∧ Own rByte v10 z2.base g10 ∧ Own rInt v11 z2.at_ g11 ∧ Own rByte v12 z2.data g12) (s_take (s_take (s_take (s_take (s_take (s_take s_nil)))))) (.s (.s (.s (.s (.s .z))))) (fun _ _ h => h) ?_ ?_
  · skip
    refine c_block ?_
    refine c_loopP (n := 5) (fun mm sh G => ∃ (c1 : Int), ∃ (z1 : Dev), ∃ (v5 : Value), ∃ (g5 : List Chunk), ∃ (v6 : Value), ∃ (g6 : List Chunk), ∃ (v7 : Value), ∃ (g7 : List Chunk), ∃ (v8 : Value), ∃ (g8 : List Chunk), sh = [(2, .int .i64 c1)] ∧ G = [[(b1, .cells (Dev.enc (v5) (v6) (v7) (v8) z1).toArray 85 (0, 0))], g5, g6, g7, g8] ∧ m45_w1 n mm c1 z1 = some (c2, z2) ∧ Own rByte v5 z1.blk g5 ∧ Own rByte v6 z1.base g6 ∧ Own rInt v7 z1.at_ g7 ∧ Own rByte v8 z1.data g8) n (s_take (s_take (s_take (s_take (s_take (s_take s_nil)))))) (.s (.s (.s (.s (.s .z))))) ⟨_, _, ⟨_, _, v1, _, v2, _, v3, _, v4, _, rfl, rfl, hj1, ho1, ho2, ho3, ho4⟩, ⟨rfl, trivial⟩, _, (s_take (s_take (s_take (s_take (s_take (s_take s_nil))))))⟩ ?_
    rintro mm sh G ⟨c1, z1, v5, g5, v6, g6, v7, g7, v8, g8, rfl, rfl, hm, ho5, ho6, ho7, ho8⟩
    obtain ⟨mm1, rfl, hm⟩ := it2_s hm
    refine c_seq ?_
    refine c_seq ?_
    refine c_region ?_
    refine o_T (y_move rfl) rfl ?_
    refine o_T (y_move rfl) rfl ?_
    refine o_T (y_nilck rfl) rfl ?_
    refine o_T (y_fa fl_85_0 rfl) rfl ?_
    refine o_ld one_81 rfl m0 (At.got (At.refl.comp Dev.a_blk)) rfl ?_
    refine o_T (y_lenR ho5.rd Tryz.underlying81 rfl) rfl ?_
    refine o_T (y_lss rfl rfl) rfl ?_
    refine o_nil1 9 rfl rfl ?_
    refine c_cond rfl (fun h1 => ?_) (fun h1 => ?_)
    · have hm := cd_t h1 hm
      refine c_skip ?_
      refine c_seq ?_
      refine c_block ?_
      refine c_draw #[true, true, true, true, true, true, true, true, true, true, true, true, true, false] rfl (n := 14) rfl ?_
      refine d_T 0 rfl sb_45_3_0 rfl (y_move rfl) rfl ?_
      refine d_T 1 rfl sb_45_3_1 rfl (y_nilck rfl) rfl ?_
      refine d_T 2 rfl sb_45_3_2 rfl (y_fa fl_85_1 rfl) rfl ?_
      refine d_ld 3 rfl sb_45_3_3 one_81 rfl (fun x hx => hx) m0 (At.got (At.refl.comp Dev.a_base)) rfl ?_
      refine d_T 4 rfl sb_45_3_4 rfl (y_move rfl) rfl ?_
      refine d_T 5 rfl sb_45_3_5 rfl (y_move rfl) rfl ?_
      refine d_T 6 rfl sb_45_3_6 rfl (y_nilck rfl) rfl ?_
      refine d_T 7 rfl sb_45_3_7 rfl (y_fa fl_85_0 rfl) rfl ?_
      refine d_ld 8 rfl sb_45_3_8 one_81 rfl (fun x hx => hx) m0 (At.got (At.refl.comp Dev.a_blk)) rfl ?_
      refine d_T 9 rfl sb_45_3_9 rfl (y_move rfl) rfl ?_
      obtain ⟨x1, hx1, hm⟩ := bd hm
      obtain ⟨b2, w1, cs1, y1, z3, vs1, hc1, ha1, hr1, hy1⟩ := ho5.rd.ix hx1
      obtain rfl : vs1 = (enc8 x1) := hr1
      refine d_T 10 rfl sb_45_3_10 rfl (hy1 sl_81 rfl rfl rfl) rfl ?_
      refine d_ld 11 rfl sb_45_3_11 one_5 rfl (fun x hx => hx) (ms (mg hc1)) (At.getA (ha1)) rfl ?_
      obtain ⟨_, hi1, hm⟩ := bd hm
      have hi1 := ckA_some hi1
      obtain ⟨b3, cp1, hv1, hy2⟩ := ho6.ix hi1
      refine d_T 12 rfl sb_45_3_12 rfl (hy2 sl_81 rfl rfl rfl) rfl ?_
      refine d_hard 13 rfl sb_45_3_13 ?_
      obtain ⟨l1, hx3, hm⟩ := bd hm
      refine o_stO1 one_5 rfl rfl rfl rfl ho6 hv1 hx3 (fun _ => (qs (qs q0))) (fun g13 ho13 => ?_)
      obtain ⟨z4, hn1, hm⟩ := nm_s hm
      have ho14 := ho5.to (l' := z4.blk) (by subst hn1; rfl)
      have ho15 := ho13.to (l' := z4.base) (by subst hn1; rfl)
      have ho16 := ho7.to (l' := z4.at_) (by subst hn1; rfl)
      have ho17 := ho8.to (l' := z4.data) (by subst hn1; rfl)
      refine o_row' (g' := [(b1, Obj.cells (Dev.enc (v5) (v6) (v7) (v8) z4).toArray 85 (0, 0))]) q0 (by subst hn1; rfl) ?_
      refine o_stop (fun h => nomatch h) ?_
      refine d_nil0 sb_45_3_14 rfl ?_
      refine c_region ?_
      refine o_T (y_move rfl) rfl ?_
      refine o_T (y_add rfl rfl rfl) rfl ?_
      refine o_L (y_assign rfl) rfl rfl ?_
      refine o_nil0 rfl ?_
      exact ⟨mm1, Nat.lt_succ_self _, _, _, ⟨_, _, v5, _, v6, _, v7, _, v8, _, rfl, rfl, hm, ho14, ho15, ho16, ho17⟩, ⟨rfl, trivial⟩, ⟨rfl, rfl⟩, _, (s_take (s_take (s_take (s_take (s_take (s_take s_nil))))))⟩
    · have hm := cd_f h1 hm
      refine c_exit ?_
      obtain ⟨rfl, rfl⟩ := pr2 hm
      exact ⟨_, _, ⟨v5, _, v6, _, v7, _, v8, _, rfl, rfl, ho5, ho6, ho7, ho8⟩, ⟨rfl, trivial⟩, ⟨rfl, rfl⟩, _, (s_take (s_take (s_take (s_take (s_take (s_take s_nil))))))⟩
  · rintro sh G ⟨v9, g9, v10, g10, v11, g11, v12, g12, rfl, rfl, ho9, ho10, ho11, ho12⟩
    refine c_seq ?_
    refine c_region ?_
    refine o_T (y_move rfl) rfl ?_
    refine o_T (y_nilck rfl) rfl ?_
    refine o_T (y_fa fl_85_2 rfl) rfl ?_
    have ho18 : Own rInt (.slice none 0 0) [] [] := Own.nil
    refine o_emp ?_
    obtain ⟨z5, hn2, hm⟩ := nm_s hm
    have ho19 := ho9.to (l' := z5.blk) (by subst hn2; rfl)
    have ho20 := ho10.to (l' := z5.base) (by subst hn2; rfl)
    have ho21 := ho18.to (l' := z5.at_) (by subst hn2; rfl)
    have ho22 := ho12.to (l' := z5.data) (by subst hn2; rfl)
    refine o_stN one_65 rfl rfl ho18.pl (Upd.z Dev.u_at_) (rs r0) (show (Dev.enc (v9) (v10) ((.slice none 0 0)) (v12) z5) = _ from by subst hn2; rfl) ?_
    refine o_nil0 rfl ?_
    refine c_region ?_
    refine o_T (y_move rfl) rfl ?_
    refine o_T (y_nilck rfl) rfl ?_
    refine o_T (y_fa fl_85_3 rfl) rfl ?_
    have ho23 : Own rByte (.slice none 0 0) [] [] := Own.nil
    refine o_emp ?_
    obtain ⟨z6, hn3, hm⟩ := nm_s hm
    have ho24 := ho19.to (l' := z6.blk) (by subst hn3; rfl)
    have ho25 := ho20.to (l' := z6.base) (by subst hn3; rfl)
    have ho26 := ho21.to (l' := z6.at_) (by subst hn3; rfl)
    have ho27 := ho23.to (l' := z6.data) (by subst hn3; rfl)
    refine o_stN one_81 rfl rfl ho23.pl (Upd.z Dev.u_data) (rs (rs r0)) (show (Dev.enc (v9) (v10) ((.slice none 0 0)) ((.slice none 0 0)) z6) = _ from by subst hn3; rfl) ?_
    refine o_nil0 rfl ?_
    obtain rfl := p1 hm
    refine fun aX wX heX hsX => ret0 Tryz.results45 (s_get (ks (ks k0)) (s_get (ks (ks k0)) (s_get (ks (ks k0)) (s_get (ks k0) (s_take (s_skip (s_skip (s_take s_nil)))))))) ?_
    exact ⟨v9, _, v10, _, (.slice none 0 0), _, (.slice none 0 0), _, rfl, rfl, ho24, ho25, ho26, ho27⟩
end Go.Proofs.Qxb6500350aGreat
