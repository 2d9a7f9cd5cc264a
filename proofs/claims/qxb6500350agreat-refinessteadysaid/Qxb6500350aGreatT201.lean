/- MADE BY PROGRAM (tools350/mir.py): mirror and walk. -/
import Derived.Test.Qxb6500350aGreatF2
set_option linter.unusedVariables false
set_option linter.unusedSimpArgs false
set_option maxRecDepth 20000
set_option maxHeartbeats 4000000
namespace Go.Proofs.Qxb6500350aGreat
open Go.Eng

/- (*index.tally).meet -/
def m201 (n : Nat) (ta : Tally) (c_ : Int) : Option (Tally) :=
ob1 (cond (decide (c_ ≤ 0)) (some (true)) (cond (decide ((49 : Int) ≤ c_)) (some (true)) (Option.bind (ckA c_ 49) fun _ =>
some ((ta.seen c_))))) fun c1 =>
cond c1 (
nm ({ ta with bad := true } : Tally) fun z1 =>
some z1) (
Option.bind (ckA c_ 49) fun _ =>
nm ({ ta with seen := (upI ta.seen c_ true) } : Tally) fun z2 =>
some z2)
theorem t201 {n : Nat} {C : List Chunk} {rz1 : Tally} {b1 : Nat} {ta : Tally} {c_ : Int}   (hm : m201 n ta c_ = some rz1) : Trip Tryz.prog 201 #[.pointer (some ⟨b1, 0, none⟩), .int .i64 c_] ([[(b1, .cells (Tally.enc ta).toArray 217 (0, 0))]] ++ [C]) (fun u S' => .tuple #[] = u ∧ S' = [[(b1, .cells (Tally.enc rz1).toArray 217 (0, 0))]] ++ [C]) := by
  refine fn_entry (args := [.pointer (some ⟨b1, 0, none⟩), .int .i64 c_]) Tryz.func201 rfl Tryz.ntmps201 rfl (fun w0 => ?_)
  refine c_seq ?_
  refine c_seq ?_
  obtain ⟨c1, hj1, hm⟩ := bd1 hm
  refine c_joinP (n := 0) (fun sh G => sh = [(17, .bool c1)] ∧ G = []) Sel.all' .z (fun _ _ h => h) ?_ ?_
  · have hm := hj1
    refine c_region ?_
    refine o_T (y_move rfl) rfl ?_
    refine o_T (y_leq rfl rfl) rfl ?_
    refine o_T (y_move rfl) rfl ?_
    refine o_split 6 rfl (fun h1 => ?_) (fun h1 => ?_)
    · have hm := cd_t h1 hm
      refine o_pass rfl rfl rfl rfl rfl ?_
      refine o_pass rfl rfl rfl rfl rfl ?_
      refine o_T (y_pickT rfl rfl) rfl ?_
      refine o_T (y_move rfl) rfl ?_
      refine o_pass rfl rfl rfl rfl rfl ?_
      refine o_pass rfl rfl rfl rfl rfl ?_
      refine o_pass rfl rfl rfl rfl rfl ?_
      refine o_pass rfl rfl rfl rfl rfl ?_
      refine o_pass rfl rfl rfl rfl rfl ?_
      refine o_pass rfl rfl rfl rfl rfl ?_
      refine o_T (y_pickT rfl rfl) rfl ?_
      refine o_nil1 17 rfl rfl ?_
      obtain rfl := p1 hm
      exact ⟨_, _, ⟨rfl, rfl⟩, ⟨rfl, trivial⟩, ⟨rfl, rfl⟩, _, (s_take (s_take s_nil))⟩
    · have hm := cd_f h1 hm
      refine o_take rfl rfl rfl ?_
      refine o_T (y_move rfl) rfl ?_
      refine o_take rfl rfl rfl ?_
      refine o_T (y_geq rfl rfl) rfl ?_
      refine o_T (y_pickF rfl rfl) rfl ?_
      refine o_T (y_move rfl) rfl ?_
      refine o_split 10 rfl (fun h2 => ?_) (fun h2 => ?_)
      · have hm := cd_t h2 hm
        refine o_pass rfl rfl rfl rfl rfl ?_
        refine o_pass rfl rfl rfl rfl rfl ?_
        refine o_pass rfl rfl rfl rfl rfl ?_
        refine o_pass rfl rfl rfl rfl rfl ?_
        refine o_pass rfl rfl rfl rfl rfl ?_
        refine o_pass rfl rfl rfl rfl rfl ?_
        refine o_T (y_pickT rfl rfl) rfl ?_
        refine o_nil1 17 rfl rfl ?_
        obtain rfl := p1 hm
        exact ⟨_, _, ⟨rfl, rfl⟩, ⟨rfl, trivial⟩, ⟨rfl, rfl⟩, _, (s_take (s_take s_nil))⟩
      · have hm := cd_f h2 hm
        refine o_take rfl rfl rfl ?_
        refine o_T (y_move rfl) rfl ?_
        refine o_take rfl rfl rfl ?_
        refine o_T (y_move rfl) rfl ?_
        refine o_take rfl rfl rfl ?_
        refine o_T (y_nilck rfl) rfl ?_
        refine o_take rfl rfl rfl ?_
        refine o_T (y_fa fl_217_0 rfl) rfl ?_
        refine o_take rfl rfl rfl ?_
        obtain ⟨_, hx1, hm⟩ := bd hm
        have hx1 := ckA_some hx1
        refine o_T (y_ia ar_215 rfl rfl hx1.1 hx1.2) rfl ?_
        refine o_take rfl rfl rfl ?_
        refine o_ld one_4 rfl m0 (At.got ((At.refl.comp Tally.a_seen).comp (encN_a encB_len _ _ hx1.1 _ hx1.2))) rfl ?_
        refine o_T (y_pickF rfl rfl) rfl ?_
        refine o_nil1 17 rfl rfl ?_
        obtain rfl := p1 hm
        exact ⟨_, _, ⟨rfl, rfl⟩, ⟨rfl, trivial⟩, ⟨rfl, rfl⟩, _, (s_take (s_take s_nil))⟩
  · rintro sh G ⟨rfl, rfl⟩
    refine c_cond rfl (fun h3 => ?_) (fun h3 => ?_)
    · have hm := cd_t h3 hm
      refine c_seq ?_
      refine c_region ?_
      refine o_T (y_move rfl) rfl ?_
      refine o_T (y_nilck rfl) rfl ?_
      refine o_T (y_fa fl_217_2 rfl) rfl ?_
      obtain ⟨z1, hn1, hm⟩ := nm_s hm
      refine o_stN one_4 rfl rfl rfl (Upd.z Tally.u_bad) r0 (show (Tally.enc z1) = _ from by subst hn1; rfl) ?_
      refine o_nil0 rfl ?_
      refine c_ret ?_
      obtain rfl := p1 hm
      refine fun aX wX heX hsX => ret0 Tryz.results201 (s_take (s_take s_nil)) ?_
      exact ⟨rfl, rfl⟩
    · have hm := cd_f h3 hm
      refine c_skip ?_
      refine c_region ?_
      refine o_T (y_move rfl) rfl ?_
      refine o_T (y_move rfl) rfl ?_
      refine o_T (y_nilck rfl) rfl ?_
      refine o_T (y_fa fl_217_0 rfl) rfl ?_
      obtain ⟨_, hx2, hm⟩ := bd hm
      have hx2 := ckA_some hx2
      refine o_T (y_ia ar_215 rfl rfl hx2.1 hx2.2) rfl ?_
      obtain ⟨z2, hn2, hm⟩ := nm_s hm
      refine o_stN one_4 rfl rfl rfl ((Upd.z Tally.u_seen).comp (encN_u encB_len _ _ _ hx2.1 _ hx2.2)) r0 (show (Tally.enc z2) = _ from by subst hn2; rfl) ?_
      refine o_nil0 rfl ?_
      obtain rfl := p1 hm
      refine fun aX wX heX hsX => ret0 Tryz.results201 (s_take (s_take s_nil)) ?_
      exact ⟨rfl, rfl⟩
end Go.Proofs.Qxb6500350aGreat
