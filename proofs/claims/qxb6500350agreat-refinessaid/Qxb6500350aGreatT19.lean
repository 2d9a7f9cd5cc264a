/- MADE BY PROGRAM (tools350/mir.py): mirror and walk. -/
import Derived.Test.Qxb6500350aGreatF2
set_option linter.unusedVariables false
set_option linter.unusedSimpArgs false
set_option maxRecDepth 20000
set_option maxHeartbeats 4000000
namespace Go.Proofs.Qxb6500350aGreat
open Go.Eng

/- towerlaw.Looks -/
def m19 (n : Nat) (kind : Int) : Option (Bool) :=
cond (decide (kind = 1)) (
cond (decide (kind = 1)) (
some false) (
some true)) (
cond (decide (kind = 2)) (
cond (decide (kind = 2)) (
some false) (
some true)) (
cond (decide (kind = 3)) (
cond (decide (kind = 3)) (
some false) (
some true)) (
cond (decide (kind = 4)) (
cond (decide (kind = 4)) (
some false) (
some true)) (
cond (decide (kind = 5)) (
cond (decide (kind = 5)) (
some false) (
some true)) (
cond (decide (kind = 6)) (
cond (decide (kind = 6)) (
some false) (
some true)) (
cond (decide (kind = 7)) (
cond (decide (kind = 7)) (
some false) (
some true)) (
cond (decide (kind = 8)) (
cond (decide (kind = 8)) (
some false) (
some true)) (
cond (decide (kind = 9)) (
cond (decide (kind = 9)) (
some false) (
some true)) (
cond (decide (kind = 11)) (
cond (decide (kind = 11)) (
some false) (
some true)) (
cond (decide (kind = 12)) (
some false) (
some true)))))))))))
theorem t19 {n : Nat} {C : List Chunk} {rc1 : Bool} {kind : Int}   (hm : m19 n kind = some rc1) : Trip Tryz.prog 19 #[.int .i64 kind] ([] ++ [C]) (fun u S' => .bool rc1 = u ∧ S' = [] ++ [C]) := by
  refine fn_entry (args := [.int .i64 kind]) Tryz.func19 rfl Tryz.ntmps19 rfl (fun w0 => ?_)
  refine c_seq ?_
  refine c_region ?_
  refine o_L (y_assign rfl) rfl rfl ?_
  refine o_nil0 rfl ?_
  refine c_seq ?_
  refine c_seq ?_
  refine c_region ?_
  refine o_T (y_move rfl) rfl ?_
  refine o_nil1 3 rfl rfl ?_
  refine c_block ?_
  refine c_seq ?_
  refine c_seq ?_
  refine c_region ?_
  refine o_T (y_eql rfl rfl) rfl ?_
  refine o_L (y_assign rfl) rfl rfl ?_
  refine o_nil0 rfl ?_
  refine c_cond rfl (fun h1 => ?_) (fun h1 => ?_)
  · have hm := cd_t h1 hm
    refine c_skip ?_
    refine c_cond rfl (fun h2 => ?_) (fun h2 => ?_)
    · have hm := cd_t h2 hm
      refine c_seq ?_
      refine c_region ?_
      refine o_L (y_assign rfl) rfl rfl ?_
      refine o_nil0 rfl ?_
      refine c_ret ?_
      obtain rfl := p1 hm
      refine fun aX wX heX hsX => ret1 Tryz.results19 heX rfl (s_take s_nil) ?_
      exact ⟨rfl, rfl⟩
    · have hm := cd_f h2 hm
      refine c_skip ?_
      refine c_seq ?_
      refine c_region ?_
      refine o_L (y_assign rfl) rfl rfl ?_
      refine o_nil0 rfl ?_
      refine c_ret ?_
      obtain rfl := p1 hm
      refine fun aX wX heX hsX => ret1 Tryz.results19 heX rfl (s_take s_nil) ?_
      exact ⟨rfl, rfl⟩
  · have hm := cd_f h1 hm
    refine c_seq ?_
    refine c_region ?_
    refine o_T (y_eql rfl rfl) rfl ?_
    refine o_L (y_assign rfl) rfl rfl ?_
    refine o_nil0 rfl ?_
    refine c_cond rfl (fun h3 => ?_) (fun h3 => ?_)
    · have hm := cd_t h3 hm
      refine c_skip ?_
      refine c_cond rfl (fun h4 => ?_) (fun h4 => ?_)
      · have hm := cd_t h4 hm
        refine c_seq ?_
        refine c_region ?_
        refine o_L (y_assign rfl) rfl rfl ?_
        refine o_nil0 rfl ?_
        refine c_ret ?_
        obtain rfl := p1 hm
        refine fun aX wX heX hsX => ret1 Tryz.results19 heX rfl (s_take s_nil) ?_
        exact ⟨rfl, rfl⟩
      · have hm := cd_f h4 hm
        refine c_skip ?_
        refine c_seq ?_
        refine c_region ?_
        refine o_L (y_assign rfl) rfl rfl ?_
        refine o_nil0 rfl ?_
        refine c_ret ?_
        obtain rfl := p1 hm
        refine fun aX wX heX hsX => ret1 Tryz.results19 heX rfl (s_take s_nil) ?_
        exact ⟨rfl, rfl⟩
    · have hm := cd_f h3 hm
      refine c_seq ?_
      refine c_region ?_
      refine o_T (y_eql rfl rfl) rfl ?_
      refine o_L (y_assign rfl) rfl rfl ?_
      refine o_nil0 rfl ?_
      refine c_cond rfl (fun h5 => ?_) (fun h5 => ?_)
      · have hm := cd_t h5 hm
        refine c_skip ?_
        refine c_cond rfl (fun h6 => ?_) (fun h6 => ?_)
        · have hm := cd_t h6 hm
          refine c_seq ?_
          refine c_region ?_
          refine o_L (y_assign rfl) rfl rfl ?_
          refine o_nil0 rfl ?_
          refine c_ret ?_
          obtain rfl := p1 hm
          refine fun aX wX heX hsX => ret1 Tryz.results19 heX rfl (s_take s_nil) ?_
          exact ⟨rfl, rfl⟩
        · have hm := cd_f h6 hm
          refine c_skip ?_
          refine c_seq ?_
          refine c_region ?_
          refine o_L (y_assign rfl) rfl rfl ?_
          refine o_nil0 rfl ?_
          refine c_ret ?_
          obtain rfl := p1 hm
          refine fun aX wX heX hsX => ret1 Tryz.results19 heX rfl (s_take s_nil) ?_
          exact ⟨rfl, rfl⟩
      · have hm := cd_f h5 hm
        refine c_seq ?_
        refine c_region ?_
        refine o_T (y_eql rfl rfl) rfl ?_
        refine o_L (y_assign rfl) rfl rfl ?_
        refine o_nil0 rfl ?_
        refine c_cond rfl (fun h7 => ?_) (fun h7 => ?_)
        · have hm := cd_t h7 hm
          refine c_skip ?_
          refine c_cond rfl (fun h8 => ?_) (fun h8 => ?_)
          · have hm := cd_t h8 hm
            refine c_seq ?_
            refine c_region ?_
            refine o_L (y_assign rfl) rfl rfl ?_
            refine o_nil0 rfl ?_
            refine c_ret ?_
            obtain rfl := p1 hm
            refine fun aX wX heX hsX => ret1 Tryz.results19 heX rfl (s_take s_nil) ?_
            exact ⟨rfl, rfl⟩
          · have hm := cd_f h8 hm
            refine c_skip ?_
            refine c_seq ?_
            refine c_region ?_
            refine o_L (y_assign rfl) rfl rfl ?_
            refine o_nil0 rfl ?_
            refine c_ret ?_
            obtain rfl := p1 hm
            refine fun aX wX heX hsX => ret1 Tryz.results19 heX rfl (s_take s_nil) ?_
            exact ⟨rfl, rfl⟩
        · have hm := cd_f h7 hm
          refine c_seq ?_
          refine c_region ?_
          refine o_T (y_eql rfl rfl) rfl ?_
          refine o_L (y_assign rfl) rfl rfl ?_
          refine o_nil0 rfl ?_
          refine c_cond rfl (fun h9 => ?_) (fun h9 => ?_)
          · have hm := cd_t h9 hm
            refine c_skip ?_
            refine c_cond rfl (fun h10 => ?_) (fun h10 => ?_)
            · have hm := cd_t h10 hm
              refine c_seq ?_
              refine c_region ?_
              refine o_L (y_assign rfl) rfl rfl ?_
              refine o_nil0 rfl ?_
              refine c_ret ?_
              obtain rfl := p1 hm
              refine fun aX wX heX hsX => ret1 Tryz.results19 heX rfl (s_take s_nil) ?_
              exact ⟨rfl, rfl⟩
            · have hm := cd_f h10 hm
              refine c_skip ?_
              refine c_seq ?_
              refine c_region ?_
              refine o_L (y_assign rfl) rfl rfl ?_
              refine o_nil0 rfl ?_
              refine c_ret ?_
              obtain rfl := p1 hm
              refine fun aX wX heX hsX => ret1 Tryz.results19 heX rfl (s_take s_nil) ?_
              exact ⟨rfl, rfl⟩
          · have hm := cd_f h9 hm
            refine c_seq ?_
            refine c_region ?_
            refine o_T (y_eql rfl rfl) rfl ?_
            refine o_L (y_assign rfl) rfl rfl ?_
            refine o_nil0 rfl ?_
            refine c_cond rfl (fun h11 => ?_) (fun h11 => ?_)
            · have hm := cd_t h11 hm
              refine c_skip ?_
              refine c_cond rfl (fun h12 => ?_) (fun h12 => ?_)
              · have hm := cd_t h12 hm
                refine c_seq ?_
                refine c_region ?_
                refine o_L (y_assign rfl) rfl rfl ?_
                refine o_nil0 rfl ?_
                refine c_ret ?_
                obtain rfl := p1 hm
                refine fun aX wX heX hsX => ret1 Tryz.results19 heX rfl (s_take s_nil) ?_
                exact ⟨rfl, rfl⟩
              · have hm := cd_f h12 hm
                refine c_skip ?_
                refine c_seq ?_
                refine c_region ?_
                refine o_L (y_assign rfl) rfl rfl ?_
                refine o_nil0 rfl ?_
                refine c_ret ?_
                obtain rfl := p1 hm
                refine fun aX wX heX hsX => ret1 Tryz.results19 heX rfl (s_take s_nil) ?_
                exact ⟨rfl, rfl⟩
            · have hm := cd_f h11 hm
              refine c_seq ?_
              refine c_region ?_
              refine o_T (y_eql rfl rfl) rfl ?_
              refine o_L (y_assign rfl) rfl rfl ?_
              refine o_nil0 rfl ?_
              refine c_cond rfl (fun h13 => ?_) (fun h13 => ?_)
              · have hm := cd_t h13 hm
                refine c_skip ?_
                refine c_cond rfl (fun h14 => ?_) (fun h14 => ?_)
                · have hm := cd_t h14 hm
                  refine c_seq ?_
                  refine c_region ?_
                  refine o_L (y_assign rfl) rfl rfl ?_
                  refine o_nil0 rfl ?_
                  refine c_ret ?_
                  obtain rfl := p1 hm
                  refine fun aX wX heX hsX => ret1 Tryz.results19 heX rfl (s_take s_nil) ?_
                  exact ⟨rfl, rfl⟩
                · have hm := cd_f h14 hm
                  refine c_skip ?_
                  refine c_seq ?_
                  refine c_region ?_
                  refine o_L (y_assign rfl) rfl rfl ?_
                  refine o_nil0 rfl ?_
                  refine c_ret ?_
                  obtain rfl := p1 hm
                  refine fun aX wX heX hsX => ret1 Tryz.results19 heX rfl (s_take s_nil) ?_
                  exact ⟨rfl, rfl⟩
              · have hm := cd_f h13 hm
                refine c_seq ?_
                refine c_region ?_
                refine o_T (y_eql rfl rfl) rfl ?_
                refine o_L (y_assign rfl) rfl rfl ?_
                refine o_nil0 rfl ?_
                refine c_cond rfl (fun h15 => ?_) (fun h15 => ?_)
                · have hm := cd_t h15 hm
                  refine c_skip ?_
                  refine c_cond rfl (fun h16 => ?_) (fun h16 => ?_)
                  · have hm := cd_t h16 hm
                    refine c_seq ?_
                    refine c_region ?_
                    refine o_L (y_assign rfl) rfl rfl ?_
                    refine o_nil0 rfl ?_
                    refine c_ret ?_
                    obtain rfl := p1 hm
                    refine fun aX wX heX hsX => ret1 Tryz.results19 heX rfl (s_take s_nil) ?_
                    exact ⟨rfl, rfl⟩
                  · have hm := cd_f h16 hm
                    refine c_skip ?_
                    refine c_seq ?_
                    refine c_region ?_
                    refine o_L (y_assign rfl) rfl rfl ?_
                    refine o_nil0 rfl ?_
                    refine c_ret ?_
                    obtain rfl := p1 hm
                    refine fun aX wX heX hsX => ret1 Tryz.results19 heX rfl (s_take s_nil) ?_
                    exact ⟨rfl, rfl⟩
                · have hm := cd_f h15 hm
                  refine c_seq ?_
                  refine c_region ?_
                  refine o_T (y_eql rfl rfl) rfl ?_
                  refine o_L (y_assign rfl) rfl rfl ?_
                  refine o_nil0 rfl ?_
                  refine c_cond rfl (fun h17 => ?_) (fun h17 => ?_)
                  · have hm := cd_t h17 hm
                    refine c_skip ?_
                    refine c_cond rfl (fun h18 => ?_) (fun h18 => ?_)
                    · have hm := cd_t h18 hm
                      refine c_seq ?_
                      refine c_region ?_
                      refine o_L (y_assign rfl) rfl rfl ?_
                      refine o_nil0 rfl ?_
                      refine c_ret ?_
                      obtain rfl := p1 hm
                      refine fun aX wX heX hsX => ret1 Tryz.results19 heX rfl (s_take s_nil) ?_
                      exact ⟨rfl, rfl⟩
                    · have hm := cd_f h18 hm
                      refine c_skip ?_
                      refine c_seq ?_
                      refine c_region ?_
                      refine o_L (y_assign rfl) rfl rfl ?_
                      refine o_nil0 rfl ?_
                      refine c_ret ?_
                      obtain rfl := p1 hm
                      refine fun aX wX heX hsX => ret1 Tryz.results19 heX rfl (s_take s_nil) ?_
                      exact ⟨rfl, rfl⟩
                  · have hm := cd_f h17 hm
                    refine c_seq ?_
                    refine c_region ?_
                    refine o_T (y_eql rfl rfl) rfl ?_
                    refine o_L (y_assign rfl) rfl rfl ?_
                    refine o_nil0 rfl ?_
                    refine c_cond rfl (fun h19 => ?_) (fun h19 => ?_)
                    · have hm := cd_t h19 hm
                      refine c_skip ?_
                      refine c_cond rfl (fun h20 => ?_) (fun h20 => ?_)
                      · have hm := cd_t h20 hm
                        refine c_seq ?_
                        refine c_region ?_
                        refine o_L (y_assign rfl) rfl rfl ?_
                        refine o_nil0 rfl ?_
                        refine c_ret ?_
                        obtain rfl := p1 hm
                        refine fun aX wX heX hsX => ret1 Tryz.results19 heX rfl (s_take s_nil) ?_
                        exact ⟨rfl, rfl⟩
                      · have hm := cd_f h20 hm
                        refine c_skip ?_
                        refine c_seq ?_
                        refine c_region ?_
                        refine o_L (y_assign rfl) rfl rfl ?_
                        refine o_nil0 rfl ?_
                        refine c_ret ?_
                        obtain rfl := p1 hm
                        refine fun aX wX heX hsX => ret1 Tryz.results19 heX rfl (s_take s_nil) ?_
                        exact ⟨rfl, rfl⟩
                    · have hm := cd_f h19 hm
                      refine c_region ?_
                      refine o_T (y_eql rfl rfl) rfl ?_
                      refine o_L (y_assign rfl) rfl rfl ?_
                      refine o_nil0 rfl ?_
                      refine c_cond rfl (fun h21 => ?_) (fun h21 => ?_)
                      · have hm := cd_t h21 hm
                        refine c_seq ?_
                        refine c_region ?_
                        refine o_L (y_assign rfl) rfl rfl ?_
                        refine o_nil0 rfl ?_
                        refine c_ret ?_
                        obtain rfl := p1 hm
                        refine fun aX wX heX hsX => ret1 Tryz.results19 heX rfl (s_take s_nil) ?_
                        exact ⟨rfl, rfl⟩
                      · have hm := cd_f h21 hm
                        refine c_skip ?_
                        refine c_seq ?_
                        refine c_region ?_
                        refine o_L (y_assign rfl) rfl rfl ?_
                        refine o_nil0 rfl ?_
                        refine c_ret ?_
                        obtain rfl := p1 hm
                        refine fun aX wX heX hsX => ret1 Tryz.results19 heX rfl (s_take s_nil) ?_
                        exact ⟨rfl, rfl⟩
end Go.Proofs.Qxb6500350aGreat
