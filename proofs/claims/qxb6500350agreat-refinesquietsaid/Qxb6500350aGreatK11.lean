/- PLAIN LAW: COMMIT. -/
import Derived.Test.Qxb6500350aGreatK10
set_option linter.unusedVariables false
set_option linter.unusedSimpArgs false
set_option maxHeartbeats 1000000
namespace Go.Proofs.Qxb6500350aGreat
open Go.Eng Go
theorem supB_len (A : Int → Ob) (root : Int) : (supB A root).length = 64 := by simp [supB]
theorem supB_zero (A : Int → Ob) (root : Int) : (supB A root)[0]? = some (u8 root) := rfl
theorem supB_get (A : Int → Ob) (root : Int) {i : Int} (h0 : 1 ≤ i) (h1 : i ≤ 63) : (supB A root)[i.toNat]? = some (if i ≤ 48 ∧ ((A i).st = 2 ∨ (A i).st = 3) then u8 ((A i).bl.headD 0) else 0) := by
  obtain ⟨k, rfl⟩ : ∃ k : Nat, i = k + 1 := ⟨(i - 1).toNat, by omega⟩
  unfold supB
  rw [show ((k : Int) + 1).toNat = k + 1 by omega, List.getElem?_cons_succ, List.getElem?_map, List.getElem?_range (by omega)]
  simp only [Option.map_some]
  by_cases h : k < 48
  · by_cases h2 : (A ((k : Int) + 1)).st = 2 ∨ (A ((k : Int) + 1)).st = 3
    · rw [if_pos ⟨h, h2⟩, if_pos ⟨by omega, h2⟩]
    · rw [if_neg (fun g => h2 g.2), if_neg (fun g => h2 g.2)]
  · rw [if_neg (fun g => h g.1), if_neg (fun g => h (by omega))]
section
variable {n : Nat} {s : Store} {d : Dev} {A : Int → Ob} {root : Int}
theorem commit_loop {d' : Dev} (hn : 100000 ≤ n) (hd : d'.Wf) (h : Sti s d'.B A (fun i => (A i).lv)) :
    Ok (m285_w2 n d' n 1 s) (fun r => Sti r.2 d'.B (fun i => (A i).cmt) (fun i => (A i).cmt.lv) ∧ r.2.root = s.root) := by
  unfold m285_w2
  refine Ok_it2 (fun (c : Int) (s' : Store) => 1 ≤ c ∧ c ≤ 49 ∧ Sti s' d'.B (upTo Ob.cmt A c) (fun i => (A i).lv) ∧ s'.root = s.root) (fun (c : Int) _ => (49 - c).toNat) ?_ n 1 s ⟨by omega, by omega, ?_, rfl⟩ (by show (49 - 1 : Int).toNat < n; omega)
  rotate_left
  · exact h.congrA (A' := upTo Ob.cmt A 1) (fun i h0 h1 => by unfold upTo; rw [if_neg (by omega)])
  rintro Q lp c s' hQ ⟨i0, i1, i2, i3⟩ ih
  refine Ok_ite (fun hc => ?_) (fun hc => ?_)
  · have he := (i2.ent c i0 hc).st
    rw [upTo_at] at he
    refine Ok_ck (by omega) (by omega) ?_
    rw [he]
    refine Ok_ite (fun h1 => ?_) (fun h1 => ?_)
    · have hab : (A c).cmt = { (A c) with st := 2 } := by unfold Ob.cmt; rw [if_pos h1]
      refine Ok_ck (by omega) (by omega) (Ok_nm ?_)
      simp (disch := omega) only [wi_of]
      have g1 := i2.restate (i := c) (v := 2) (by rw [upTo_at]; omega) (by omega) (by omega)
      rw [upTo_at, ← hab, ← upTo_succ] at g1
      exact ih _ _ ⟨by omega, by omega, g1, i3⟩ (by omega)
    · refine Ok_ck (by omega) (by omega) ?_
      refine Ok_ite (fun h3 => ?_) (fun h3 => ?_)
      · have hab : (A c).cmt = Ob.free := by unfold Ob.cmt; rw [if_neg h1, if_pos h3]
        refine Ok_ob1 ((release_ok hn hd i2 i0 hc (by rw [upTo_at]; omega) (by rintro (h | h) <;> omega)).mono ?_)
        rintro s2 ⟨g3, g4⟩
        simp (disch := omega) only [wi_of]
        rw [← hab, ← upTo_succ] at g3
        exact ih _ _ ⟨by omega, by omega, g3, g4.trans i3⟩ (by omega)
      · have hab : (A c).cmt = A c := by unfold Ob.cmt; rw [if_neg h1, if_neg h3]
        simp (disch := omega) only [wi_of]
        refine ih _ _ ⟨by omega, by omega, ?_, i3⟩ (by omega)
        have : upTo Ob.cmt A (c + 1) = upTo Ob.cmt A c := by
          rw [upTo_succ]; funext j; unfold upd
          by_cases hj : j = c
          · subst hj; rw [if_pos rfl, hab, upTo_at]
          · rw [if_neg hj]
        rw [this]; exact i2
  · refine Ok.some' (hQ _ ⟨?_, i3⟩)
    have he : ∀ j, 1 ≤ j → j ≤ 48 → upTo Ob.cmt A c j = (A j).cmt := fun j j0 j1 => by unfold upTo; rw [if_pos (by omega)]
    exact (i2.congrA (A' := fun i => (A i).cmt) (fun j j0 j1 => (he j j0 j1).symm)).congrH (fun j j0 j1 => cmt_lv.symm)
/-- Commit -/
theorem commit_ok {nr : Int} (hn : 100000 ≤ n) (hd : d.Good) (hs : d.at_.length < 900000) (h : Sto s d.B A root) (hr : nr = 0 ∨ (1 ≤ nr ∧ nr ≤ 48 ∧ (A nr).lv)) :
    Ok (m285 n s d nr) (fun r => r.1 = 0 ∧ Sto r.2.1 r.2.2.B (fun i => (A i).cmt) nr ∧ DevTo d r.2.2 1 (fun b => b = 0) ∧ r.2.2.ws = d.ws ++ [(0, supB (fun i => (A i).cmt) nr)]) := by
  have hcst : ∀ i, ((A i).cmt.st = 2 ∨ (A i).cmt.st = 3 ↔ (A i).lv) ∧ ((A i).lv → (A i).cmt.bl = (A i).bl ∧ (A i).cmt.kind = (A i).kind ∧ (A i).cmt.data = (A i).data) := by
    intro i
    unfold Ob.cmt Ob.lv
    split
    · rename_i h1; simp [h1]
    · split
      · rename_i h3; simp [h3, Ob.free]
      · rename_i h1 h3
        refine ⟨⟨fun h => by omega, fun h => by omega⟩, fun _ => ⟨rfl, rfl, rfl⟩⟩
  unfold m285
  have hguard : (cond (decide (¬ (nr = 0))) (ob1 (m190 n s nr) fun c1 => cond (!c1) (Option.bind (some ((6 : Int), s, d)) fun q1 => some (Flow.ret q1)) (some (Flow.nx ()))) (some (Flow.nx ()))) = some (Flow.nx ()) := by
    refine Ok.eq (Ok_ite (fun h0 => ?_) (fun _ => Ok.some' rfl))
    rcases hr with h1 | h1
    · exact absurd h1 h0
    · refine Ok_cl1 (live_ok h nr) ?_
      rw [decide_eq_true h1]
      exact Ok_iteN (fun h => nomatch h) (fun _ => Ok.some' rfl)
  refine Ok_flow (Ok.of hguard ?_)
  show Ok (Option.bind (mkL 64 64 (0 : UInt8)) _) _
  refine Ok_mk (by omega) (by omega) (by omega) (Ok_ck (by omega) (by simp) (Ok_st (by omega) (by simp) (Ok_ob2 ?_)))
  have hloop : Ok (m285_w1 n s n 1 ((List.replicate (64 : Int).toNat (0 : UInt8)).set (0 : Int).toNat (u8 nr))) (fun r => r.2 = supB (fun i => (A i).cmt) nr) := by
    unfold m285_w1
    refine Ok_it2 (fun (c : Int) (l : List UInt8) => 1 ≤ c ∧ c ≤ 49 ∧ l.length = 64 ∧ l[0]? = some (u8 nr) ∧ ∀ i : Int, 1 ≤ i → i ≤ 63 → l[i.toNat]? = some (if i < c ∧ (A i).lv then u8 ((A i).bl.headD 0) else 0))
      (fun (c : Int) _ => (49 - c).toNat) ?_ n 1 _ ⟨by omega, by omega, by simp, by simp, fun i i0 i1 => ?_⟩ (by show (49 - 1 : Int).toNat < n; omega)
    · rintro Q lp c l hQ ⟨i0, i1, i2, i3, i4⟩ ih
      refine Ok_ite (fun hc => ?_) (fun hc => ?_)
      · refine Ok_cl1 (live_ok h c) ?_
        simp (disch := omega) only [wi_of]
        by_cases hl : (A c).lv
        · rw [decide_eq_true (show 1 ≤ c ∧ c ≤ 48 ∧ (A c).lv from ⟨i0, hc, hl⟩)]
          have hf := (h.ent c i0 hc).first (by rcases hl with h | h <;> omega)
          refine Ok_cond (fun _ => ?_) (fun h => nomatch h)
          refine Ok_ck (by omega) (by omega) (Ok_ck (by omega) (by omega) (Ok_st (by omega) (by omega) ?_))
          refine ih _ _ ⟨by omega, by omega, by simpa using i2, ?_, fun i g0 g1 => ?_⟩ (by omega)
          · rw [List.getElem?_set, if_neg (by omega)]; exact i3
          · rw [List.getElem?_set]
            by_cases hi : i = c
            · subst hi; rw [if_pos rfl, if_pos (by omega), if_pos ⟨by omega, hl⟩, hf.1]
            · rw [if_neg (by omega), i4 i g0 g1]
              by_cases hi2 : i < c ∧ (A i).lv
              · rw [if_pos hi2, if_pos ⟨by omega, hi2.2⟩]
              · rw [if_neg hi2, if_neg (fun g => hi2 ⟨by omega, g.2⟩)]
        · rw [decide_eq_false (fun g => hl g.2.2)]
          refine Ok_cond (fun h => nomatch h) (fun _ => ?_)
          refine ih _ _ ⟨by omega, by omega, i2, i3, fun i g0 g1 => ?_⟩ (by omega)
          rw [i4 i g0 g1]
          by_cases hi2 : i < c ∧ (A i).lv
          · rw [if_pos hi2, if_pos ⟨by omega, hi2.2⟩]
          · rw [if_neg hi2, if_neg (fun g => hi2 ⟨by
              rcases Classical.em (i = c) with rfl | hne
              · exact absurd g.2 hl
              · omega, g.2⟩)]
      · refine Ok.some' (hQ _ ?_)
        have hc49 : c = 49 := by omega
        subst hc49
        apply List.ext_getElem?
        intro j
        show l[j]? = _
        rcases Nat.eq_zero_or_pos j with rfl | hj
        · rw [i3, supB_zero]
        · by_cases hj2 : j ≤ 63
          · have g1 := i4 j (by omega) (by omega)
            have g2 := supB_get (fun i => (A i).cmt) nr (i := j) (by omega) (by omega)
            rw [Int.toNat_natCast] at g1 g2
            rw [g1, g2]
            by_cases hl : (j : Int) ≤ 48 ∧ (A j).lv
            · rw [if_pos ⟨by omega, hl.2⟩, if_pos ⟨hl.1, (hcst j).1.2 hl.2⟩, ((hcst j).2 hl.2).1]
            · rw [if_neg (fun g => hl ⟨by omega, g.2⟩), if_neg (fun g => hl ⟨g.1, (hcst j).1.1 g.2⟩)]
          · rw [List.getElem?_eq_none (by omega), List.getElem?_eq_none (by rw [supB_len]; omega)]
    · rw [if_neg (by omega), List.getElem?_set, if_neg (by omega), List.getElem?_replicate, if_pos (by omega)]
  refine hloop.mono ?_
  rintro ⟨e, l⟩ hl
  dsimp only at hl ⊢
  subst hl
  refine Ok_cl2 (write_ok hn hd.toWf (by omega) (by omega) (supB_len _ _) (by omega)) (Ok_ob2 ?_)
  have hD : ∀ b, 1 ≤ b → b < 145 → (d.put 0 (supB (fun i => (A i).cmt) nr)).B b = d.B b := fun b b0 b1 => blkOf_set_ne hd.lb (by omega) (by omega) (supB_len _ _) (by omega) b1 (by omega)
  have hD0 : (d.put 0 (supB (fun i => (A i).cmt) nr)).B 0 = supB (fun i => (A i).cmt) nr := blkOf_set_same hd.lb (by omega) (by omega) (supB_len _ _)
  refine (commit_loop hn (Dev.put_wf hd.toWf (by omega) (by omega) (supB_len _ _)) (h.sti.congrD hD)).mono ?_
  rintro ⟨e2, s2⟩ ⟨g1, g2⟩
  dsimp only at g1 g2 ⊢
  refine Ok_nm (Ok.some' ⟨rfl, ?_, DevTo.put hd (by omega) (by omega) (supB_len _ _) rfl, Dev.put_ws hd.toWf (supB_len _ _)⟩)
  have g3 : Sti { s2 with root := nr } (d.put 0 (supB (fun i => (A i).cmt) nr)).B (fun i => (A i).cmt) (fun i => (A i).cmt.lv) := ⟨g1.ent, g1.dis, g1.um, g1.nf, g1.hg, g1.hs⟩
  refine g3.sto (fun i _ _ => Iff.rfl) rfl hD0 ?_ ?_
  · rcases hr with h1 | h1
    · exact .inl h1
    · exact .inr ⟨h1.1, h1.2.1, (hcst nr).1.2 h1.2.2⟩
  · intro i j a0 a1 b0 b1 ha hb hk hdt
    have ha := cmt_lv.1 ha
    have hb := cmt_lv.1 hb
    rw [((hcst i).2 ha).2.1, ((hcst j).2 hb).2.1] at hk
    rw [((hcst i).2 ha).2.2, ((hcst j).2 hb).2.2] at hdt
    exact h.tw i j a0 a1 b0 b1 ha hb hk hdt
end
end Go.Proofs.Qxb6500350aGreat
