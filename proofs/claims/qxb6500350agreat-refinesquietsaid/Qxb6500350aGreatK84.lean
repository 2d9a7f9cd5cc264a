/- PLAIN LAW: THE TOWER'S LAW (4): CLONES; OPEN OF THE WHOLE TOWER. -/
import Derived.Test.Qxb6500350aGreatK83
import Derived.Test.Qxb6500350aGreatT9
import Derived.Test.Qxb6500350aGreatT21
import Derived.Test.Qxb6500350aGreatT22
set_option linter.unusedVariables false
set_option linter.unusedSimpArgs false
set_option maxHeartbeats 2000000
namespace Go.Proofs.Qxb6500350aGreat
open Go.Eng Go
def AF : Int → Ob := fun _ => Ob.free
/-- as a cut leaves a model -/
def crash (m : RepoM) : RepoM := { m with work := plainF m.index }
theorem hist_crash (m : RepoM) : histOf (crash m) = histOf m := rfl
theorem MI.crash {m : RepoM} (h : MI m) : MI (crash m) :=
  ⟨h.wn, h.law, h.sq, h.nx, h.rl, h.rg, h.hd, h.mg, h.mo, h.ub, h.ix, h.im, (plainF_law h.ix).1, (plainF_law h.ix).2⟩
theorem at0_ws (l : List UInt8) : (Dev.at0 l).ws = [] := rfl
section
variable {n : Nat} {t t0 : Trees} {s s0 : Store} {d d0 : Dev} {g g0 : Graph} {x : Index} {r : RepoR} {A A0 : Int → Ob} {root root0 : Int} {ord ord0 : List Int} {K K0 : Int → CI} {bs bs0 : List Brn} {m m' : RepoM} {H : Hist}
theorem clone_ok (hn : 100010 ≤ n) (hm : MI m) : m12 n m = some m := by
  have h1 := hm.wn.len
  have h2 := hm.rl
  have h3 := hm.ix.num
  have h4 := hm.wk.num
  refine Ok.eq ?_
  unfold m12
  refine Ok_cl1 (copyNodes_ok (by omega) (by omega) hm.wn.sh) (Ok_nm (Ok_cl1 (copyRefs_ok (by omega) (by omega)) (Ok_nm (Ok_cl1 (copyFiles_ok (by omega) (by omega)) (Ok_nm (Ok_cl1 (copyFiles_ok (by omega) (by omega)) (Ok_nm (Ok.some' ?_))))))))
  cases m; rfl
theorem crash_ok (hn : 100010 ≤ n) (hm : MI m) : m22 n m = some (crash m) := by
  have h3 := hm.ix.num
  refine Ok.eq ?_
  unfold m22
  exact Ok_cl1 (clone_ok hn hm) (Ok_cl1 (plain_ok (by omega) (by omega)) (Ok_nm (Ok.some' rfl)))
/-- the same over a device of the same blocks -/
theorem LT.redev (h : LT t s d A root) {d' : Dev} (hd : d'.Good) (hb : d'.blk = d.blk) (hl : d'.at_.length < 600000) : LT t s d' A root := by
  have h2 := h.st
  have := nfr_le A
  refine ⟨hd, ?_, h.tr, h.ts, h.len, by omega⟩
  have e : d'.B = d.B := by funext b; show blkOf d'.blk b = blkOf d.blk b; rw [hb]
  rw [e]; exact h2
theorem Gr.redev (h : Gr t s d g A root ord K bs H) {d' : Dev} (hd : d'.Good) (hb : d'.blk = d.blk) (hl : d'.at_.length < 600000) : Gr t s d' g A root ord K bs H :=
  ⟨⟨h.lt.redev hd hb hl, h.tab, h.cur, h.aux, h.laux, h.nodes, h.nxt, h.rk, h.ruq⟩, h.rest, h.rdat⟩
theorem Gr.mark (h : Gr t s d g A root ord K bs H) : Gr t s (Dev.at0 d.blk) g A root ord K bs H :=
  h.redev (Dev.at0_good h.lt.gd.lb) rfl (by show (0 : Nat) < 600000; omega)
theorem Sys.mark (h : Sys t s d g x r A root ord K bs m) : Sys t s (Dev.at0 d.blk) g x r A root ord K bs m := ⟨h.gr.mark, h.xf, h.wk⟩
/-- Sys looks only at what is observed -/
theorem Sys.agr (h : Sys t s d g x r A root ord K bs m) (a : Agr m m') : Sys t s d g x r A root ord K bs m' := by
  have e : histOf m' = histOf m := by unfold histOf; rw [a.nodes, a.nxt, a.refs, a.head, a.index]
  exact ⟨by rw [e]; exact h.gr, by rw [← a.index]; exact h.xf, by rw [← a.work]; exact h.wk⟩
theorem Las.used (h : Las d.B A root) {b : Int} (hb : usedB A b = true) : 1 ≤ b ∧ b < 145 := by
  obtain ⟨i, i0, i1, hi⟩ := usedB_iff.1 hb
  rcases h.ob i i0 i1 with e | e
  · rw [e] at hi; cases hi
  · exact e.2.2.2.2.1.mem b hi
theorem Gr.las (h : Gr t s d g A root ord K bs H) : Las d.B A root := h.lt.st.las h.rest
/-- the upper half of Open -/
theorem ropen_ok {y : Index} {e : Engine} (hn : 100010 ≤ n) (h : Gr t s d g A root ord K bs H) : Ok (m77 n g t s d y e) (fun q => Wk q.1 (plainF H.aux) ∧ XF q.2 H.aux) := by
  have hl := h.laux.num
  unfold m77
  exact Ok_cl1 (gaux_ok hn h.toGm) (Ok_ob2 ((load_x (by omega) h.laux).mono (fun q hq => Ok_ob1 ((setWork_ok (by omega) hl).mono (fun z hz => Ok.some' ⟨hz, hq.2⟩)))))
theorem m75_ok (hn : 100010 ≤ n) : Ok (m75 n) (fun _ => True) := by
  unfold m75
  exact Ok_ob1 ((reset_ok (by omega)).mono (fun z _ => Ok.some' trivial))
/-- Open over what lasts -/
theorem reopen_ok {l : List UInt8} (hn : 100010 ≤ n) (h : Gr t0 s0 d0 g0 A root ord K bs (histOf m)) (hl : l.length = 9280) (h0 : blkOf l 0 = d0.B 0) (hB : ∀ b, usedB A b = true → blkOf l b = d0.B b) :
    Ok (m24 n (Dev.at0 l)) (fun q => q.2.2.2.2.2.2 = Dev.at0 l ∧ Sys q.2.1 q.1 q.2.2.2.2.2.2 q.2.2.1 q.2.2.2.1 q.2.2.2.2.2.1 A root ord K bs (crash m)) := by
  have hlas : Las (Dev.at0 l).B A root := h.las.congr h0 hB
  have hgd := Dev.at0_good hl
  unfold m24
  refine Ok_ob1 ((topen_ok (by omega) hgd hlas h.lt.ts h.lt.len (by show (0 : Nat) < 700000; omega)).mono (fun s1 hs1 => Ok_ob1 (hs1.2.mono (fun t1 ht1 => ?_))))
  refine Ok_ob4 ((gopen_ok hn h ht1).mono (fun q hq => ?_))
  obtain ⟨g1, t2, s2, d2⟩ := q
  obtain ⟨e1, hg1⟩ := hq
  simp only [Prod.mk.injEq] at e1
  obtain ⟨rfl, rfl, rfl⟩ := e1
  refine Ok_ob1 ((m75_ok hn).mono (fun x1 _ => Ok_cl1 (a0 := Engine.zero) rfl (Ok_ob2 ((ropen_ok (y := x1) (e := Engine.zero) hn hg1).mono (fun q hq => Ok.some' ⟨rfl, hg1, hq.2, hq.1⟩)))))
/-- Open over a store that has nothing -/
theorem newopen_ok {l : List UInt8} (hn : 100010 ≤ n) (hl : l.length = 9280) (h0 : blkOf l 0 = supB AF 0) (hH : histOf m = Hist.new) :
    Ok (m24 n (Dev.at0 l)) (fun q => ∃ A' root', Sys q.2.1 q.1 q.2.2.2.2.2.2 q.2.2.1 q.2.2.2.1 q.2.2.2.2.2.1 A' root' [] (fun _ => ⟨0, 0, [], [], []⟩) [] (crash m) ∧ Done (Dev.at0 l) AF q.2.2.2.2.2.2 A' root' ∧ q.2.2.2.2.2.2.at_.length = 3 ∧ 46 ≤ nfr A') := by
  have hfree : AllFree AF := fun _ _ _ => rfl
  have hnl : ∀ i, ¬ (AF i).lv := fun i h => Ob.lv_ne h rfl
  have hlas : Las (Dev.at0 l).B AF 0 := by
    refine ⟨fun i _ _ => .inl rfl, fun i j b _ _ _ _ hb => (by cases hb), h0, .inl rfl, fun i j _ _ _ _ h => ?_⟩
    cases h
  have hts : TreS AF := by
    refine ⟨fun j hj => ?_, fun j r hj => ?_, fun j hj => ?_, fun j r hj => ?_, fun j r hj => ?_, fun j r hj => ?_, fun j hj => ?_⟩ <;> exact absurd hj.2.2.1 (hnl j)
  have hgd := Dev.at0_good hl
  unfold m24
  refine Ok_ob1 ((topen_ok (by omega) hgd hlas hts (fun j hj => absurd hj.2.2.1 (hnl j)) (by show (0 : Nat) < 700000; omega)).mono (fun s1 hs1 => Ok_ob1 (hs1.2.mono (fun t1 ht1 => ?_))))
  refine Ok_ob4 ((gopen_new hn ht1 hfree (by show (0 : Nat) < 600000; omega)).mono (fun q hq => ?_))
  obtain ⟨g1, t2, s2, d2⟩ := q
  obtain ⟨A', root', hg1, hdn, hst, hnf⟩ := hq
  refine Ok_ob1 ((m75_ok hn).mono (fun x1 _ => Ok_cl1 (a0 := Engine.zero) rfl (Ok_ob2 ((ropen_ok (y := x1) (e := Engine.zero) hn hg1).mono (fun q hq => Ok.some' ⟨A', root', ?_, hdn, hst, hnf⟩)))))
  have hax : Hist.new.aux = m.index := by rw [← hH]; rfl
  have h1 := hq.1
  have h2 := hq.2
  rw [hax] at h1 h2
  exact ⟨by rw [hist_crash, hH]; exact hg1, h2, h1⟩
end
end Go.Proofs.Qxb6500350aGreat
