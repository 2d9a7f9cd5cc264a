/- PLAIN LAW: THE TOWER'S LAW (2): THE OBSERVERS OF BOTH SIDES. -/
import Derived.Test.Qxb6500350aGreatK81
set_option linter.unusedVariables false
set_option linter.unusedSimpArgs false
set_option maxHeartbeats 2000000
namespace Go.Proofs.Qxb6500350aGreat
open Go.Eng Go
/-- what Diff answers -/
def diffV (n : Nat) (m : RepoM) (p : Str) : List Hunk × Int :=
  match findF m.index p, findF m.work p with
  | none, none => ([], 13)
  | some f, none => (diffH n f.data [], 0)
  | none, some w => (diffH n [] w.data, 0)
  | some f, some w => (diffH n f.data w.data, 0)
/-- what Show answers -/
def showV (m : RepoM) (q : Int) : Node × Int := match findN m.nodes q with | some x => (x, 0) | none => (Node.zero, 17)
section
variable {n : Nat} {t : Trees} {s : Store} {d : Dev} {g : Graph} {x : Index} {r : RepoR} {e : Engine} {A : Int → Ob} {root : Int} {ord : List Int} {K : Int → CI} {bs : List Brn} {m : RepoM}
theorem log_m (hn : 100010 ≤ n) (hm : MI m) : m80 n m = some (logN m.nodes (atM m)) := by
  have h1 := hm.rl
  refine Ok.eq ?_
  unfold m80
  exact Ok_cl1 (at_m (by omega) (by omega)) (Ok_cl1 (logOf_ok (by omega) hm.wn) (Ok.some' rfl))
theorem logN_len {l : List Node} {q : Int} : (logN l q).length ≤ l.length := by
  unfold logN
  rw [List.length_reverse, List.length_map]
  exact List.length_filter_le _ _
open Classical in
theorem log_r (hn : 100010 ≤ n) (h : Sys t s d g x r A root ord K bs m) (hm : MI m) : m79 n r g = some (logN m.nodes (atM m)) := by
  have hg := h.gr.toGm
  have ht := hg.tab
  have hnodes : m.nodes = ord.map (nodeOf K) := hg.nodes
  refine Ok.eq ?_
  unfold m79
  refine Ok_cl1 (ghead_ok hg) (Ok_nm (Ok_cl1 (at_r (by omega) hg) ?_))
  rw [show atH (histOf m).refs (histOf m).head = atM m from rfl]
  rcases hm.at_node with e | he
  · rw [e]
    have hno : logN m.nodes 0 = [] := by
      unfold logN
      rw [List.filter_eq_nil_iff.2]
      · rfl
      · intro y hy
        rw [decide_eq_true_eq]
        intro ha
        refine ha.least (U := fun _ => False) (fun z hz => ?_) (fun _ _ hf _ => hf)
        obtain ⟨hz1, w, hw, e2⟩ := hz
        have := (hm.sq w hw).1
        rw [List.mem_singleton] at hz1
        omega
    rw [hno]
    unfold m176
    refine Ok_ob2 (Ok_ob1 ((ht.find (by omega) 0).mono (fun k hk => ?_)))
    rcases hk with ⟨rfl, _⟩ | ⟨k1, k2, _⟩
    · exact Ok_ite (fun _ => Ok.some' (Ok.some' rfl)) (fun hh => absurd rfl hh)
    · have := (ht.seq k k1).1; omega
  · obtain ⟨i, hi, e⟩ := hg.node.1 he
    have hlog := log_ok (show 100000 ≤ n by omega) ht.od ht.fam hi
    rw [ht.comseq hi, e] at hlog
    refine Ok_cl2 hlog (Ok.some' ?_)
    have hw := hm.wn
    unfold logN
    rw [hnodes] at hw ⊢
    congr 1
    rw [List.filter_map, List.map_map]
    have hbr := anc_bridge (ord := ord) (K := K) (S := fun y => y = i) (roots := [atM m]) (fun i hi p hp => ((ht.ps i hi).2 p hp).1) (fun i j hi hj e => ht.inj hi hj e) (fun y e => by rw [e]; exact hi) (fun y hy => by rw [List.mem_singleton, ← e]; exact ⟨fun e => by rw [e], fun e => ht.inj hy hi e⟩) hw
    have hf : (ord.filter fun y => @decide (Anc (fun i => (K i).ps) (fun y => y = i) y) (Classical.propDecidable _)) = ord.filter ((fun y : Node => @decide (AncN (ord.map (nodeOf K)) [atM m] y.seq) (Classical.propDecidable _)) ∘ nodeOf K) := by
      refine List.filter_congr (fun y hy => ?_)
      show decide _ = decide _
      exact decide_eq_decide.2 (hbr y hy)
    rw [← hf]
    exact List.map_congr_left (fun y hy => ht.comseq (List.mem_filter.1 hy).1)
theorem statusN_len {a b c : List File} : (statusN a b c).length ≤ a.length + b.length + c.length := by
  have l1 := addP_len a []
  have l2 := addP_len b (addP [] a)
  have l3 := addP_len c (addP (addP [] a) b)
  simp only [List.length_nil] at l1
  unfold statusN
  have := List.length_filter_le nzC ((upaths a b c).map fun q => stN a b c q.path)
  rw [List.length_map] at this
  unfold upaths at this ⊢
  omega
theorem status_r (hn : 100010 ≤ n) (h : Sys t s d g x r A root ord K bs m) (hm : MI m) : m83 n r g t s d x = some (statusN (snapN m.nodes (atM m)) m.index m.work) := by
  have hg := h.gr.toGm
  have hw := hm.wk.num
  refine Ok.eq ?_
  unfold m83
  refine Ok_cl1 (ghead_ok hg) (Ok_nm (Ok_cl1 (at_r (by omega) hg) (Ok_cl1 (snap_r hn hg _) (Ok_cl1 (workList_ok (by omega) h.wk hw) ?_))))
  exact Ok_cl2 (status_x hn h.xf (hm.snap (atM m)).1 hm.wk) (Ok.some' rfl)
theorem status_m (hn : 100010 ≤ n) (hm : MI m) : m84 n m = some (statusN (snapN m.nodes (atM m)) m.index m.work) := by
  have h1 := hm.rl
  have h2 := hm.wn.len
  have h3 := (hm.snap (atM m)).1.num
  have h4 := hm.ix.num
  have h5 := hm.wk.num
  refine Ok.eq ?_
  unfold m84
  exact Ok_cl1 (here_m (by omega) (by omega) (by omega)) (Ok_cl1 (statusOf_ok (by omega) (by omega) (by omega) (by omega)) (Ok.some' rfl))
theorem seqs_m (hn : 100010 ≤ n) (hm : MI m) : m37 n m = some (m.nodes.map (·.seq)) := by
  have h2 := hm.wn.len
  refine Ok.eq ?_
  unfold m37
  refine Ok_ob2 ?_
  unfold m37_w1
  refine Ok_pre2 m.nodes (by omega) (by omega) (fun pre b => b = pre.map (·.seq)) rfl (fun Q lp b pre y r hQ e hI hlt hget hw ih => ?_) (fun Q lp b hQ hI => ?_)
  · subst hI
    have hpl := pre_len e
    refine Ok_ite (fun _ => Ok_ix (by omega) hlt (fun z hz => ?_)) (fun hh => absurd hlt hh)
    obtain rfl := hget z hz
    refine Ok_apd (by rw [List.length_map]; omega) ?_
    rw [hw]; exact ih _ (by simp)
  · subst hI
    exact Ok_ite (fun hh => absurd hh (by omega)) (fun _ => Ok.some' (hQ _ (Ok.some' rfl)))
theorem show_r (hn : 100010 ≤ n) (h : Sys t s d g x r A root ord K bs m) (q : Int) : m99 n r g t s d q = some (showV m q) := by
  refine Ok.eq ?_
  unfold m99 showV
  have := node_ok hn h.gr.toGm q
  rw [this]
  rw [show (histOf m).nodes = m.nodes from rfl]
  cases findN m.nodes q with
  | none => exact Ok_cl2 rfl (Ok_nm (Ok.some' rfl))
  | some y => exact Ok_cl2 rfl (Ok_nm (Ok.some' rfl))
theorem show_m (hn : 100010 ≤ n) (hm : MI m) (q : Int) : m100 n m q = some (showV m q) := by
  have h2 := hm.wn.len
  refine Ok.eq ?_
  unfold m100 showV
  refine Ok_ob1 ((findNode_ok (by omega) (by omega)).mono (fun k hk => ?_))
  rcases hk with ⟨rfl, e⟩ | ⟨k0, k1, y, hy, _, e⟩
  · rw [e]
    exact Ok_ite (fun _ => Ok_nm (Ok.some' rfl)) (fun hh => absurd (show (-1 : Int) < 0 by decide) hh)
  · rw [e]
    have hsh := hm.wn.sh y (findN_some e).1
    have hf := hsh.f
    have hp := hsh.p
    refine Ok_ite (fun hh => by omega) (fun _ => Ok_ix k0 k1 (fun z hz => ?_))
    obtain rfl := Option.some.inj (hy.symm.trans hz)
    exact Ok_cl1 (copyNode_ok (by omega) (by omega) (by omega)) (Ok_nm (Ok.some' rfl))
theorem show_b (hm : MI m) (q : Int) : (showV m q).1.files.length < 100000 ∧ (showV m q).1.parents.length < 100000 := by
  unfold showV
  cases e : findN m.nodes q with
  | none => exact ⟨by show (0 : Nat) < _; omega, by show (0 : Nat) < _; omega⟩
  | some y =>
    have hsh := hm.wn.sh y (findN_some e).1
    have hf := hsh.f
    have hp := hsh.p
    exact ⟨by show y.files.length < _; omega, by show y.parents.length < _; omega⟩
theorem findF_size {l : List File} {p : Str} {f : File} (h : Law l) (e : findF l p = some f) : f.data.length ≤ 180 := h.size f (findF_some e).1
theorem diff_r {p : Str} (hn : 100010 ≤ n) (h : Sys t s d g x r A root ord K bs m) (hm : MI m) : Ok (m102 n r e x p) (fun q => q.1 = (diffV n m p).1 ∧ q.2.1 = (diffV n m p).2) := by
  have hwn := hm.wk.num
  have hix := hm.ix
  have hwk := hm.wk
  have hget := get_x (p := p) (show 100000 ≤ n by omega) h.xf
  have dif : ∀ (a b : Str), a.length ≤ 180 → b.length ≤ 180 → Ok (ob3 (m184 n e a b) fun l c z => some (l, c, z)) (fun q => q.1 = diffH n a b ∧ q.2.1 = 0) := by
    intro a b ha hb
    obtain ⟨e', he⟩ := diff_ok (e := e) (a := a) (b := b) (show 100000 ≤ n by omega) (by omega) (by omega)
    exact Ok_cl3 he (Ok.some' ⟨rfl, rfl⟩)
  unfold m102
  rw [hget]
  have main : ∀ (f : File) (c : Int), (c = 0 ∧ findF m.index p = some f) ∨ (c = 13 ∧ f = File.zero ∧ findF m.index p = none) → Ok (ob2 (some (f, c)) fun x1 c1 => nm (x1 : File) fun z1 => ob2 (m115 n r p) fun c2 c3 => cond ((decide (¬ (c1 = 0))) && (!c3)) (some (([] : List Hunk), 13, e)) (cond c3 (Option.bind (ckA c2 8) fun _ => ob3 (m184 n e z1.data ((r.work c2).data)) fun l1 c4 z2 => some (l1, c4, z2)) (ob3 (m184 n e z1.data []) fun l2 c5 z3 => some (l2, c5, z3)))) (fun q => q.1 = (diffV n m p).1 ∧ q.2.1 = (diffV n m p).2) := by
    intro f c hc
    refine Ok_cl2 rfl (Ok_nmz fun z1 hz1 => Ok_ob2 ((place_w (p := p) (show 100000 ≤ n by omega) h.wk hwn hwk.srt).mono (fun q hq => ?_)))
    subst hz1
    obtain ⟨w1, w2, hcut, hq1, hq2⟩ := hq
    have hlw : m.work.length = w1.length + w2.length := by rw [hcut.eq, List.length_append]
    rcases hcut.find hwk.srt with ⟨w, tl, e3, e4, e5, _⟩ | ⟨e3, e4, _⟩
    · have hq2' := hq2.2 ⟨w, tl, e3, e4⟩
      have hlt : w1.length < m.work.length := by rw [hlw, e3, List.length_cons]; omega
      have hgw : r.work w1.length = w := h.wk.get w1.length w (by rw [hcut.eq, e3]; simp)
      have hws := findF_size hwk e5
      rw [hq2', hq1]
      refine Ok_cond (fun hh => ?_) (fun _ => Ok_cond (fun _ => Ok_ck (by omega) (by omega) ?_) (fun hh => nomatch hh))
      · rw [Bool.and_eq_true] at hh; exact nomatch hh.2
      · rw [hgw]
        unfold diffV
        rcases hc with ⟨rfl, hf⟩ | ⟨rfl, rfl, hf⟩
        · rw [hf, e5]
          exact dif _ _ (findF_size hix hf) hws
        · rw [hf, e5]
          exact dif _ _ (by show (0 : Nat) ≤ _; omega) hws
    · have hq2' : q.2 = false := by
        rw [← Bool.not_eq_true]; intro h1
        obtain ⟨w, tl, h2, h3⟩ := hq2.1 h1
        exact e3 w tl h2 h3
      rw [hq2']
      rcases hc with ⟨rfl, hf⟩ | ⟨rfl, rfl, hf⟩
      · unfold diffV
        rw [hf, e4]
        exact Ok_cond (fun hh => by simp at hh) (fun _ => Ok_cond (fun hh => nomatch hh) (fun _ => dif _ _ (findF_size hix hf) (by show (0 : Nat) ≤ _; omega)))
      · unfold diffV
        rw [hf, e4]
        exact Ok_cond (fun _ => Ok.some' ⟨rfl, rfl⟩) (fun hh => by simp at hh)
  cases hf : findF m.index p with
  | none => exact main _ _ (.inr ⟨rfl, rfl, hf⟩)
  | some f => exact main _ _ (.inl ⟨rfl, hf⟩)
theorem diff_m {p : Str} (hn : 100010 ≤ n) (hm : MI m) : m103 n m p = some (diffV n m p) := by
  have h4 := hm.ix.num
  have h5 := hm.wk.num
  have dif : ∀ (a b : Str), a.length ≤ 180 → b.length ≤ 180 → Ok (ob1 (m185 n a) fun l1 => ob1 (m185 n b) fun l2 => ob1 (m186 n l1 l2) fun l3 => some (l3, (0 : Int))) (fun q => q = (diffH n a b, 0)) := by
    intro a b ha hb
    have la := (lin_of (n := n) (s := a) (by omega) (by omega)).len
    have lb := (lin_of (n := n) (s := b) (by omega) (by omega)).len
    exact Ok_cl1 (split_ok (by omega) (by omega)) (Ok_cl1 (split_ok (by omega) (by omega)) (Ok_cl1 (diffLines_ok (by omega) (by omega) (by omega)) (Ok.some' rfl)))
  refine Ok.eq ?_
  unfold m103
  refine Ok_ob1 ((findX_ok (by omega) (by omega)).mono (fun i hi => Ok_ob1 ((findX_ok (by omega) (by omega)).mono (fun j hj => ?_))))
  unfold diffV
  have nil180 : ([] : Str).length ≤ 180 := by show (0 : Nat) ≤ _; omega
  rcases hi with ⟨rfl, e1⟩ | ⟨i0, i1, f, hf, e1⟩
  · rcases hj with ⟨rfl, e2⟩ | ⟨j0, j1, w, hw, e2⟩
    · rw [e1, e2]
      exact Ok_ite2 (fun _ _ => Ok.some' rfl) (fun hh => absurd (show (-1 : Int) < 0 by decide) (hh (by decide)))
    · rw [e1, e2]
      refine Ok_ite2 (fun _ hh => by omega) (fun _ => Ok_ob1 (Ok_ite (fun hh => absurd hh (by decide)) (fun _ => Ok.some' (Ok_ite (fun _ => Ok_ix j0 j1 (fun y hy => ?_)) (fun hh => absurd j0 hh)))))
      obtain rfl := Option.some.inj (hw.symm.trans hy)
      exact dif _ _ nil180 (findF_size hm.wk e2)
  · have rd : ∀ {P : Str → Prop}, P f.data → Ok (cond (decide ((0 : Int) ≤ i)) (Option.bind (ixL m.index i) fun x1 => some x1.data) (some [])) P := by
      intro P hP
      refine Ok_ite (fun _ => Ok_ix i0 i1 (fun y hy => Ok.some' ?_)) (fun hh => absurd i0 hh)
      obtain rfl := Option.some.inj (hf.symm.trans hy)
      exact hP
    rcases hj with ⟨rfl, e2⟩ | ⟨j0, j1, w, hw, e2⟩
    · rw [e1, e2]
      refine Ok_ite2 (fun hh _ => by omega) (fun _ => Ok_ob1 (rd (Ok_ite (fun hh => absurd hh (by decide)) (fun _ => dif _ _ (findF_size hm.ix e1) nil180))))
    · rw [e1, e2]
      refine Ok_ite2 (fun hh _ => by omega) (fun _ => Ok_ob1 (rd (Ok_ite (fun _ => Ok_ix j0 j1 (fun y hy => ?_)) (fun hh => absurd j0 hh))))
      obtain rfl := Option.some.inj (hw.symm.trans hy)
      exact dif _ _ (findF_size hm.ix e1) (findF_size hm.wk e2)
theorem diffV_b {p : Str} (hn : 100010 ≤ n) (hm : MI m) : (diffV n m p).1.length < 100000 ∧ ∀ h, h ∈ (diffV n m p).1 → h.del.length < 100000 ∧ h.ins.length < 100000 := by
  have nil180 : ([] : Str).length ≤ 1024 := by show (0 : Nat) ≤ _; omega
  unfold diffV
  cases e1 : findF m.index p with
  | none => cases e2 : findF m.work p with
    | none => exact ⟨by show (0 : Nat) < _; omega, fun h hh => nomatch hh⟩
    | some w =>
      have := findF_size hm.wk e2
      exact diffH_b (by omega) nil180 (by omega)
  | some f =>
    have h1 := findF_size hm.ix e1
    cases e2 : findF m.work p with
    | none => exact diffH_b (by omega) (by omega) nil180
    | some w =>
      have := findF_size hm.wk e2
      exact diffH_b (by omega) (by omega) (by omega)
end
end Go.Proofs.Qxb6500350aGreat
