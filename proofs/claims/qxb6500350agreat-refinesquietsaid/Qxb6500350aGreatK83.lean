/- PLAIN LAW: THE TOWER'S LAW (3): SAME, SOUND, ALIKE. -/
import Derived.Test.Qxb6500350aGreatK82
set_option linter.unusedVariables false
set_option linter.unusedSimpArgs false
set_option maxHeartbeats 2000000
namespace Go.Proofs.Qxb6500350aGreat
open Go.Eng Go
/-- two models that no observer tells apart -/
structure Agr (m m' : RepoM) : Prop where
  nodes : m.nodes = m'.nodes
  nxt : m.nxt = m'.nxt
  refs : m.refs = m'.refs
  head : m.head = m'.head
  index : m.index = m'.index
  work : m.work = m'.work
section
variable {n : Nat} {t : Trees} {s : Store} {d : Dev} {g : Graph} {x : Index} {r : RepoR} {e : Engine} {A : Int → Ob} {root : Int} {ord : List Int} {K : Int → CI} {bs : List Brn} {m m' : RepoM}
theorem Agr.atM (h : Agr m m') : atM m = atM m' := by unfold Go.Proofs.Qxb6500350aGreat.atM; rw [h.refs, h.head]
theorem Agr.diffV (h : Agr m m') (p : Str) : diffV n m p = diffV n m' p := by unfold Go.Proofs.Qxb6500350aGreat.diffV; rw [h.index, h.work]
theorem Agr.showV (h : Agr m m') (q : Int) : showV m q = showV m' q := by unfold Go.Proofs.Qxb6500350aGreat.showV; rw [h.nodes]
theorem al_log {once : Bool} (hn : 100010 ≤ n) (h : Sys t s d g x r A root ord K bs m) (hm : MI m) (hm' : MI m') : Ok (m29 n r g m' once) (fun v => v = true ↔ logN m.nodes (atM m) = logN m'.nodes (atM m')) := by
  have hl := hm.wn.len
  have hb := logN_len (l := m.nodes) (q := atM m)
  have hs := sameInts_ok (n := n) (a := logN m.nodes (atM m)) (b := logN m'.nodes (atM m')) (by omega) (by omega)
  have hr := log_r hn h hm
  unfold m29
  refine Ok_cl1 hr (Ok_cl1 (log_m hn hm') (Ok_cl1 hs (Ok_cond (fun _ => Ok_bs (Ok.some' (decide_eq_true_iff))) (fun _ => ?_))))
  exact Ok_cl1 hr (Ok_cl1 hr (Ok_bs (Ok_cl1 hs (Ok_bs (Ok_cl1 hs (Ok_bs (Ok.some' (by rw [Bool.and_self, Bool.and_self, decide_eq_true_iff]))))))))
theorem al_status {once : Bool} (hn : 100010 ≤ n) (h : Sys t s d g x r A root ord K bs m) (hm : MI m) (hm' : MI m') : Ok (m30 n r g t s d x m' once) (fun v => v = true ↔ statusN (snapN m.nodes (atM m)) m.index m.work = statusN (snapN m'.nodes (atM m')) m'.index m'.work) := by
  have l1 := (hm.snap (atM m)).1.num
  have l2 := hm.ix.num
  have l3 := hm.wk.num
  have hb := statusN_len (a := snapN m.nodes (atM m)) (b := m.index) (c := m.work)
  have hs := sameChgs_ok (n := n) (a := statusN (snapN m.nodes (atM m)) m.index m.work) (b := statusN (snapN m'.nodes (atM m')) m'.index m'.work) (by omega) (by omega)
  have hr := status_r hn h hm
  unfold m30
  refine Ok_cl1 hr (Ok_cl1 (status_m hn hm') (Ok_cl1 hs (Ok_cond (fun _ => Ok_bs (Ok.some' (decide_eq_true_iff))) (fun _ => ?_))))
  exact Ok_cl1 hr (Ok_cl1 hr (Ok_bs (Ok_cl1 hs (Ok_bs (Ok_cl1 hs (Ok_bs (Ok.some' (by rw [Bool.and_self, Bool.and_self, decide_eq_true_iff]))))))))
theorem al_seqs {once : Bool} (hn : 100010 ≤ n) (h : Sys t s d g x r A root ord K bs m) (hm : MI m) (hm' : MI m') : Ok (m31 n r g m' once) (fun v => v = true ↔ m.nodes.map (·.seq) = m'.nodes.map (·.seq)) := by
  have hl := hm.wn.len
  have hs := sameInts_ok (n := n) (a := m.nodes.map (·.seq)) (b := m'.nodes.map (·.seq)) (by omega) (by rw [List.length_map]; omega)
  have hr : m87 n r g = some (m.nodes.map (·.seq)) := by
    refine Ok.eq ?_
    unfold m87
    exact Ok_cl1 (gseqs_ok (by omega) h.gr.toGm) (Ok.some' rfl)
  unfold m31
  refine Ok_cl1 hr (Ok_cl1 (seqs_m hn hm') (Ok_cl1 hs (Ok_cond (fun _ => Ok_bs (Ok.some' (decide_eq_true_iff))) (fun _ => ?_))))
  exact Ok_cl1 hr (Ok_cl1 hr (Ok_bs (Ok_cl1 hs (Ok_bs (Ok_cl1 hs (Ok_bs (Ok.some' (by rw [Bool.and_self, Bool.and_self, decide_eq_true_iff]))))))))
theorem al_next (h : Sys t s d g x r A root ord K bs m) : Ok (m32 n r g m') (fun v => v = true ↔ m.nxt = m'.nxt) := by
  have hx : g.nxt = m.nxt := h.gr.toGm.nxt.symm
  unfold m32
  refine Ok_cl1 (a0 := g.nxt) rfl (Ok_cl1 (a0 := m'.nxt) rfl (Ok.some' ?_))
  rw [decide_eq_true_iff, hx]
theorem al_head (h : Sys t s d g x r A root ord K bs m) : Ok (m33 n r g m') (fun v => v = true ↔ m.head = m'.head) := by
  have hr : m89 n r g = some m.head := by
    refine Ok.eq ?_
    unfold m89
    exact Ok_cl1 (ghead_ok h.gr.toGm) (Ok_nm (Ok.some' rfl))
  have hmm : m90 n m' = some m'.head := by
    refine Ok.eq ?_
    unfold m90
    exact Ok_nm (Ok.some' rfl)
  unfold m33
  refine Ok_cl1 hr (Ok_nm (Ok_cl1 hmm (Ok_nm (Ok.some' decide_eq_true_iff))))
theorem al_branches {once : Bool} (hn : 100010 ≤ n) (h : Sys t s d g x r A root ord K bs m) (hm : MI m) (hm' : MI m') : Ok (m34 n r g m' once) (fun v => v = true ↔ m.refs = m'.refs) := by
  have hl := hm.rl
  have hl' := hm'.rl
  have hs := sameRefs_ok (n := n) (a := m.refs) (b := m'.refs) (by omega) (by omega)
  have hr : m91 n r g = some m.refs := by
    refine Ok.eq ?_
    unfold m91
    exact Ok_cl1 (gbranches_ok (by omega) h.gr.toGm) (Ok.some' rfl)
  have hmm : m92 n m' = some m'.refs := by
    refine Ok.eq ?_
    unfold m92
    exact Ok_cl1 (copyRefs_ok (by omega) (by omega)) (Ok.some' rfl)
  unfold m34
  refine Ok_cl1 hr (Ok_cl1 hmm (Ok_cl1 hs (Ok_cond (fun _ => Ok_bs (Ok.some' (decide_eq_true_iff))) (fun _ => ?_))))
  exact Ok_cl1 hr (Ok_cl1 hr (Ok_bs (Ok_cl1 hs (Ok_bs (Ok_cl1 hs (Ok_bs (Ok.some' (by rw [Bool.and_self, Bool.and_self, decide_eq_true_iff]))))))))
theorem index_m (hn : 100010 ≤ n) (hm' : MI m') : m40 n m' = some m'.index := by
  have hl' := hm'.ix.num
  refine Ok.eq ?_
  unfold m40
  exact Ok_cl1 (copyFiles_ok (by omega) (by omega)) (Ok.some' rfl)
theorem work_m (hn : 100010 ≤ n) (hm' : MI m') : m42 n m' = some m'.work := by
  have hl' := hm'.wk.num
  refine Ok.eq ?_
  unfold m42
  exact Ok_cl1 (copyFiles_ok (by omega) (by omega)) (Ok.some' rfl)
theorem al_index {once : Bool} (hn : 100010 ≤ n) (h : Sys t s d g x r A root ord K bs m) (hm : MI m) (hm' : MI m') : Ok (m35 n r x m' once) (fun v => v = true ↔ m.index = m'.index) := by
  have hl := hm.ix.num
  have hs := sameFiles_ok (n := n) (a := m.index) (b := m'.index) (by omega) (by omega)
  have hr : m95 n r x = some m.index := by
    refine Ok.eq ?_
    unfold m95
    exact Ok_cl1 (list_x hn h.xf) (Ok.some' rfl)
  unfold m35
  refine Ok_cl1 hr (Ok_cl1 (index_m hn hm') (Ok_cl1 hs (Ok_cond (fun _ => Ok_bs (Ok.some' (decide_eq_true_iff))) (fun _ => ?_))))
  exact Ok_cl1 hr (Ok_cl1 hr (Ok_bs (Ok_cl1 hs (Ok_bs (Ok_cl1 hs (Ok_bs (Ok.some' (by rw [Bool.and_self, Bool.and_self, decide_eq_true_iff]))))))))
theorem al_work {once : Bool} (hn : 100010 ≤ n) (h : Sys t s d g x r A root ord K bs m) (hm : MI m) (hm' : MI m') : Ok (m36 n r m' once) (fun v => v = true ↔ m.work = m'.work) := by
  have hl := hm.wk.num
  have hs := sameFiles_ok (n := n) (a := m.work) (b := m'.work) (by omega) (by omega)
  have hr : m98 n r = some m.work := by
    refine Ok.eq ?_
    unfold m98
    exact Ok_cl1 (workList_ok (by omega) h.wk hl) (Ok.some' rfl)
  unfold m36
  refine Ok_cl1 hr (Ok_cl1 (work_m hn hm') (Ok_cl1 hs (Ok_cond (fun _ => Ok_bs (Ok.some' (decide_eq_true_iff))) (fun _ => ?_))))
  exact Ok_cl1 hr (Ok_cl1 hr (Ok_bs (Ok_cl1 hs (Ok_bs (Ok_cl1 hs (Ok_bs (Ok.some' (by rw [Bool.and_self, Bool.and_self, decide_eq_true_iff]))))))))
theorem al_show {once : Bool} (hn : 100010 ≤ n) (h : Sys t s d g x r A root ord K bs m) (hm : MI m) (hm' : MI m') (q : Int) : Ok (m38 n r g t s d m' q once) (fun v => v = true ↔ showV m q = showV m' q) := by
  have hb := show_b hm q
  have hs := sameNode_ok (n := n) (a := (showV m q).1) (b := (showV m' q).1) (by omega) hb.1 hb.2
  have hr : m99 n r g t s d q = some ((showV m q).1, (showV m q).2) := show_r hn h q
  have hmm : m100 n m' q = some ((showV m' q).1, (showV m' q).2) := show_m hn hm' q
  have key : ((showV m q).1 = (showV m' q).1 ∧ (showV m q).2 = (showV m' q).2) ↔ showV m q = showV m' q := Prod.ext_iff.symm
  unfold m38
  refine Ok_cl2 hr (Ok_nm (Ok_cl2 hmm (Ok_nm (Ok_cl1 hs (Ok_cond (fun _ => Ok_bs (Ok_bs (Ok.some' ?_))) (fun _ => ?_))))))
  · rw [Bool.and_eq_true, decide_eq_true_iff, decide_eq_true_iff]; exact key
  · refine Ok_cl2 hr (Ok_nm (Ok_cl2 hr (Ok_nm (Ok_bs (Ok_bs (Ok_cl1 hs (Ok_bs (Ok_bs (Ok_cl1 hs (Ok_bs (Ok_bs (Ok.some' ?_))))))))))))
    simp only [Bool.and_eq_true, decide_eq_true_iff]
    rw [← key]
    constructor
    · rintro ⟨⟨⟨⟨⟨h1, _⟩, _⟩, h2⟩, _⟩, _⟩; exact ⟨h1, h2⟩
    · rintro ⟨h1, h2⟩; exact ⟨⟨⟨⟨⟨h1, h1⟩, h1⟩, h2⟩, h2⟩, h2⟩
theorem al_diff {p : Str} {once : Bool} (hn : 100010 ≤ n) (h : Sys t s d g x r A root ord K bs m) (hm : MI m) (hm' : MI m') : Ok (m41 n r e x m' p once) (fun v => v.1 = true ↔ diffV n m p = diffV n m' p) := by
  have hb := diffV_b (p := p) hn hm
  have hs := sameHunks_ok (n := n) (a := (diffV n m p).1) (b := (diffV n m' p).1) (by omega) hb.1 hb.2
  have hmm : m103 n m' p = some ((diffV n m' p).1, (diffV n m' p).2) := diff_m hn hm'
  have key : ((diffV n m p).1 = (diffV n m' p).1 ∧ (diffV n m p).2 = (diffV n m' p).2) ↔ diffV n m p = diffV n m' p := Prod.ext_iff.symm
  unfold m41
  refine Ok_ob3 ((diff_r (e := e) (p := p) hn h hm).mono (fun q hq => ?_))
  obtain ⟨h1, h2⟩ := hq
  rw [h1, h2]
  refine Ok_cl2 hmm (Ok_cl1 hs (Ok_cond (fun _ => Ok_bs (Ok.some' ?_)) (fun _ => ?_)))
  · show (decide _ && decide _) = true ↔ _
    rw [Bool.and_eq_true, decide_eq_true_iff, decide_eq_true_iff]; exact key
  · refine Ok_ob3 ((diff_r (e := q.2.2) (p := p) hn h hm).mono (fun q2 hq2 => ?_))
    obtain ⟨h3, h4⟩ := hq2
    rw [h3, h4]
    refine Ok_ob3 ((diff_r (e := q2.2.2) (p := p) hn h hm).mono (fun q3 hq3 => ?_))
    obtain ⟨h5, h6⟩ := hq3
    rw [h5, h6]
    refine Ok_bs (Ok_cl1 hs (Ok_bs (Ok_cl1 hs (Ok_bs (Ok.some' ?_)))))
    show (((((decide _ && decide _) && decide _) && decide _) && decide _) && decide _) = true ↔ _
    simp only [Bool.and_eq_true, decide_eq_true_iff]
    rw [← key]
    constructor
    · rintro ⟨⟨⟨⟨⟨k1, _⟩, _⟩, k2⟩, _⟩, _⟩; exact ⟨k1, k2⟩
    · rintro ⟨k1, k2⟩; exact ⟨⟨⟨⟨⟨k1, k1⟩, k1⟩, k2⟩, k2⟩, k2⟩
/-- the repository's own Check -/
theorem rcheck_ok (hn : 100010 ≤ n) (h : Sys t s d g x r A root ord K bs m) (hm : MI m) : m111 n r g t s d x = some true := by
  have hg := h.gr.toGm
  have hw := hm.wk.num
  have hi := hm.ix.num
  have hrn := h.wk.n
  refine Ok.eq ?_
  unfold m111
  refine Ok_iteO (fun e => by omega) (fun _ _ => Ok_cl1 (workList_ok (by omega) h.wk hw) (Ok_cl1 (checkFiles_ok (by omega)) (Ok_ite (fun e => absurd ((chkF_iff).2 hm.wk) e) (fun _ => Ok_flow ?_))))
  unfold m111_w1
  refine Ok_pre1 m.work (by omega) (by omega) (fun _ => True) trivial (fun Q lp pre y z hQ e hI hlt hget hwr ih => ?_) (fun Q lp hQ hI => ?_)
  · have hy0 := hm.wm y (by rw [e]; simp)
    refine Ok_ite (fun _ => Ok_ix (by omega) hlt (fun y' hy' => ?_)) (fun hh => absurd hlt hh)
    obtain rfl := hget y' hy'
    refine Ok_ite (fun hh => absurd hy0 hh) (fun _ => ?_)
    rw [hwr]; exact ih trivial
  refine Ok_ite (fun hh => absurd hh (by omega)) (fun _ => Ok.some' (hQ _ ?_))
  clear hQ
  refine Ok_cl1 (list_x hn h.xf) (Ok_cl1 (gaux_ok hn hg) (Ok_cl1 (sameFiles_ok (by omega) (by omega)) (Ok_iteN (fun hh => absurd rfl (of_decide_eq_false hh)) (fun _ => Ok_cl1 (ghead_ok hg) (Ok_nm (Ok_flow ?_))))))
  unfold m111_w2
  refine Ok_pre1 m.index (by omega) (by omega) (fun _ => True) trivial (fun Q lp pre y z hQ e hI hlt hget hwr ih => ?_) (fun Q lp hQ hI => ?_)
  · have hy0 := hm.im y (by rw [e]; simp)
    refine Ok_ite (fun _ => Ok_ob1 (Ok_ix (by omega) hlt (fun y' hy' => ?_))) (fun hh => absurd hlt hh)
    obtain rfl := hget y' hy'
    have next : Ok (lp (wi ((pre.length : Int) + 1))) Q := by rw [hwr]; exact ih trivial
    refine Ok_ite (fun h1 => Ok.some' (Ok_cond (fun h2 => ?_) (fun _ => next))) (fun _ => Ok.some' (Ok_cond (fun h2 => nomatch h2) (fun _ => next)))
    have h2 := of_decide_eq_true h2
    rcases hy0 with h3 | h3
    · omega
    · exact absurd h2 h3.2
  · exact Ok_ite (fun hh => absurd hh (by omega)) (fun _ => Ok.some' (hQ _ (Ok.some' rfl)))
theorem soundAll_ok {b : Below} (hn : 100010 ≤ n) (h : Sys t s d g x r A root ord K bs m) (hm : MI m) : m43 n d g s r t x b = some true := by
  have hg := h.gr
  refine Ok.eq ?_
  unfold m43
  refine Ok_cl1 (check_ok (by omega) hg.lt.gd.toWf hg.lt.st) (Ok_cond (fun e => nomatch e) (fun _ => Ok_cl1 (tcheck_ok (by omega) hg.lt) (Ok_cond (fun e => nomatch e) (fun _ => Ok_cl1 (gcheck_ok (by omega) hg) (Ok_cond (fun e => nomatch e) (fun _ => ?_))))))
  exact Ok_cl1 (check_x hn h.xf) (Ok_cond (fun e => nomatch e) (fun _ => Ok_cl1 (a0 := true) rfl (Ok_cond (fun e => nomatch e) (fun _ => Ok_cl1 (rcheck_ok hn h hm) (Ok.some' rfl)))))
theorem free_s {b : Below} (h : Sys t s d g x r A root ord K bs m) : m16 n s b = some (nfr A : Int) := by
  show (some s.nfree : Option Int) = _
  rw [h.gr.lt.st.nf]
theorem roomIs_ok {b : Below} : m44 n g s r t b = some true := by
  refine Ok.eq ?_
  unfold m44
  exact Ok_cl1 (a0 := s.nfree) rfl (Ok_cl1 (a0 := s.nfree) rfl (Ok.some' (decide_eq_true rfl)))
theorem roomHolds_ok {b : Below} {exact : Bool} (h : Sys t s d g x r A root ord K bs m) : Ok (m20 n s m' b exact) (fun v => v = true ↔ if exact = true then (nfr A : Int) = m'.room else m'.room ≤ nfr A) := by
  unfold m20
  refine Ok_cl1 (free_s h) (Ok_cl1 (a0 := m'.room) rfl (Ok_cond (fun e => Ok.some' ?_) (fun e => Ok.some' ?_)))
  · rw [if_pos e, decide_eq_true_iff]
  · rw [if_neg (by rw [e]; decide), decide_eq_true_iff]
theorem agr_of (hm : MI m) (hm' : MI m') (h3 : m.nodes.map (·.seq) = m'.nodes.map (·.seq)) (h4 : m.nxt = m'.nxt) (h5 : m.head = m'.head) (h6 : m.refs = m'.refs) (h7 : m.index = m'.index) (h8 : m.work = m'.work)
    (h9 : ∀ y, y ∈ m'.nodes → showV m y.seq = showV m' y.seq) : Agr m m' := by
  refine ⟨?_, h4, h6, h5, h7, h8⟩
  have hlen : m.nodes.length = m'.nodes.length := by have := congrArg List.length h3; rwa [List.length_map, List.length_map] at this
  refine List.ext_getElem hlen (fun i hi hi' => ?_)
  have hsq : m.nodes[i].seq = m'.nodes[i].seq := by
    have := congrArg (fun l => l[i]?) h3
    simp only [List.getElem?_map, List.getElem?_eq_getElem hi, List.getElem?_eq_getElem hi', Option.map_some] at this
    exact Option.some.inj this
  have hs := h9 m'.nodes[i] (List.getElem_mem hi')
  unfold showV at hs
  have e1 := hm.wn.find (List.getElem_mem hi)
  rw [hsq] at e1
  rw [e1, hm'.wn.find (List.getElem_mem hi')] at hs
  exact congrArg Prod.fst hs
theorem alike_ok {b : Below} {exact : Bool} (hn : 100010 ≤ n) (h : Sys t s d g x r A root ord K bs m) (hm : MI m) (hm' : MI m') :
    Ok (m14 n d e g s r t x m' b exact) (fun q => q.1 = true ↔ Agr m m' ∧ (if exact = true then (nfr A : Int) = m'.room else m'.room ≤ nfr A)) := by
  have hnn := hm'.wn.len
  have hni := hm'.ix.num
  have hnw := hm'.wk.num
  have fail : ∀ e', ¬ Agr m m' → Ok (some (false, e')) (fun (q : Bool × Engine) => q.1 = true ↔ Agr m m' ∧ (if exact = true then (nfr A : Int) = m'.room else m'.room ≤ nfr A)) :=
    fun e' hno => Ok.some' ⟨(fun hh => nomatch hh), fun hh => absurd hh.1 hno⟩
  have no : ∀ {v : Bool} {P : Prop}, (v = true ↔ P) → v = false → (Agr m m' → P) → ¬ Agr m m' := fun h1 h2 h3 h4 => by
    have := h1.2 (h3 h4); rw [h2] at this; cases this
  unfold m14
  refine Ok_ob1 ((al_log hn h hm hm').mono (fun v1 hv1 => Ok_iteN (fun e1 => fail _ (no hv1 e1 fun a => by rw [a.nodes, a.atM])) (fun e1 => ?_)))
  refine Ok_ob1 ((al_status hn h hm hm').mono (fun v2 hv2 => Ok_iteN (fun e2 => fail _ (no hv2 e2 fun a => by rw [a.nodes, a.atM, a.index, a.work])) (fun e2 => ?_)))
  refine Ok_ob1 ((al_seqs hn h hm hm').mono (fun v3 hv3 => Ok_iteN (fun e3 => fail _ (no hv3 e3 fun a => by rw [a.nodes])) (fun e3 => ?_)))
  refine Ok_ob1 ((al_next h).mono (fun v4 hv4 => Ok_iteN (fun e4 => fail _ (no hv4 e4 fun a => a.nxt)) (fun e4 => ?_)))
  refine Ok_ob1 ((al_head h).mono (fun v5 hv5 => Ok_iteN (fun e5 => fail _ (no hv5 e5 fun a => a.head)) (fun e5 => ?_)))
  refine Ok_ob1 ((al_branches hn h hm hm').mono (fun v6 hv6 => Ok_iteN (fun e6 => fail _ (no hv6 e6 fun a => a.refs)) (fun e6 => ?_)))
  refine Ok_ob1 ((al_index hn h hm hm').mono (fun v7 hv7 => Ok_iteN (fun e7 => fail _ (no hv7 e7 fun a => a.index)) (fun e7 => ?_)))
  refine Ok_ob1 ((al_work hn h hm hm').mono (fun v8 hv8 => Ok_iteN (fun e8 => fail _ (no hv8 e8 fun a => a.work)) (fun e8 => ?_)))
  refine Ok_cl1 (seqs_m hn hm') (Ok_flow ?_)
  unfold m14_w1
  refine Ok_pre1 (m'.nodes.map (·.seq)) (by rw [List.length_map]; omega) (by omega) (fun pre => ∀ q, q ∈ pre → showV m q = showV m' q) (fun _ hq => nomatch hq) (fun Q lp pre y z hQ e hI hlt hget hwr ih => ?_) (fun Q lp hQ hI => ?_)
  · refine Ok_ite (fun _ => Ok_ix (by omega) hlt (fun y' hy' => ?_)) (fun hh => absurd hlt hh)
    obtain rfl := hget y' hy'
    refine Ok_ob1 ((al_show hn h hm hm' y).mono (fun v hv => Ok_iteN (fun e9 => Ok_bs (Ok.some' (hQ _ (fail _ (no hv e9 fun a => a.showV y))))) (fun e9 => ?_)))
    rw [hwr]
    refine ih (fun q hq => ?_)
    rcases List.mem_append.1 hq with hq | hq
    · exact hI q hq
    · rw [List.mem_singleton.1 hq]; exact hv.1 e9
  refine Ok_ite (fun hh => absurd hh (by omega)) (fun _ => Ok.some' (hQ _ ?_))
  clear hQ
  have hagr : Agr m m' := agr_of hm hm' (hv3.1 e3) (hv4.1 e4) (hv5.1 e5) (hv6.1 e6) (hv7.1 e7) (hv8.1 e8) (fun y hy => hI y.seq (List.mem_map_of_mem hy))
  refine Ok_ob1 ((al_show hn h hm hm' 0).mono (fun v hv => Ok_iteN (fun e9 => fail _ (no hv e9 fun a => a.showV 0)) (fun e9 => ?_)))
  refine Ok_cl1 (a0 := m'.nxt) rfl (Ok_ob1 ((al_show hn h hm hm' m'.nxt).mono (fun v hv => Ok_iteN (fun e9 => fail _ (no hv e9 fun a => a.showV _)) (fun e9 => ?_))))
  refine Ok_cl1 (index_m hn hm') (Ok_flow ?_)
  unfold m14_w2
  refine Ok_pre2' m'.index (by omega) (by omega) (fun _ _ => True) trivial (fun Q lp eb pre y z hQ e hI2 hlt hget hwr ih => ?_) (fun Q lp eb hQ hI2 => ?_)
  · refine Ok_ite (fun _ => Ok_ix (by omega) hlt (fun y' hy' => ?_)) (fun hh => absurd hlt hh)
    obtain rfl := hget y' hy'
    refine Ok_ob2 ((al_diff (e := eb) hn h hm hm').mono (fun v hv => Ok_iteN (fun e9 => Ok_bs (Ok.some' (hQ _ (fail _ (no hv e9 fun a => a.diffV y.path))))) (fun e9 => ?_)))
    rw [hwr]
    exact ih _ trivial
  refine Ok_ite (fun hh => absurd hh (by omega)) (fun _ => Ok.some' (hQ _ ?_))
  clear hQ
  refine Ok_cl1 (work_m hn hm') (Ok_flow ?_)
  unfold m14_w3
  refine Ok_pre2' m'.work (by omega) (by omega) (fun _ _ => True) trivial (fun Q lp ec pre y z hQ e hI2 hlt hget hwr ih => ?_) (fun Q lp ec hQ hI2 => ?_)
  · refine Ok_ite (fun _ => Ok_ix (by omega) hlt (fun y' hy' => ?_)) (fun hh => absurd hlt hh)
    obtain rfl := hget y' hy'
    refine Ok_ob2 ((al_diff (e := ec) hn h hm hm').mono (fun v hv => Ok_iteN (fun e9 => Ok_bs (Ok.some' (hQ _ (fail _ (no hv e9 fun a => a.diffV y.path))))) (fun e9 => ?_)))
    rw [hwr]
    exact ih _ trivial
  refine Ok_ite (fun hh => absurd hh (by omega)) (fun _ => Ok.some' (hQ _ ?_))
  clear hQ
  refine Ok_cl1 (soundAll_ok hn h hm) (Ok_cond (fun e => nomatch e) (fun _ => Ok_cl1 roomIs_ok (Ok_cond (fun e => nomatch e) (fun _ => Ok_ob1 ((roomHolds_ok h).mono (fun v hv => Ok.some' ?_))))))
  exact hv.trans ⟨fun hh => ⟨hagr, hh⟩, fun hh => hh.2⟩
end
end Go.Proofs.Qxb6500350aGreat
