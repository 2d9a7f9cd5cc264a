/- PLAIN LAW: THE GRAPH LAYER'S CHECK. -/
import Derived.Test.Qxb6500350aGreatK45
import Derived.Test.Qxb6500350aGreatT108
set_option linter.unusedVariables false
set_option linter.unusedSimpArgs false
set_option maxHeartbeats 2000000
namespace Go.Proofs.Qxb6500350aGreat
open Go.Eng Go
theorem sameCommit_ok {n : Nat} {a : Com} (hn : 100000 ≤ n) : m263 n a a = some true := by
  refine Ok.eq ?_
  unfold m263
  have : ((((a.used != a.used) || (decide (¬ (a.seq = a.seq)))) || (decide (¬ (a.tree = a.tree)))) || (decide (¬ (a.np = a.np)))) = false := by simp
  rw [this]
  refine Ok_cond (fun e => nomatch e) (fun _ => Ok_flow ?_)
  unfold m263_w1
  refine Ok_it1 (fun (c : Int) => 0 ≤ c ∧ c ≤ 2) (fun (c : Int) => (2 - c).toNat) ?_ n 0 ⟨by omega, by omega⟩ (by show ((2 : Int) - 0).toNat < n; omega)
  rintro Q lp c hQ ⟨i0, i1⟩ ih
  refine Ok_ite (fun hc => Ok_ck (by omega) (by omega) (Ok_ck (by omega) (by omega) (Ok_ite (fun e => absurd rfl e) (fun _ => ?_)))) (fun hc => Ok.some' (hQ _ (Ok.some' rfl)))
  rw [wi_e (by omega) (by omega)]
  exact ih _ ⟨by omega, by omega⟩ (by omega)
section
variable {n : Nat} {t : Trees} {s : Store} {d : Dev} {g : Graph} {A : Int → Ob} {root : Int} {ord : List Int} {K : Int → CI} {bs : List Brn} {H : Hist}
theorem isCommit_ok (h : Tab g A ord K) {i : Int} (hi : i ∈ ord) : m264 n g i = some true := by
  have := h.rng hi
  refine Ok.eq ?_
  unfold m264
  refine Ok_ob1 (Ok_ite (fun _ => Ok_ite (fun _ => Ok_ck (by omega) (by omega) (Ok.some' (Ok.some' ?_))) (fun e => by omega)) (fun e => by omega))
  rw [h.com i hi]; rfl
theorem gisTree_ok (hn : 100000 ≤ n) (h : LT t s d A root) {i : Int} (hi : isTr A i) : m265 n g t s d i = some true := by
  refine Ok.eq ?_
  unfold m265
  have hg := tget_ok hn h i
  rw [if_pos hi] at hg
  exact Ok_cl3 hg (Ok.some' rfl)
theorem ord_nodup (h : Tab g A ord K) : ord.Nodup := by
  refine List.Pairwise.imp ?_ h.od.srt
  intro a b hab e; subst e; omega
theorem tableFine_ok (hn : 100000 ≤ n) (h : Gr t s d g A root ord K bs H) : m197 n g t s d = some true := by
  have ht := h.tab
  have hrk := h.rk
  have hnd := ord_nodup ht
  have hgn := ht.od.n
  have hle := ht.le
  refine Ok.eq ?_
  unfold m197
  refine Ok_flow ?_
  unfold m197_w1
  refine Ok_it3 (fun (a b c : Int) => 1 ≤ c ∧ c ≤ 49 ∧ a = (if root < c then 1 else 0) ∧ b = (ord.filter fun x => decide (x < c)).length) (fun (_ _ c : Int) => (49 - c).toNat) ?_ n 0 0 1 ⟨by omega, by omega, by rw [if_neg (by have := hrk.1; omega)], ?_⟩ (by show ((49 : Int) - 1).toNat < n; omega)
  rotate_left
  · have : ord.filter (fun x => decide (x < 1)) = [] := List.filter_eq_nil_iff.2 fun x hx => by have := ht.rng hx; simp; omega
    rw [this]; rfl
  rintro Q lp a b c hQ ⟨i0, i1, i2, i3⟩ ih
  have hfl := List.length_filter_le (fun x => decide (x < c)) ord
  refine Ok_ite (fun hc => ?_) (fun hc => ?_)
  · have hroot : c ≠ root → a = (if root < c + 1 then 1 else 0) := fun e => by
      rw [i2]
      by_cases e2 : root < c
      · rw [if_pos e2, if_pos (by omega)]
      · rw [if_neg e2, if_neg (by omega)]
    have hno : c ∉ ord → b = (ord.filter fun x => decide (x < c + 1)).length := fun e => by
      rw [i3]
      congr 2
      refine List.filter_congr fun x hx => decide_eq_decide.2 ⟨fun _ => by omega, fun h1 => ?_⟩
      have : x ≠ c := fun e2 => e (e2 ▸ hx)
      omega
    by_cases hco : c ∈ ord
    · have hcr : c ≠ root := fun e => by
        have h1 := ((ht.ob c).1 hco).2.2.2
        rw [e] at h1
        have := hrk.2.2.2; omega
      refine Ok_cl3 (cget_ok hn h.lt ht hco) (Ok_ck (by omega) (by omega) ?_)
      rw [ht.com c hco]
      refine Ok_cond (fun e => nomatch e) (fun _ => Ok_cond (fun _ => ?_) (fun e => absurd e (by decide)))
      refine Ok_cl3 (cdec_ok hn ht hco) (Ok_nm (Ok_cond (fun e => absurd e (by decide)) (fun _ => Ok_ck (by omega) (by omega) ?_)))
      refine Ok_cl1 (sameCommit_ok hn) (Ok_cond (fun e => absurd e (by decide)) (fun _ => Ok_cond (fun e => absurd e (by decide)) (fun _ => ?_)))
      rw [wi_e (x := b + 1) (by omega) (by omega), wi_e (x := c + 1) (by omega) (by omega)]
      refine ih _ _ _ ⟨by omega, by omega, hroot hcr, ?_⟩ (by omega)
      have := cnt_one (l := ord) (i := c) (p := fun x => decide (x < c + 1)) (q := fun x => decide (x < c)) (decide_eq_true (by omega)) (decide_eq_false (by omega)) (fun j hj => decide_eq_decide.2 (by omega)) hnd hco
      rw [i3, this]; omega
    · have hg := tget_ok (n := n) hn h.lt c
      have hcom := ht.noc c (by omega) hc hco
      by_cases hr : c = root
      · subst hr
        rw [if_neg (fun e => by have h1 := e.2.2.2; have h2 := hrk.2.2.2; omega), if_pos ⟨hrk.1, hrk.2.1, hrk.2.2.1⟩, hrk.2.2.2] at hg
        refine Ok_cl3 hg (Ok_ck (by omega) (by omega) ?_)
        rw [hcom]
        refine Ok_cond (fun e => absurd e (by decide)) (fun _ => Ok_cond (fun e => absurd e (by decide)) (fun _ => Ok_cond (fun _ => ?_) (fun e => absurd e (by decide))))
        have ha : a = 0 := by rw [i2, if_neg (by omega)]
        rw [wi_e (x := a + 1) (by omega) (by omega), wi_e (x := c + 1) (by omega) (by omega)]
        refine ih _ _ _ ⟨by omega, by omega, by rw [ha, if_pos (by omega)]; rfl, hno hco⟩ (by omega)
      · have next : Ok (lp a b (wi (c + 1))) Q := by
          rw [wi_e (by omega) (by omega)]
          exact ih _ _ _ ⟨by omega, by omega, hroot hr, hno hco⟩ (by omega)
        have go : ∀ (k : Int) (l : List UInt8) (e : Int), m219 n t s d c = some (k, l, e) → ¬ (e = 0 ∧ k = 3) → ¬ (e = 0 ∧ k = 4) → Ok (ob3 (m219 n t s d c) fun c7 l1 c8 =>
            Option.bind (ckA c 49) fun _ => cond (((decide (c8 = 0)) && (decide (c7 = 3))) != (g.com c).used) (Option.bind (some false) fun q1 => some (.ret q1)) (
            cond ((decide (c8 = 0)) && (decide (c7 = 3))) (ob3 (m220 n l1) fun x1 c9 c10 => nm (x1 : Com) fun z1 => cond (!c10) (Option.bind (some false) fun q2 => some (.ret q2)) (
            Option.bind (ckA c 49) fun _ => ob1 (m263 n z1 (g.com c)) fun c11 => cond (!c11) (Option.bind (some false) fun q3 => some (.ret q3)) (
            cond ((decide (c8 = 0)) && (decide (c7 = 4))) (lp (wi (a + 1)) (wi (b + 1)) (wi (c + 1))) (lp a (wi (b + 1)) (wi (c + 1)))))) (
            cond ((decide (c8 = 0)) && (decide (c7 = 4))) (lp (wi (a + 1)) b (wi (c + 1))) (lp a b (wi (c + 1)))))) Q := by
          intro k l e hg' n3 n4
          refine Ok_cl3 hg' (Ok_ck (by omega) (by omega) ?_)
          rw [hcom]
          have e3 : ((decide (e = 0)) && (decide (k = 3))) = false := by rw [← Bool.not_eq_true, Bool.and_eq_true, decide_eq_true_eq, decide_eq_true_eq]; exact n3
          have e4 : ((decide (e = 0)) && (decide (k = 4))) = false := by rw [← Bool.not_eq_true, Bool.and_eq_true, decide_eq_true_eq, decide_eq_true_eq]; exact n4
          rw [e3, e4]
          exact Ok_cond (fun e => absurd e (by decide)) (fun _ => Ok_cond (fun e => absurd e (by decide)) (fun _ => Ok_cond (fun e => absurd e (by decide)) (fun _ => next)))
        by_cases h1 : isTr A c
        · rw [if_pos h1] at hg; exact go _ _ _ hg (by omega) (by omega)
        · rw [if_neg h1] at hg
          by_cases h2 : 1 ≤ c ∧ c ≤ 48 ∧ (A c).lv
          · rw [if_pos h2] at hg
            refine go _ _ _ hg (fun e => hco ((ht.ob c).2 ⟨h2.1, h2.2.1, h2.2.2, e.2⟩)) (fun e => hr (h.ruq c ⟨h2.1, h2.2.1, h2.2.2, e.2⟩))
          · rw [if_neg h2] at hg; exact go _ _ _ hg (by omega) (by omega)
  · obtain rfl : c = 49 := by omega
    have ha : a = 1 := by rw [i2, if_pos (by have := hrk.2.1; omega)]
    have hb : b = g.n := by
      rw [i3, hgn]
      congr 2
      exact List.filter_eq_self.2 fun x hx => decide_eq_true (by have := ht.rng hx; omega)
    refine Ok.some' (hQ _ ?_)
    refine Ok_iteO (fun e => e.elim (fun e => absurd ha e) (fun e => absurd hb e)) (fun _ _ => ?_)
    have hgr := tget_ok (n := n) hn h.lt root
    rw [if_neg (fun e => by have h1 := e.2.2.2; have h2 := hrk.2.2.2; omega), if_pos ⟨hrk.1, hrk.2.1, hrk.2.2.1⟩, hrk.2.2.2] at hgr
    exact Ok_cl1 (root_ok h.lt) (Ok_cl3 hgr (Ok.some' rfl))
theorem orderFine_ok (hn : 100000 ≤ n) (h : Gr t s d g A root ord K bs H) : m198 n g t s d = some true := by
  have ht := h.tab
  have hgn := ht.od.n
  have hle := ht.le
  refine Ok.eq ?_
  unfold m198
  refine Ok_flow ?_
  unfold m198_w1
  refine Ok_it2 (fun (a c : Int) => 0 ≤ c ∧ c ≤ ord.length ∧ ∀ j, c ≤ j → j < ord.length → a < (g.com (g.order j)).seq) (fun (_ c : Int) => ((ord.length : Int) - c).toNat) ?_ n 0 0 ⟨by omega, by omega, fun j j0 j1 => ?_⟩ (by show ((ord.length : Int) - 0).toNat < n; omega)
  rotate_left
  · have hm := ht.od.mem j0 j1
    rw [ht.comseq hm]; have := (ht.seq _ hm).1; omega
  rintro Q lp a c hQ ⟨i0, i1, i2⟩ ih
  refine Ok_ite (fun hc => ?_) (fun hc => Ok.some' (hQ _ (Ok.some' rfl)))
  have hm := ht.od.mem i0 (by omega)
  have hr := ht.rng hm
  have hsq := ht.seq _ hm
  have hps := ht.ps _ hm
  have hlow := i2 c (Int.le_refl _) (by omega)
  refine Ok_ck (by omega) (by omega) (Ok_cl1 (isCommit_ok ht hm) (Ok_cond (fun e => absurd e (by decide)) (fun _ => Ok_ck (by omega) (by omega) (Ok_nm ?_))))
  have hcom := ht.com _ hm
  rw [ht.comseq hm] at hlow
  rw [hcom]
  have hcc : ((((decide ((mkCom (K (g.order c)).seq (K (g.order c)).tree (K (g.order c)).ps).seq ≤ a)) || (decide (g.nxt ≤ (mkCom (K (g.order c)).seq (K (g.order c)).tree (K (g.order c)).ps).seq))) || (decide ((mkCom (K (g.order c)).seq (K (g.order c)).tree (K (g.order c)).ps).np < 0))) || (decide ((2 : Int) < (mkCom (K (g.order c)).seq (K (g.order c)).tree (K (g.order c)).ps).np))) = false := by
    show ((((decide ((K (g.order c)).seq ≤ a)) || (decide (g.nxt ≤ (K (g.order c)).seq))) || (decide (((K (g.order c)).ps.length : Int) < 0))) || (decide ((2 : Int) < ((K (g.order c)).ps.length : Int)))) = false
    rw [decide_eq_false (by omega), decide_eq_false (by omega), decide_eq_false (by omega), decide_eq_false (by omega)]; rfl
  rw [hcc]
  refine Ok_cond (fun e => absurd e (by decide)) (fun _ => Ok_cl1 (gisTree_ok hn h.lt (ht.tv _ hm).1) (Ok_cond (fun e => absurd e (by decide)) (fun _ => Ok_flow ?_)))
  unfold m198_w2
  refine Ok_it1 (fun (k : Int) => 0 ≤ k ∧ k ≤ (K (g.order c)).ps.length) (fun (k : Int) => (((K (g.order c)).ps.length : Int) - k).toNat) ?_ n 0 ⟨by omega, by omega⟩ (by show (((K (g.order c)).ps.length : Int) - 0).toNat < n; omega)
  rintro Q2 lp2 k hQ2 ⟨j0, j1⟩ ih2
  refine Ok_ite (fun hk => ?_) (fun hk => ?_)
  · have hk : k < (K (g.order c)).ps.length := hk
    have hg : (K (g.order c)).ps[k.toNat]? = some ((mkCom (K (g.order c)).seq (K (g.order c)).tree (K (g.order c)).ps).par k) := (par_get j0 hk).symm
    have hp := hps.2 _ (List.mem_of_getElem? hg)
    have hpr := ht.rng hp.1
    refine Ok_ck (by omega) (by omega) (Ok_cl1 (isCommit_ok ht hp.1) (Ok_cond (fun e => absurd e (by decide)) (fun _ => Ok_ck (by omega) (by omega) (Ok_ck (by omega) (by omega) (Ok_ite (fun e => ?_) (fun _ => ?_))))))
    · rw [ht.comseq hp.1] at e
      have e : (K (g.order c)).seq ≤ _ := e
      omega
    · rw [wi_e (by omega) (by omega)]
      exact ih2 _ ⟨by omega, by omega⟩ (by omega)
  · refine Ok.some' (hQ2 _ ?_)
    show Ok (lp (K (g.order c)).seq (wi (c + 1))) Q
    rw [wi_e (by omega) (by omega)]
    refine ih _ _ ⟨by omega, by omega, fun j h1 h2 => ?_⟩ (by omega)
    have := ht.od.lt i0 (show c < j by omega) h2
    rw [ht.comseq hm] at this; exact this
theorem refsFine_ok (hn : 100000 ≤ n) (h : Gr t s d g A root ord K bs H) : m199 n g t s d = some true := by
  have ht := h.tab
  have hcur := h.cur
  have hnb := hcur.brs.nb
  have hble := hcur.brs.le
  refine Ok.eq ?_
  unfold m199
  refine Ok_iteO (fun e => by omega) (fun _ _ => Ok_flow ?_)
  unfold m199_w1
  refine Ok_it1 (fun (c : Int) => 0 ≤ c ∧ c ≤ bs.length) (fun (c : Int) => ((bs.length : Int) - c).toNat) ?_ n 0 ⟨by omega, by omega⟩ (by show ((bs.length : Int) - 0).toNat < n; omega)
  rintro Q lp c hQ ⟨i0, i1⟩ ih
  refine Ok_ite (fun hc => ?_) (fun hc => ?_)
  · have hg := brF_get (bs := bs) i0 (by omega)
    have hb := hcur.bid _ (List.mem_of_getElem? hg)
    rw [← hcur.brs.br] at hg hb
    refine Ok_ck (by omega) (by omega) (Ok_cl1 (goodName_ok hn) ?_)
    rw [hb.2]
    refine Ok_cond (fun e => absurd e (by decide)) (fun _ => Ok_ck (by omega) (by omega) (Ok_cl1 (isCommit_ok ht hb.1) (Ok_cond (fun e => absurd e (by decide)) (fun _ => ?_))))
    have hlt : Ok (cond (decide ((0 : Int) < c)) (Option.bind (ckA (wi (c - 1)) 4) fun _ => Option.bind (ckA c 4) fun _ => some ((!(sLt ((g.br (wi (c - 1))).name) ((g.br c).name))))) (some (false))) (fun v => v = false) := by
      refine Ok_ite (fun e => ?_) (fun _ => Ok.some' rfl)
      rw [wi_e (by omega) (by omega)]
      refine Ok_ck (by omega) (by omega) (Ok_ck (by omega) (by omega) (Ok.some' ?_))
      have hg1 := brF_get (bs := bs) (k := c - 1) (by omega) (by omega)
      rw [← hcur.brs.br] at hg1
      obtain ⟨p1, p2⟩ := List.getElem?_eq_some_iff.1 hg1
      obtain ⟨q1, q2⟩ := List.getElem?_eq_some_iff.1 hg
      have := List.pairwise_iff_getElem.1 hcur.bsrt (c - 1).toNat c.toNat p1 q1 (by omega)
      rw [p2, q2] at this
      rw [this]; rfl
    refine Ok_ob1 (hlt.mono (fun v hv => ?_))
    subst hv
    refine Ok_cond (fun e => absurd e (by decide)) (fun _ => ?_)
    rw [wi_e (by omega) (by omega)]
    exact ih _ ⟨by omega, by omega⟩ (by omega)
  · refine Ok.some' (hQ _ (Ok_flow ?_))
    have fin : Ok (cond (decide (¬ (g.merge = 0))) (ob1 (m264 n g g.merge) fun c8 => cond (!c8) (some false) (ob1 (m265 n g t s d g.aux) fun c9 => some c9)) (ob1 (m265 n g t s d g.aux) fun c10 => some c10)) (fun y => y = true) := by
      refine Ok_ite (fun e => ?_) (fun _ => Ok_cl1 (gisTree_ok hn h.lt h.aux.1) (Ok.some' rfl))
      have hm : g.merge ∈ ord := by
        rcases hcur.hm with ⟨_, e2⟩ | ⟨e2, _⟩
        · exact absurd e2 e
        · exact e2
      exact Ok_cl1 (isCommit_ok ht hm) (Ok_cond (fun e => absurd e (by decide)) (fun _ => Ok_cl1 (gisTree_ok hn h.lt h.aux.1) (Ok.some' rfl)))
    have hname := hcur.hn
    rcases hcur.hat with ⟨e1, e2, e3, _⟩ | ⟨e1, e2, _⟩
    · rw [← hname] at e1 e2
      rw [decide_eq_false e1]
      refine Ok_cond (fun _ => Ok_cl1 (goodName_ok hn) ?_) (fun e => absurd e (by decide))
      rw [e2]
      exact Ok_cond (fun e => absurd e (by decide)) (fun _ => Ok_ite (fun e => absurd e3 e) (fun _ => Ok.some' fin))
    · rw [← hname] at e1
      rw [decide_eq_true e1]
      exact Ok_cond (fun e => absurd e (by decide)) (fun _ => Ok_cl1 (isCommit_ok ht e2) (Ok_cond (fun e => absurd e (by decide)) (fun _ => Ok.some' fin)))
theorem gcheck_ok (hn : 100000 ≤ n) (h : Gr t s d g A root ord K bs H) : m108 n g t s d = some true := by
  have hgn := h.tab.od.n
  have hle := h.tab.le
  refine Ok.eq ?_
  unfold m108
  refine Ok_iteO (fun e => by omega) (fun _ _ => Ok_cl1 (tableFine_ok hn h) (Ok_cond (fun e => absurd e (by decide)) (fun _ => Ok_cl1 (orderFine_ok hn h) (Ok_cond (fun e => absurd e (by decide)) (fun _ => Ok_cl1 (refsFine_ok hn h) (Ok.some' rfl))))))
end
end Go.Proofs.Qxb6500350aGreat
