/- PLAIN LAW: THE GRAPH LAYER'S LOAD, ABORT, SAVE. -/
import Derived.Test.Qxb6500350aGreatK41
import Derived.Test.Qxb6500350aGreatT216
import Derived.Test.Qxb6500350aGreatT217
set_option linter.unusedVariables false
set_option linter.unusedSimpArgs false
set_option maxHeartbeats 2000000
namespace Go.Proofs.Qxb6500350aGreat
open Go.Eng Go
structure Cleared (g : Graph) : Prop where
  com : ∀ i, 0 ≤ i → i ≤ 48 → g.com i = Com.zero
  n : g.n = 0
  br : g.br = fun _ => Brn.zero
  nb : g.nb = 0
  name : g.name = [109, 97, 105, 110]
  at_ : g.at_ = 0
  merge : g.merge = 0
  nxt : g.nxt = 1
theorem clear_ok {n : Nat} {g : Graph} (hn : 100000 ≤ n) : Ok (m247 n g) Cleared := by
  unfold m247
  refine Ok_ob2 ?_
  unfold m247_w1
  refine Ok_it2 (fun (c : Int) (z : Graph) => 0 ≤ c ∧ c ≤ 49 ∧ ∀ i, 0 ≤ i → i < c → z.com i = Com.zero) (fun (c : Int) _ => (49 - c).toNat) ?_ n 0 g ⟨by omega, by omega, fun i h0 h1 => by omega⟩ (by show ((49 : Int) - 0).toNat < n; omega)
  rintro Q lp c z hQ ⟨i0, i1, i2⟩ ih
  refine Ok_ite (fun hc => Ok_ck (by omega) (by omega) (Ok_nm ?_)) (fun hc => ?_)
  · rw [wi_e (by omega) (by omega)]
    refine ih _ _ ⟨by omega, by omega, fun i h0 h1 => ?_⟩ (by omega)
    show upI z.com c Com.zero i = _
    unfold upI
    split
    · rfl
    · exact i2 i h0 (by omega)
  · refine Ok.some' (hQ _ (Ok_ob2 ?_))
    clear ih hQ
    unfold m247_w2
    refine Ok_it2 (fun (k : Int) (y : Graph) => 0 ≤ k ∧ k ≤ 48 ∧ ∀ i, 0 ≤ i → i ≤ 48 → y.com i = Com.zero) (fun (k : Int) _ => (48 - k).toNat) ?_ n 0 z ⟨by omega, by omega, fun i h0 h1 => i2 i h0 (by omega)⟩ (by show ((48 : Int) - 0).toNat < n; omega)
    rintro Q lp k y hQ ⟨j0, j1, j2⟩ ih
    refine Ok_ite (fun hc => Ok_ck (by omega) (by omega) (Ok_nm ?_)) (fun hc => ?_)
    · rw [wi_e (by omega) (by omega)]
      exact ih _ _ ⟨by omega, by omega, j2⟩ (by omega)
    · refine Ok.some' (hQ _ ?_)
      exact Ok_nm (Ok_nm (Ok_nm (Ok_nm (Ok_nm (Ok_nm (Ok_nm (Ok_nm (Ok.some' ⟨j2, rfl, rfl, rfl, rfl, rfl, rfl, rfl⟩))))))))
section
variable {n : Nat} {t t0 : Trees} {s s0 : Store} {d d0 : Dev} {g g0 : Graph} {A A0 : Int → Ob} {root : Int} {ord : List Int} {K : Int → CI} {bs : List Brn} {H : Hist}
theorem root_ok {t : Trees} (h : LT t s d A root) : m168 n t s = some root := by
  refine Ok.eq ?_
  unfold m168
  refine Ok_cl1 (a0 := root) ?_ (Ok.some' rfl)
  show some s.root = _
  rw [h.st.rd]
theorem Cur.nm {refs : List Ref_} {head : Head} (h : Cur g ord K bs refs head) : g.name.length ≤ 6 := by
  rw [h.hn]
  rcases h.hat with ⟨_, e, _⟩ | ⟨e, _⟩
  · exact (goodN_len e).2
  · rw [e]; simp
theorem gload_ok (hn : 100010 ≤ n) (h0 : Gr t0 s0 d0 g0 A root ord K bs H) (hl : LT t s d A root) : Ok (m170 n g t s d) (fun g' => Gr t s d g' A root ord K bs H) := by
  have ht := h0.tab
  have hcur := h0.cur
  have hnx := ht.nx
  unfold m170
  refine Ok_ob1 ((clear_ok (by omega)).mono (fun z1 hz => Ok_ob2 ?_))
  unfold m170_w1
  refine Ok_it2 (fun (c : Int) (z : Graph) => 1 ≤ c ∧ c ≤ 49 ∧ ∃ cm od nn oc, z = { z1 with com := cm, order := od, n := nn } ∧ (∀ i, 0 ≤ i → i ≤ 48 → cm i = if i < c ∧ i ∈ ord then g0.com i else Com.zero) ∧ Ordr z oc ∧ ∀ i, i ∈ oc ↔ i ∈ ord ∧ i < c)
    (fun (c : Int) _ => (49 - c).toNat) ?_ n 1 z1 ⟨by omega, by omega, z1.com, z1.order, z1.n, [], rfl, fun i i0 i1 => ?_, ⟨hz.n, by simp, fun k k0 k1 => absurd k1 (by simp; omega), by simp, .nil⟩, fun i => ⟨(fun h => by cases h), (fun h => by have := ht.rng h.1; omega)⟩⟩ (by show ((49 : Int) - 1).toNat < n; omega)
  rotate_left
  · rw [hz.com i i0 i1, if_neg (fun e => by have := ht.rng e.2; omega)]
  rintro Q lp c z hQ ⟨i0, i1, cm, od, nn, oc, rfl, i2, i3, i4⟩ ih
  refine Ok_ite (fun hc => ?_) (fun hc => ?_)
  · have same : c ∉ ord → Ok (lp (wi (c + 1)) { z1 with com := cm, order := od, n := nn }) Q := by
      intro hno
      rw [wi_e (by omega) (by omega)]
      refine ih _ _ ⟨by omega, by omega, cm, od, nn, oc, rfl, fun i j0 j1 => ?_, i3, fun i => ?_⟩ (by omega)
      · rw [i2 i j0 j1]
        by_cases e : i = c
        · subst e; rw [if_neg (fun h => hno h.2), if_neg (fun h => hno h.2)]
        · by_cases e2 : i < c ∧ i ∈ ord
          · rw [if_pos e2, if_pos ⟨by omega, e2.2⟩]
          · rw [if_neg e2, if_neg (fun h => e2 ⟨by omega, h.2⟩)]
      · rw [i4 i]
        constructor
        · rintro ⟨h1, h2⟩; exact ⟨h1, by omega⟩
        · rintro ⟨h1, h2⟩
          refine ⟨h1, ?_⟩
          rcases Classical.em (i = c) with rfl | e
          · exact absurd h1 hno
          · omega
    by_cases hco : c ∈ ord
    · refine Ok_cl3 (cget_ok (by omega) hl ht hco) (Ok_ite2 (fun _ _ => ?_) (fun e => absurd rfl (e rfl)))
      refine Ok_cl3 (cdec_ok (by omega) ht hco) (Ok_nm (Ok_cond (fun _ => Ok_ck (by omega) (by omega) (Ok_nm ?_)) (fun e => nomatch e)))
      have hnc : c ∉ oc := fun h => by have := ((i4 c).1 h).2; omega
      have hcm : ∀ x, x ∈ oc → cm x = g0.com x := fun x hx => by
        have hxx := (i4 x).1 hx
        have := ht.rng hxx.1
        rw [i2 x (by omega) (by omega), if_pos ⟨hxx.2, hxx.1⟩]
      have hup : ∀ x, x ∈ oc → upI cm c (mkCom (K c).seq (K c).tree (K c).ps) x = g0.com x := fun x hx => by
        unfold upI; rw [if_neg (fun e : x = c => hnc (e ▸ hx))]; exact hcm x hx
      have hupc : upI cm c (mkCom (K c).seq (K c).tree (K c).ps) c = g0.com c := by
        unfold upI; rw [if_pos rfl]; exact (ht.com c hco).symm
      have hO1 : Ordr { z1 with com := upI cm c (mkCom (K c).seq (K c).tree (K c).ps), order := od, n := nn } oc := by
        refine ⟨i3.n, i3.le, i3.oget, i3.rng, ?_⟩
        refine List.Pairwise.imp_of_mem ?_ i3.srt
        intro a b ha hb hab
        show (upI cm c _ a).seq < (upI cm c _ b).seq
        rw [hup a ha, hup b hb, ← hcm a ha, ← hcm b hb]; exact hab
      have hocl : oc.length < 48 := by
        have : (c :: oc).length ≤ ids.length := by
          refine nodup_sub_le (List.nodup_cons.2 ⟨hnc, ?_⟩) (fun x hx => ?_)
          · refine List.Pairwise.imp ?_ i3.srt
            intro a b hab e; subst e; omega
          · rcases List.mem_cons.1 hx with rfl | hx
            · exact mem_ids.2 ⟨by omega, hc⟩
            · exact mem_ids.2 (i3.rng x hx)
        rw [ids_len, List.length_cons] at this; omega
      have hpl := place_ok (n := n) (by omega) hO1 i0 hc hocl (fun x hx => by
        show (upI cm c _ x).seq ≠ (upI cm c _ c).seq
        have hxo := ((i4 x).1 hx).1
        rw [hup x hx, hupc, ht.comseq hxo, ht.comseq hco]
        intro e
        have := ht.inj hxo hco e
        exact hnc (this ▸ hx))
      refine Ok_ob1 (hpl.mono (fun g2 hg2 => ?_))
      obtain ⟨o1, o2, od2, ho, rfl, hO2⟩ := hg2
      rw [wi_e (by omega) (by omega)]
      refine ih _ _ ⟨by omega, by omega, _, od2, nn + 1, o1 ++ c :: o2, rfl, fun i j0 j1 => ?_, hO2, fun i => ?_⟩ (by omega)
      · by_cases e : i = c
        · subst e
          rw [if_pos ⟨by omega, hco⟩]; exact hupc
        · show upI cm c _ i = _
          unfold upI
          rw [if_neg e, i2 i j0 j1]
          by_cases e2 : i < c ∧ i ∈ ord
          · rw [if_pos e2, if_pos ⟨by omega, e2.2⟩]
          · rw [if_neg e2, if_neg (fun h => e2 ⟨by omega, h.2⟩)]
      · have hm : i ∈ o1 ++ c :: o2 ↔ i = c ∨ i ∈ oc := by
          rw [ho]; simp only [List.mem_append, List.mem_cons]
          constructor
          · rintro (h | h | h)
            · exact .inr (.inl h)
            · exact .inl h
            · exact .inr (.inr h)
          · rintro (h | h | h)
            · exact .inr (.inl h)
            · exact .inl h
            · exact .inr (.inr h)
        rw [hm, i4 i]
        constructor
        · rintro (rfl | ⟨h1, h2⟩)
          · exact ⟨hco, by omega⟩
          · exact ⟨h1, by omega⟩
        · rintro ⟨h1, h2⟩
          rcases Classical.em (i = c) with e | e
          · exact .inl e
          · exact .inr ⟨h1, by omega⟩
    · have hnk : ¬ isCo A c := fun h => hco ((ht.ob c).2 h)
      have hg := tget_ok (n := n) (by omega) hl c
      by_cases h1 : isTr A c
      · rw [if_pos h1] at hg
        exact Ok_cl3 hg (Ok_ite2 (fun _ e2 => absurd e2 (by decide)) (fun _ => same hco))
      · rw [if_neg h1] at hg
        by_cases h2 : 1 ≤ c ∧ c ≤ 48 ∧ (A c).lv
        · rw [if_pos h2] at hg
          exact Ok_cl3 hg (Ok_ite2 (fun _ e2 => absurd ⟨h2.1, h2.2.1, h2.2.2, e2⟩ hnk) (fun _ => same hco))
        · rw [if_neg h2] at hg
          exact Ok_cl3 hg (Ok_ite2 (fun e1 _ => absurd e1 (by decide)) (fun _ => same hco))
  · obtain rfl : c = 49 := by omega
    refine Ok.some' (hQ _ ?_)
    have hrk := h0.rk
    have hgr := tget_ok (n := n) (by omega) hl root
    rw [if_neg (fun e => by have h1 := e.2.2.2; have h2 := hrk.2.2.2; omega), if_pos ⟨hrk.1, hrk.2.1, hrk.2.2.1⟩, hrk.2.2.2, h0.rdat] at hgr
    refine Ok_cl1 (root_ok hl) (Ok_cl3 hgr (Ok_ite2 (fun _ _ => ?_) (fun e => absurd rfl (e rfl))))
    have hat : 0 ≤ g0.at_ ∧ g0.at_ ≤ 48 := by
      rcases hcur.hat with ⟨_, _, e, _⟩ | ⟨_, e, _⟩
      · omega
      · have := ht.rng e; omega
    have hmg : 0 ≤ g0.merge ∧ g0.merge ≤ 48 := by
      rcases hcur.hm with ⟨_, e⟩ | ⟨e, _⟩
      · omega
      · have := ht.rng e; omega
    have hax := h0.aux.1
    refine Ok_cl1 (readRefs_ok (by omega) (by omega) (by omega) hcur.nm hcur.brs.le (fun b hb => ?_) (by have := hax.1; omega) hax.2.1 hat.1 hat.2 hmg.1 hmg.2) (Ok.some' ?_)
    · have := ht.rng (hcur.bid b hb).1
      exact ⟨(goodN_len (hcur.bid b hb).2).2, by omega, by omega⟩
    · have hcm : ∀ x, x ∈ ord → cm x = g0.com x := fun x hx => by
        have := ht.rng hx
        rw [i2 x (by omega) (by omega), if_pos ⟨by omega, hx⟩]
      have hoc : oc = ord := by
        refine sorted_unique (f := fun i => (K i).seq) ?_ ?_ (fun x => ?_)
        · refine List.Pairwise.imp_of_mem ?_ i3.srt
          intro a b ha hb hab
          have ha' := ((i4 a).1 ha).1
          have hb' := ((i4 b).1 hb).1
          have hab : (cm a).seq < (cm b).seq := hab
          rw [hcm a ha', hcm b hb', ht.comseq ha', ht.comseq hb'] at hab; exact hab
        · refine List.Pairwise.imp_of_mem ?_ ht.od.srt
          intro a b ha hb hab
          rw [ht.comseq ha, ht.comseq hb] at hab; exact hab
        · rw [i4 x]; exact ⟨fun h => h.1, fun h => ⟨h, by have := ht.rng h; omega⟩⟩
      subst hoc
      refine ⟨⟨hl, ⟨⟨i3.n, i3.le, i3.oget, i3.rng, i3.srt⟩, ht.le, fun i hi => (hcm i hi).trans (ht.com i hi), fun i j0 j1 hi => ?_, ht.ob, ht.dat, ht.seq, ht.ps, ht.msg, ht.tv, ht.law, ht.nx⟩, ⟨⟨rfl, rfl, hcur.brs.le⟩, hcur.bid, hcur.bsrt, hcur.refs, hcur.hn, hcur.hat, hcur.hm⟩, h0.aux, h0.laux, h0.nodes, h0.nxt, h0.rk, h0.ruq⟩, h0.rest, h0.rdat⟩
      show cm i = _
      rw [i2 i j0 j1, if_neg (fun e => hi e.2)]
/-- Abort brings back the state of before -/
theorem gabort_ok (hn : 100010 ≤ n) (h0 : Gr t0 s0 d0 g0 A0 root ord K bs H) (hl : LT t s d A root) (hd : d.at_.length < 700000) (e : Ext A0 A) : Ok (m216 n g t s d) (fun r => Gr r.2.1 r.2.2 d r.1 A0 root ord K bs H) := by
  unfold m216
  refine Ok_ob2 ((tabort_ok (by omega) hl hd h0.rest h0.lt.st.freeE e h0.lt.ts h0.lt.len).mono (fun r hr => ?_))
  exact Ok_ob1 ((gload_ok hn h0 hr).mono (fun g' hg' => Ok.some' hg'))
theorem nfr_mono {A A' : Int → Ob} (h : ∀ i, 1 ≤ i → i ≤ 48 → (A i).st = 0 → (A' i).st = 0) : nfr A ≤ nfr A' := by
  unfold nfr
  refine nodup_sub_le (ids_nodup.filter _) (fun i hi => ?_)
  obtain ⟨h1, h2⟩ := List.mem_filter.1 hi
  have hr := mem_ids.1 h1
  exact List.mem_filter.2 ⟨h1, decide_eq_true (h i hr.1 hr.2 (of_decide_eq_true h2))⟩
theorem cmt_free {A : Int → Ob} : nfr A ≤ nfr (fun i => (A i).cmt) := nfr_mono fun i _ _ h => by
  show (A i).cmt.st = 0
  unfold Ob.cmt; rw [if_neg (by omega), if_neg (by omega)]; exact h
theorem flatE_row {A : Int → Ob} {x : Int} (hn : NoRow A x) : ∀ {k : Nat} {i : Int} {e : Entry}, Ht A k i → e ∈ flatE A k i → e.id ≠ x
  | 0, _, _, hh, _ => hh.elim
  | k + 1, i, e, hh, he => by
    rw [flatE_s] at he
    obtain ⟨r, hr, he⟩ := List.mem_flatMap.1 he
    unfold rowE at he
    by_cases hd : r.dir = true
    · rw [if_pos hd] at he
      obtain ⟨a, ha, rfl⟩ := List.mem_map.1 he
      exact flatE_row (e := a) hn (hh.2 r hr hd) ha
    · rw [if_neg hd] at he
      rw [List.mem_singleton.1 he]
      exact hn i r hh.1 hr
theorem cut_tv {o : Ob} {i j : Int} {fs : List File} (ho : ¬ o.lv) (hn : NoRow A i) (ts : TreS A) (hj : j ≠ i) (hv : TV A j fs) : TV (upd A i o) j fs := by
  refine ⟨(cut_tr ho).2 ⟨hv.1, hj⟩, ?_⟩
  rw [cut_flat ho hn hj (ts.ht j hv.1), hv.2]
  refine List.map_congr_left fun e he => ?_
  have := flatE_row hn (ts.ht j hv.1) he
  unfold valE
  rw [show upd A i o e.id = A e.id by simp [upd, this]]
theorem Tab.to {A' : Int → Ob} (h : Tab g A ord K) (hc : ∀ i, isCo A' i ↔ isCo A i) (hd : ∀ i, i ∈ ord → (A' i).data = (A i).data) (hv : ∀ i, i ∈ ord → TV A' (K i).tree (K i).files) : Tab g A' ord K where
  od := h.od
  le := h.le
  com := h.com
  noc := h.noc
  ob := fun i => by rw [h.ob i]; exact (hc i).symm
  dat := fun i hi => by rw [hd i hi]; exact h.dat i hi
  seq := h.seq
  ps := h.ps
  msg := h.msg
  tv := hv
  law := h.law
  nx := h.nx
/-- the device behind a command that was done -/
def Done (d0 : Dev) (A0 : Int → Ob) (d' : Dev) (A' : Int → Ob) (root' : Int) : Prop :=
  d'.base = d0.base ∧ ∃ W, d'.ws = d0.ws ++ W ++ [(0, supB A' root')] ∧ W.length ≤ 144 ∧ ∀ w, w ∈ W → 1 ≤ w.1 ∧ w.1 < 145 ∧ usedB A0 w.1 = false
theorem rest_cmt (hr : ∀ i, 1 ≤ i → i ≤ 48 → 0 ≤ (A i).st ∧ (A i).st ≤ 3) : Rest (fun i => (A i).cmt) := by
  intro i h0 h1
  have := hr i h0 h1
  show (A i).cmt.st = 0 ∨ (A i).cmt.st = 2
  unfold Ob.cmt
  by_cases e : (A i).st = 1
  · rw [if_pos e]; exact .inr rfl
  · rw [if_neg e]
    by_cases e3 : (A i).st = 3
    · rw [if_pos e3]; exact .inl rfl
    · rw [if_neg e3]; omega
theorem View.co {A' : Int → Ob} (h : View A A') (k : Int) (i : Int) : (1 ≤ i ∧ i ≤ 48 ∧ (A' i).lv ∧ (A' i).kind = k) ↔ (1 ≤ i ∧ i ≤ 48 ∧ (A i).lv ∧ (A i).kind = k) := by
  constructor
  · rintro ⟨h0, h1, h2, h3⟩
    have := h i h0 h1
    have hl := this.1.1 h2
    exact ⟨h0, h1, hl, by rw [← (this.2 hl).1]; exact h3⟩
  · rintro ⟨h0, h1, h2, h3⟩
    have := h i h0 h1
    exact ⟨h0, h1, this.1.2 h2, by rw [(this.2 h2).1]; exact h3⟩
/-- commit of a graph state: what was running is rest -/
theorem Gr.of_cmt {t' : Trees} {s' : Store} {d' : Dev} {r : Int} (ts : TreS A) (rng : ∀ i, 1 ≤ i → i ≤ 48 → 0 ≤ (A i).st ∧ (A i).st ≤ 3) (tab : Tab g A ord K) (cur : Cur g ord K bs H.refs H.head) (aux : TV A g.aux H.aux) (laux : Law H.aux)
    (nodes : H.nodes = ord.map (nodeOf K)) (nxt : H.nxt = g.nxt) (rk : isRf A r) (ruq : ∀ i, isRf A i → i = r) (hl : LT t' s' d' (fun i => (A i).cmt) r) (hd : (A r).data = rbytes g.nxt g.aux g.name g.at_ g.merge bs) : Gr t' s' d' g (fun i => (A i).cmt) r ord K bs H := by
  have v := cmt_view A
  have hdt : ∀ i, 1 ≤ i → i ≤ 48 → (A i).lv → ((A i).cmt).data = (A i).data := fun i h0 h1 hl => v.data h0 h1 hl
  refine ⟨⟨hl, tab.to (v.co 3) (fun i hi => ?_) (fun i hi => v.tv ts (tab.tv i hi)), cur, v.tv ts aux, laux, nodes, nxt, (v.co 4 r).2 rk, fun i hi => ruq i ((v.co 4 i).1 hi)⟩, rest_cmt rng, ?_⟩
  · have hc := (tab.ob i).1 hi
    exact hdt i hc.1 hc.2.1 hc.2.2.1
  · show ((A r).cmt).data = _
    rw [hdt r rk.1 rk.2.1 rk.2.2.1]; exact hd
/-- Save: all that runs becomes lasting at one stroke -/
theorem gsave_ok {Kd : Int → Prop} (hn : 100010 ≤ n) (h : Gm t s d g A root ord K bs H) (h0r : Rest A0) (hf0 : FreeE A0) (hg : Grow Kd d0 A0 d A) (hd : d.at_.length < 600000) (hrt : (A root).st = 2) :
    Ok (m217 n g t s d) (fun r => (r = (5, t, s, d) ∧ nfr A = 0) ∨ ∃ t' s' d' A' root', r = (0, t', s', d') ∧ Gr t' s' d' g A' root' ord K bs H ∧ Done d0 A0 d' A' root' ∧ nfr A ≤ nfr A' + 1) := by
  have ht := h.tab
  have hcur := h.cur
  have hnx := ht.nx
  have hrk := h.rk
  have hfA := h.lt.st.freeE
  have hbl := rbytes_len (nxt := g.nxt) (aux := g.aux) (at_ := g.at_) (merge := g.merge) hcur.nm hcur.brs.le (fun b hb => (goodN_len (hcur.bid b hb).2).2)
  unfold m217
  refine Ok_cl1 (refsBytes_ok (by omega) (by omega) (by omega) hcur.nm hcur.brs.le (fun b hb => (goodN_len (hcur.bid b hb).2).2) hcur.brs.nb hcur.brs.br) ?_
  refine Ok_ob5 ((tput_ok (k := 4) (by omega) h.lt (by omega) (by omega) (by omega) (by omega)).mono (fun r hr => ?_))
  rcases hr with ⟨f0, rfl⟩ | ⟨i, t1, s1, d1, A1, rfl, b1, b2, b3, b4, b5, b6, b7, b8, b9⟩
  · exact Ok_ite (fun _ => Ok.some' (.inl ⟨rfl, f0⟩)) (fun e => absurd (show ¬ ((5 : Int) = 0) by decide) e)
  · refine Ok_ite (fun e => absurd rfl e) (fun _ => Ok_cl1 (root_ok b1) ?_)
    have hgw : Grow (fun _ => True) d0 A0 d1 A1 := (hg.mono fun _ _ => trivial).trans hf0 (b2.mono fun _ _ => trivial)
    obtain ⟨k, k1, k2⟩ := hgw.dev
    have hnf0 := nfr_le A0
    have hst1 : d1.at_.length ≤ d.at_.length + 144 := by
      obtain ⟨q, q1, q2⟩ := b2.dev
      have := q1.steps
      have := nfr_le A
      omega
    have hdone : ∀ (d2 : Dev) (A2 : Int → Ob) (r2 : Int), d2.base = d1.base → d2.ws = d1.ws ++ [(0, supB A2 r2)] → Done d0 A0 d2 A2 r2 := by
      intro d2 A2 r2 e1 e2
      obtain ⟨W, w1, w2, w3⟩ := k1.ws
      exact ⟨e1.trans k1.base, W, by rw [e2, w1], by omega, w3⟩
    -- the state with the new object
    have hts1 := b1.ts
    have hroot1 : A1 root = A root := b2.ext.live hrk.1 hrk.2.1 (Ob.lv_ne hrk.2.2.1)
    have hrf1 : ∀ x, isRf A1 x → x = root ∨ x = i := by
      intro x hx
      by_cases e : x = i
      · exact .inr e
      · exact .inl (h.ruq x (by unfold isRf at hx ⊢; rw [b9 x e] at hx; exact hx))
    have htab1 : Tab g A1 ord K := ht.grow h.lt.ts b2.ext (fun x x0 x1 => (b2.kin x x0 x1).imp id (fun e => by omega))
    have haux1 := h.aux.ext h.lt.ts b2.ext
    refine Ok_ite (fun hne => ?_) (fun heq => ?_)
    · -- the old one is dropped
      have hnorow : NoRow A1 root := by
        intro j r hj hr hid
        by_cases hdd : r.dir = true
        · have := (hts1.dir j r hj hr hdd).1.2.2.2
          rw [hid, hroot1] at this
          have := hrk.2.2.2; omega
        · have := (hts1.fil j r hj hr (by simpa using hdd)).2.2.2
          rw [hid, hroot1] at this
          have := hrk.2.2.2; omega
      have hlv1 : (A1 root).lv := by rw [hroot1]; exact hrk.2.2.1
      refine Ok_ob3 ((tdrop_ok (by omega) b1 (by omega) root).mono (fun r hr => ?_))
      rcases hr with ⟨_, e⟩ | ⟨_, _, e⟩ | ⟨_, _, _, l3⟩
      · exact absurd ⟨hrk.1, hrk.2.1, hlv1⟩ e
      · exact absurd hnorow e
      · obtain ⟨c, t3, s3⟩ := r
        have hdl := drp_lv hlv1
        have hdrp : drp (A1 root) = { (A1 root) with st := 3 } := by
          unfold drp; rw [if_neg (by rw [hroot1]; omega)]
        have hir : i ≠ root := hne
        have hAi : upd A1 root (drp (A1 root)) i = A1 i := by simp [upd, hir]
        have hco : ∀ x k, k ≠ 4 → ((1 ≤ x ∧ x ≤ 48 ∧ (upd A1 root (drp (A1 root)) x).lv ∧ (upd A1 root (drp (A1 root)) x).kind = k) ↔ (1 ≤ x ∧ x ≤ 48 ∧ (A1 x).lv ∧ (A1 x).kind = k)) := by
          intro x k hk
          by_cases e : x = root
          · subst e
            have hs : upd A1 x (drp (A1 x)) x = drp (A1 x) := by simp [upd]
            rw [hs]
            refine ⟨fun hh => absurd hh.2.2.1 hdl, fun hh => ?_⟩
            have := hh.2.2.2
            rw [hroot1] at this
            have := hrk.2.2.2; omega
          · rw [show upd A1 root (drp (A1 root)) x = A1 x by simp [upd, e]]
        have hne_ord : ∀ x, x ∈ ord → x ≠ root := fun x hx e => by
          have := ((ht.ob x).1 hx).2.2.2
          rw [e] at this
          have := hrk.2.2.2; omega
        have htree_ne : ∀ x, isTr A1 x → x ≠ root := fun x hx e => by
          have := hx.2.2.2
          rw [e, hroot1] at this
          have := hrk.2.2.2; omega
        have hlA : ∀ x, x ≠ root → upd A1 root (drp (A1 root)) x = A1 x := fun x hx => by simp [upd, hx]
        refine Ok_ob3 ((tcommit_ok (nr := i) (by omega) l3 (by omega) (.inr ⟨b4, b5, by rw [hAi]; exact b6⟩)).mono (fun r hr => Ok.some' (.inr ?_)))
        obtain ⟨c1, c2, c3⟩ := r
        obtain ⟨e1, e2, e3, e4⟩ := hr
        refine ⟨t3, c2, c3, _, i, rfl, ?_, hdone _ _ _ e3 e4, ?_⟩
        · refine Gr.of_cmt l3.ts (fun x x0 x1 => l3.st.rng x x0 x1) (htab1.to (fun x => hco x 3 (by decide)) (fun x hx => by rw [hlA x (hne_ord x hx)]) (fun x hx => cut_tv hdl hnorow hts1 (htree_ne _ (htab1.tv x hx).1) (htab1.tv x hx))) hcur
            (cut_tv hdl hnorow hts1 (htree_ne _ haux1.1) haux1) h.laux h.nodes h.nxt (by unfold isRf; rw [hAi]; exact ⟨b4, b5, b6, b7⟩) (fun x hx => ?_) e2 (by rw [hAi]; exact b8)
          have hxr : x ≠ root := by
            rintro rfl
            have := hx.2.2.1
            rw [show upd A1 x (drp (A1 x)) x = drp (A1 x) by simp [upd]] at this
            exact hdl this
          unfold isRf at hx
          rw [hlA x hxr] at hx
          exact (hrf1 x hx).resolve_left hxr
        · have h1 : nfr A1 = nfr (upd A1 root (drp (A1 root))) := by
            rw [hdrp]
            exact (nfr_same (i := root) (by rw [hroot1]; omega) (by show (3 : Int) ≠ 0; decide)).symm
          have h2 := cmt_free (A := upd A1 root (drp (A1 root)))
          omega
    · have hir : i = root := Classical.not_not.1 heq
      subst hir
      refine Ok_ob3 ((tcommit_ok (nr := i) (by omega) b1 (by omega) (.inr ⟨b4, b5, b6⟩)).mono (fun r hr => Ok.some' (.inr ?_)))
      obtain ⟨c1, c2, c3⟩ := r
      obtain ⟨e1, e2, e3, e4⟩ := hr
      refine ⟨t1, c2, c3, _, i, rfl, Gr.of_cmt hts1 (fun x x0 x1 => b1.st.rng x x0 x1) htab1 hcur haux1 h.laux h.nodes h.nxt ⟨b4, b5, b6, b7⟩ (fun x hx => (hrf1 x hx).elim id id) e2 b8, hdone _ _ _ e3 e4, ?_⟩
      have h2 := cmt_free (A := A1)
      omega
end
end Go.Proofs.Qxb6500350aGreat
