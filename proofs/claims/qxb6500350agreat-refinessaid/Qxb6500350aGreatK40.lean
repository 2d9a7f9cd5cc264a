/- PLAIN LAW: THE GRAPH LAYER: BRANCHES, HEAD, AUX. -/
import Derived.Test.Qxb6500350aGreatK39
import Derived.Test.Qxb6500350aGreatT208
set_option linter.unusedVariables false
set_option linter.unusedSimpArgs false
set_option maxHeartbeats 1000000
namespace Go.Proofs.Qxb6500350aGreat
open Go.Eng Go
def withR : List Ref_ → Str → Int → List Ref_
  | [], name, seq => [{ name := name, seq := seq }]
  | x :: r, name, seq => if sLt name x.name = true then { name := name, seq := seq } :: x :: r else if name = x.name then { name := name, seq := seq } :: r else x :: withR r name seq
def withoutR (r : List Ref_) (name : Str) : List Ref_ := r.filter fun x => decide (x.name ≠ name)
def findR (r : List Ref_) (name : Str) : Option Ref_ := r.find? fun x => decide (x.name = name)
theorem withR_low {sq : Int → Int} {name : Str} {q : Int} {r2 : List Ref_} : ∀ {b1 : List Brn}, (∀ b, b ∈ b1 → sLt b.name name = true) → withR (b1.map (toRef sq) ++ r2) name q = b1.map (toRef sq) ++ withR r2 name q
  | [], _ => rfl
  | b :: b1, h => by
    have hb := h b (by simp)
    have ih := withR_low (sq := sq) (q := q) (r2 := r2) (fun x hx => h x (List.mem_cons_of_mem _ hx))
    show (if sLt name b.name = true then _ else if name = b.name then _ else toRef sq b :: withR (b1.map (toRef sq) ++ r2) name q) = _
    rw [if_neg (by rw [sLt_asymm hb]; decide), if_neg (fun e => sLt_ne hb e.symm), ih]; rfl
theorem withR_ins {sq : Int → Int} {name : Str} {id : Int} {bs b1 b2 : List Brn} (h : Where bs name b1 b2) : (insB b1 b2 name id).map (toRef sq) = withR (bs.map (toRef sq)) name (sq id) := by
  rw [h.eq, List.map_append, withR_low h.lo]
  unfold insB
  rw [List.map_append]
  congr 1
  cases b2 with
  | nil => rfl
  | cons b t =>
    have hb := h.hi b t rfl
    show ({ name := name, seq := sq id } : Ref_) :: ((if b.name = name then t else b :: t).map (toRef sq)) = if sLt name b.name = true then { name := name, seq := sq id } :: toRef sq b :: t.map (toRef sq) else if name = b.name then { name := name, seq := sq id } :: t.map (toRef sq) else _
    rcases sLt_tri name b.name with h1 | h1 | h1
    · rw [if_pos h1, if_neg (fun e => sLt_ne h1 e.symm)]; rfl
    · rw [if_pos h1.symm, if_neg (show ¬ (sLt name b.name = true) by rw [h1, sLt_irrefl]; decide), if_pos h1]
    · rw [hb] at h1; cases h1
theorem insB_mem {b1 b2 : List Brn} {name : Str} {id : Int} {x : Brn} (h : x ∈ insB b1 b2 name id) : x = { name := name, id := id } ∨ x ∈ b1 ++ b2 := by
  unfold insB at h
  rcases List.mem_append.1 h with h | h
  · exact .inr (List.mem_append_left _ h)
  · rcases List.mem_cons.1 h with h | h
    · exact .inl h
    · refine .inr (List.mem_append_right _ ?_)
      cases b2 with
      | nil => exact h
      | cons b t =>
        have h : x ∈ (if b.name = name then t else b :: t) := h
        split at h
        · exact List.mem_cons_of_mem _ h
        · exact h
theorem insB_srt {bs b1 b2 : List Brn} {name : Str} {id : Int} (h : Where bs name b1 b2) (hs : bs.Pairwise fun a b => sLt a.name b.name = true) : (insB b1 b2 name id).Pairwise fun a b => sLt a.name b.name = true := by
  rw [h.eq, List.pairwise_append] at hs
  obtain ⟨s1, s2, s3⟩ := hs
  unfold insB
  have key : ∀ t : List Brn, (t.Pairwise fun a b => sLt a.name b.name = true) → (∀ b, b ∈ t → sLt name b.name = true) → (∀ b, b ∈ t → b ∈ b2) → (b1 ++ ({ name := name, id := id } : Brn) :: t).Pairwise fun a b => sLt a.name b.name = true := by
    intro t t1 t2 t3
    refine List.pairwise_append.2 ⟨s1, List.pairwise_cons.2 ⟨t2, t1⟩, fun a ha b hb => ?_⟩
    rcases List.mem_cons.1 hb with rfl | hb
    · exact h.lo a ha
    · exact s3 a ha b (t3 b hb)
  cases b2 with
  | nil => exact key [] .nil (by simp) (by simp)
  | cons b t =>
    obtain ⟨s4, s5⟩ := List.pairwise_cons.1 s2
    by_cases e : b.name = name
    · simp only [if_pos e]
      exact key t s5 (fun x hx => e ▸ s4 x hx) (fun x hx => List.mem_cons_of_mem _ hx)
    · simp only [if_neg e]
      have hlt : sLt name b.name = true := by
        rcases sLt_tri name b.name with h1 | h1 | h1
        · exact h1
        · exact absurd h1.symm e
        · rw [h.hi b t rfl] at h1; cases h1
      refine key (b :: t) s2 (fun x hx => ?_) (fun x hx => hx)
      rcases List.mem_cons.1 hx with rfl | hx
      · exact hlt
      · exact sLt_trans hlt (s4 x hx)
theorem where_none {sq : Int → Int} {bs b1 b2 : List Brn} {name : Str} (h : Where bs name b1 b2) (hs : bs.Pairwise fun a b => sLt a.name b.name = true) : (∀ b t, b2 = b :: t → b.name ≠ name) ↔ findR (bs.map (toRef sq)) name = none := by
  unfold findR
  rw [List.find?_eq_none]
  constructor
  · intro hno x hx
    obtain ⟨b, hb, rfl⟩ := List.mem_map.1 hx
    have hne : b.name ≠ name := by
      rw [h.eq] at hb hs
      rcases List.mem_append.1 hb with hb | hb
      · exact sLt_ne (h.lo b hb)
      · cases b2 with
        | nil => cases hb
        | cons c t =>
          rcases List.mem_cons.1 hb with rfl | hb
          · exact hno b t rfl
          · intro e
            have h1 := (List.pairwise_cons.1 (List.pairwise_append.1 hs).2.1).1 b hb
            rw [e] at h1
            rw [h.hi c t rfl] at h1; cases h1
    exact fun e => hne (of_decide_eq_true e)
  · rintro hno b t rfl e
    exact hno (toRef sq b) (List.mem_map_of_mem (by rw [h.eq]; simp)) (decide_eq_true e)
section
variable {A A' : Int → Ob} {g : Graph} {ord : List Int} {K : Int → CI}
theorem Tab.grow (h : Tab g A ord K) (ts : TreS A) (e : Ext A A') (hk : ∀ i, 1 ≤ i → i ≤ 48 → A' i = A i ∨ (A' i).kind ≠ 3) : Tab g A' ord K where
  od := h.od
  le := h.le
  com := h.com
  noc := h.noc
  ob := fun i => by
    rw [h.ob i]
    constructor
    · intro hc
      have := e.live hc.1 hc.2.1 (Ob.lv_ne hc.2.2.1)
      unfold isCo; rw [this]; exact hc
    · intro hc
      rcases hk i hc.1 hc.2.1 with h1 | h1
      · unfold isCo; rw [← h1]; exact hc
      · exact absurd hc.2.2.2 h1
  dat := fun i hi => by
    have hc := (h.ob i).1 hi
    rw [e.live hc.1 hc.2.1 (Ob.lv_ne hc.2.2.1)]; exact h.dat i hi
  seq := h.seq
  ps := h.ps
  msg := h.msg
  tv := fun i hi => (h.tv i hi).ext ts e
  law := h.law
  nx := h.nx
end
section
variable {n : Nat} {t t' : Trees} {s s' : Store} {d d' : Dev} {g : Graph} {A A' : Int → Ob} {root : Int} {ord : List Int} {K : Int → CI} {bs : List Brn} {H : Hist}
theorem Ext.rf {root : Int} (e : Ext A A') (hr : isRf A root) : isRf A' root := by
  unfold isRf
  rw [e.live hr.1 hr.2.1 (Ob.lv_ne hr.2.2.1)]; exact hr
theorem Gm.grow {Kd : Int → Prop} (h : Gm t s d g A root ord K bs H) (hl : LT t' s' d' A' root) (hg : Grow Kd d A d' A') (hk : ∀ k, Kd k → k ≠ 3 ∧ k ≠ 4) : Gm t' s' d' g A' root ord K bs H where
  lt := hl
  tab := h.tab.grow h.lt.ts hg.ext (fun i h0 h1 => (hg.kin i h0 h1).imp id (fun e => (hk _ e).1))
  cur := h.cur
  aux := h.aux.ext h.lt.ts hg.ext
  laux := h.laux
  nodes := h.nodes
  nxt := h.nxt
  rk := hg.ext.rf h.rk
  ruq := fun i hi => by
    rcases hg.kin i hi.1 hi.2.1 with e | e
    · exact h.ruq i (by unfold isRf; rw [← e]; exact hi)
    · exact absurd hi.2.2.2 (hk _ e).2
theorem Tab.congrG {g' : Graph} (h : Tab g A ord K) (h1 : g'.com = g.com) (h2 : g'.order = g.order) (h3 : g'.n = g.n) (h4 : g'.nxt = g.nxt) : Tab g' A ord K where
  od := ⟨by rw [h3]; exact h.od.n, h.od.le, fun k k0 k1 => by rw [h2]; exact h.od.oget k k0 k1, h.od.rng, by rw [h1]; exact h.od.srt⟩
  le := h.le
  com := fun i hi => by rw [h1]; exact h.com i hi
  noc := fun i i0 i1 hi => by rw [h1]; exact h.noc i i0 i1 hi
  ob := h.ob
  dat := h.dat
  seq := fun i hi => by rw [h4]; exact h.seq i hi
  ps := h.ps
  msg := h.msg
  tv := h.tv
  law := h.law
  nx := by rw [h4]; exact h.nx
theorem gsetBranch_ok {name : Str} {q : Int} (hn : 100000 ≤ n) (h : Gm t s d g A root ord K bs H) (hg : goodN name = true) (hq : ∃ i, i ∈ ord ∧ (K i).seq = q) (hm : findR H.refs name ≠ none ∨ H.refs.length < 4) :
    Ok (m139 n g name q) (fun r => r.1 = 0 ∧ ∃ bs', Gm t s d r.2 A root ord K bs' { H with refs := withR H.refs name q }) := by
  refine Ok.mono (setBranch_ok hn h.cur.brs h.tab.od) (fun r hr => ?_)
  have hrefs := h.cur.refs
  rcases hr with ⟨e, _⟩ | ⟨_, hno, _⟩ | ⟨_, id, b1, b2, hid, hsq, hw, hr⟩
  · rw [hg] at e; cases e
  · obtain ⟨i, hi, hi2⟩ := hq
    exact absurd (by rw [h.tab.comseq hi]; exact hi2) (hno i hi)
  · rw [h.tab.comseq hid] at hsq
    rcases hr with ⟨h4, hno, _⟩ | ⟨rfl, hl4⟩
    · have hf := (where_none (sq := fun i => (K i).seq) hw h.cur.bsrt).1 hno
      rw [← hrefs] at hf
      rcases hm with hm | hm
      · exact absurd hf hm
      · rw [hrefs, List.length_map] at hm; omega
    · refine ⟨rfl, insB b1 b2 name id, h.lt, h.tab.congrG rfl rfl rfl rfl, ⟨⟨rfl, rfl, hl4⟩, fun b hb => ?_, insB_srt hw h.cur.bsrt, ?_, h.cur.hn, h.cur.hat, h.cur.hm⟩, h.aux, h.laux, h.nodes, h.nxt, h.rk, h.ruq⟩
      · rcases insB_mem hb with rfl | hb
        · exact ⟨hid, hg⟩
        · exact h.cur.bid b (by rw [hw.eq]; exact hb)
      · show withR H.refs name q = _
        rw [withR_ins hw, ← hsq, hrefs]
theorem gdelBranch_ok {name : Str} (hn : 100000 ≤ n) (h : Gm t s d g A root ord K bs H) (hg : goodN name = true) (hm : findR H.refs name ≠ none) :
    Ok (m142 n g name) (fun r => r.1 = 0 ∧ ∃ bs', Gm t s d r.2 A root ord K bs' { H with refs := withoutR H.refs name }) := by
  refine Ok.mono (delBranch_ok hn h.cur.brs) (fun r hr => ?_)
  have hrefs := h.cur.refs
  rcases hr with ⟨e, _⟩ | ⟨_, b1, b2, hw, hr⟩
  · rw [hg] at e; cases e
  · rcases hr with ⟨hno, _⟩ | ⟨b, t2, rfl, hbn, rfl⟩
    · have hf := (where_none (sq := fun i => (K i).seq) hw h.cur.bsrt).1 hno
      rw [← hrefs] at hf
      exact absurd hf hm
    · have hsrt := h.cur.bsrt
      have hle := h.cur.brs.le
      rw [hw.eq] at hsrt hle
      simp only [List.length_append, List.length_cons] at hle
      obtain ⟨s1, s2, s3⟩ := List.pairwise_append.1 hsrt
      obtain ⟨s4, s5⟩ := List.pairwise_cons.1 s2
      refine ⟨rfl, b1 ++ t2, h.lt, h.tab.congrG rfl rfl rfl rfl, ⟨⟨rfl, rfl, by rw [List.length_append]; omega⟩, fun x hx => ?_, ?_, ?_, h.cur.hn, h.cur.hat, h.cur.hm⟩, h.aux, h.laux, h.nodes, h.nxt, h.rk, h.ruq⟩
      · refine h.cur.bid x ?_
        rw [hw.eq]
        rcases List.mem_append.1 hx with hx | hx
        · exact List.mem_append_left _ hx
        · exact List.mem_append_right _ (List.mem_cons_of_mem _ hx)
      · exact List.pairwise_append.2 ⟨s1, s5, fun a ha c hc => s3 a ha c (List.mem_cons_of_mem _ hc)⟩
      · show withoutR H.refs name = _
        rw [hrefs, hw.eq]
        unfold withoutR
        rw [List.map_append, List.map_append, List.filter_append, List.map_cons, List.filter_cons, if_neg (by simp [toRef, hbn])]
        congr 1
        · refine List.filter_eq_self.2 fun x hx => ?_
          obtain ⟨c, hc, rfl⟩ := List.mem_map.1 hx
          have := sLt_ne (hw.lo c hc)
          exact decide_eq_true this
        · refine List.filter_eq_self.2 fun x hx => ?_
          obtain ⟨c, hc, rfl⟩ := List.mem_map.1 hx
          have := sLt_ne (s4 c hc)
          rw [hbn] at this
          exact decide_eq_true (fun e => this e.symm)
theorem gsetHead_ok {hd : Head} (hn : 100000 ≤ n) (h : Gm t s d g A root ord K bs H) (h1 : hd.name ≠ [] → goodN hd.name = true) (h2 : hd.name = [] → ∃ i, i ∈ ord ∧ (K i).seq = hd.seq) (h3 : hd.merge ≠ 0 → ∃ i, i ∈ ord ∧ (K i).seq = hd.merge) :
    Ok (m153 n g hd) (fun r => r.1 = 0 ∧ Gm t s d r.2 A root ord K bs { H with head := { name := hd.name, seq := if hd.name = [] then hd.seq else 0, merge := hd.merge } }) := by
  have conv : ∀ {q : Int}, (∃ i, i ∈ ord ∧ (K i).seq = q) → ∃ i, i ∈ ord ∧ (g.com i).seq = q := fun ⟨i, a, b⟩ => ⟨i, a, by rw [h.tab.comseq a]; exact b⟩
  refine Ok.mono (setHead_ok hn h.tab.od h1 (fun e => conv (h2 e)) (fun e => conv (h3 e))) (fun r hr => ?_)
  obtain ⟨a, m, rfl, ha, hm⟩ := hr
  refine ⟨rfl, h.lt, h.tab.congrG rfl rfl rfl rfl, ⟨⟨h.cur.brs.nb, h.cur.brs.br, h.cur.brs.le⟩, h.cur.bid, h.cur.bsrt, h.cur.refs, rfl, ?_, ?_⟩, h.aux, h.laux, h.nodes, h.nxt, h.rk, h.ruq⟩
  · rcases ha with ⟨e1, e2⟩ | ⟨e1, e2, e3⟩
    · exact .inl ⟨e1, h1 e1, e2, by show (if hd.name = [] then _ else _) = _; rw [if_neg e1]⟩
    · refine .inr ⟨e1, e2, ?_⟩
      show (if hd.name = [] then hd.seq else 0) = _
      rw [if_pos e1, ← h.tab.comseq e2]; exact e3.symm
  · rcases hm with ⟨e1, e2⟩ | ⟨e1, e2, e3⟩
    · exact .inl ⟨e1, e2⟩
    · refine .inr ⟨e2, ?_⟩
      show hd.merge = _
      rw [← h.tab.comseq e2]; exact e3.symm
/-- SetAux of a lawful snapshot -/
theorem gsetAux_ok {fs : List File} (hn : 100010 ≤ n) (h : Gm t s d g A root ord K bs H) (hl : Law fs) :
    Ok (m208 n g t s d fs) (fun r => ∃ g' t' s' d' A', LT t' s' d' A' root ∧ Grow (fun q => q = 1 ∨ q = 2) d A d' A' ∧ ((r = (5, g, t', s', d') ∧ (nfr A : Int) < cost fs) ∨ (r = (0, g', t', s', d') ∧ (nfr A : Int) ≤ nfr A' + cost fs ∧ Gm t' s' d' g' A' root ord K bs { H with aux := fs }))) := by
  unfold m208
  refine Ok_cl1 (checkFiles_ok (by omega)) ?_
  rw [chkF_iff.2 hl]
  refine Ok_ite (fun e => absurd rfl e) (fun _ => Ok_ob5 (Ok.mono (store_ok hn h.lt hl) (fun r hr => ?_)))
  obtain ⟨t', s', d', A', l1, l2, hr⟩ := hr
  rcases hr with ⟨rfl, hr⟩ | ⟨i, rfl, hr1, hr2⟩
  · exact Ok_ite (fun _ => Ok.some' ⟨g, t', s', d', A', l1, l2, .inl ⟨rfl, hr⟩⟩) (fun e => absurd (show ¬ ((5 : Int) = 0) by decide) e)
  · refine Ok_ite (fun e => absurd rfl e) (fun _ => Ok_nm (Ok.some' ⟨{ g with aux := i }, t', s', d', A', l1, l2, .inr ⟨rfl, hr2, ?_⟩⟩))
    have hg := h.grow l1 l2 (fun k hk => by omega)
    exact ⟨l1, hg.tab.congrG rfl rfl rfl rfl, ⟨⟨hg.cur.brs.nb, hg.cur.brs.br, hg.cur.brs.le⟩, hg.cur.bid, hg.cur.bsrt, hg.cur.refs, hg.cur.hn, hg.cur.hat, hg.cur.hm⟩, hr1, hl, hg.nodes, hg.nxt, hg.rk, hg.ruq⟩
end
end Go.Proofs.Qxb6500350aGreat
