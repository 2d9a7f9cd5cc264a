/- PLAIN LAW: COLLECT. -/
import Derived.Test.Qxb6500350aGreatK44
import Derived.Test.Qxb6500350aGreatT160
set_option linter.unusedVariables false
set_option linter.unusedSimpArgs false
set_option maxHeartbeats 2000000
namespace Go.Proofs.Qxb6500350aGreat
open Go.Eng Go
theorem mem_congr {A A' : Int → Ob} : ∀ {k : Nat} {i : Int}, Ht A k i → (∀ x, Mem A k i x → A' x = A x) → Ht A' k i ∧ (∀ x, Mem A' k i x ↔ Mem A k i x) ∧ flatE A' k i = flatE A k i
  | 0, _, h, _ => h.elim
  | k + 1, i, h, hx => by
    have hi : A' i = A i := hx i (.inl rfl)
    have hR : Rw A' i = Rw A i := Rw_congr hi
    have sub : ∀ r, r ∈ Rw A i → r.dir = true → Ht A' k r.id ∧ (∀ x, Mem A' k r.id x ↔ Mem A k r.id x) ∧ flatE A' k r.id = flatE A k r.id := fun r hr hd =>
      mem_congr (h.2 r hr hd) (fun x hm => hx x (.inr ⟨r, hr, by rw [if_pos hd]; exact hm⟩))
    refine ⟨⟨by have := h.1; unfold isTr at this ⊢; rw [hi]; exact this, fun r hr hd => (sub r (hR ▸ hr) hd).1⟩, fun x => ?_, ?_⟩
    · show (x = i ∨ ∃ r, r ∈ Rw A' i ∧ if r.dir = true then Mem A' k r.id x else x = r.id) ↔ (x = i ∨ ∃ r, r ∈ Rw A i ∧ if r.dir = true then Mem A k r.id x else x = r.id)
      rw [hR]
      refine or_congr_right ⟨fun ⟨r, h1, h2⟩ => ⟨r, h1, ?_⟩, fun ⟨r, h1, h2⟩ => ⟨r, h1, ?_⟩⟩
      · by_cases hd : r.dir = true
        · rw [if_pos hd] at h2 ⊢; exact ((sub r h1 hd).2.1 x).1 h2
        · rw [if_neg hd] at h2 ⊢; exact h2
      · by_cases hd : r.dir = true
        · rw [if_pos hd] at h2 ⊢; exact ((sub r h1 hd).2.1 x).2 h2
        · rw [if_neg hd] at h2 ⊢; exact h2
    · rw [flatE_s, flatE_s, hR]
      refine flatMap_congr' fun r hr => ?_
      unfold rowE
      by_cases hd : r.dir = true
      · rw [if_pos hd, if_pos hd, (sub r hr hd).2.2]
      · rw [if_neg hd, if_neg hd]
theorem flatE_mem {A : Int → Ob} : ∀ {k : Nat} {i : Int} {e : Entry}, Ht A k i → e ∈ flatE A k i → Mem A k i e.id
  | 0, _, _, hh, _ => hh.elim
  | k + 1, i, e, hh, he => by
    rw [flatE_s] at he
    obtain ⟨r, hr, he⟩ := List.mem_flatMap.1 he
    unfold rowE at he
    refine .inr ⟨r, hr, ?_⟩
    by_cases hd : r.dir = true
    · rw [if_pos hd] at he ⊢
      obtain ⟨a, ha, rfl⟩ := List.mem_map.1 he
      exact flatE_mem (e := a) (hh.2 r hr hd) ha
    · rw [if_neg hd] at he ⊢
      rw [List.mem_singleton.1 he]
theorem tv_congr {A A' : Int → Ob} {i : Int} {fs : List File} (ts : TreS A) (hv : TV A i fs) (hx : ∀ x, Mem A 6 i x → A' x = A x) : TV A' i fs ∧ ∀ x, Mem A' 6 i x ↔ Mem A 6 i x := by
  obtain ⟨h1, h2, h3⟩ := mem_congr (ts.ht i hv.1) hx
  refine ⟨⟨h1.tr, ?_⟩, h2⟩
  rw [h3, hv.2]
  refine List.map_congr_left fun e he => ?_
  unfold valE
  rw [hx e.id (flatE_mem (ts.ht i hv.1) he)]
theorem mem_kind {A : Int → Ob} (ts : TreS A) : ∀ {k : Nat} {i x : Int}, Ht A k i → Mem A k i x → (A x).kind = 1 ∨ (A x).kind = 2
  | 0, _, _, h, _ => h.elim
  | k + 1, i, x, h, hm => by
    rcases hm with rfl | ⟨r, hr, hm⟩
    · exact .inr h.1.2.2.2
    · by_cases hd : r.dir = true
      · rw [if_pos hd] at hm; exact mem_kind ts (h.2 r hr hd) hm
      · rw [if_neg hd] at hm
        subst hm
        exact .inl (ts.fil i r h.1 hr (by simpa using hd)).2.2.2
/-- what a collection starts from -/
def rootsP (g : Graph) (bs : List Brn) (x : Int) : Prop := (∃ b, b ∈ bs ∧ b.id = x) ∨ (g.name = [] ∧ x = g.at_) ∨ (g.merge ≠ 0 ∧ x = g.merge)
/-- the store holds just what the state names -/
def Exact (A : Int → Ob) (root : Int) (ord : List Int) (K : Int → CI) (aux : Int) : Prop := ∀ i, 1 ≤ i → i ≤ 48 → ((A i).lv ↔ i = root ∨ i ∈ ord ∨ (∃ c, c ∈ ord ∧ Mem A 6 (K c).tree i) ∨ Mem A 6 aux i)
section
variable {n : Nat} {t : Trees} {s : Store} {d : Dev} {g : Graph} {A : Int → Ob} {root : Int} {ord : List Int} {K : Int → CI} {bs : List Brn} {H : Hist}
theorem free_ok {t : Trees} (h : LT t s d A root) : m239 n t s = some (nfr A : Int) := by
  refine Ok.eq ?_
  unfold m239
  refine Ok_cl1 (a0 := (nfr A : Int)) ?_ (Ok.some' rfl)
  show some s.nfree = _
  rw [h.st.nf]
theorem Gm.roots_in (h : Gm t s d g A root ord K bs H) {x : Int} (hx : rootsP g bs x) : x ∈ ord := by
  rcases hx with ⟨b, hb, rfl⟩ | ⟨e, rfl⟩ | ⟨e, rfl⟩
  · exact (h.cur.bid b hb).1
  · rcases h.cur.hat with ⟨e2, _⟩ | ⟨_, e2, _⟩
    · rw [h.cur.hn] at e; exact absurd e e2
    · exact e2
  · rcases h.cur.hm with ⟨_, e2⟩ | ⟨e2, _⟩
    · exact absurd e2 e
    · exact e2
open Classical in
theorem gcollect_ok (hn : 100010 ≤ n) (h : Gr t s d g A root ord K bs H) (hd : d.at_.length < 500000) :
    Ok (m160 n g t s d) (fun r => (r = (0, 5, g, t, s, d) ∧ nfr A = 0) ∨ ∃ g' t' s' d' A' root', r = (48 - (nfr A' : Int), 0, g', t', s', d') ∧
      Gr t' s' d' g' A' root' (ord.filter fun x => decide (Anc (fun i => (K i).ps) (rootsP g bs) x)) K bs { H with nodes := (ord.filter fun x => decide (Anc (fun i => (K i).ps) (rootsP g bs) x)).map (nodeOf K) } ∧ Done d A d' A' root' ∧
      Exact A' root' (ord.filter fun x => decide (Anc (fun i => (K i).ps) (rootsP g bs) x)) K g'.aux) := by
  have ht := h.tab
  have hcur := h.cur
  have hnx := ht.nx
  have hrk := h.rk
  have hts := h.lt.ts
  have hfA := h.lt.st.freeE
  have hbl := rbytes_len (nxt := g.nxt) (aux := g.aux) (at_ := g.at_) (merge := g.merge) hcur.nm hcur.brs.le (fun b hb => (goodN_len (hcur.bid b hb).2).2)
  have hble := hcur.brs.le
  have hbnb := hcur.brs.nb
  have hgn := ht.od.n
  have hole := ht.od.le
  unfold m160
  refine Ok_cl1 (refsBytes_ok (by omega) (by omega) (by omega) hcur.nm hcur.brs.le (fun b hb => (goodN_len (hcur.bid b hb).2).2) hcur.brs.nb hcur.brs.br) ?_
  refine Ok_ob5 ((tput_ok (k := 4) (by omega) h.lt (by omega) (by omega) (by omega) (by omega)).mono (fun r hr => ?_))
  rcases hr with ⟨f0, rfl⟩ | ⟨rf, t1, s1, d1, A1, rfl, b1, b2, b3, b4, b5, b6, b7, b8, b9⟩
  · exact Ok_ite (fun _ => Ok.some' (.inl ⟨rfl, f0⟩)) (fun e => absurd (show ¬ ((5 : Int) = 0) by decide) e)
  refine Ok_ite (fun e => absurd rfl e) (fun _ => Ok_ob2 ?_)
  -- the roots as bits
  unfold m160_w1
  refine Ok_it2 (fun (c k : Int) => 0 ≤ k ∧ k ≤ bs.length ∧ Bits c (fun x => ∃ b, b ∈ bs.take k.toNat ∧ b.id = x)) (fun (_ k : Int) => ((bs.length : Int) - k).toNat) ?_ n 0 0 ⟨by omega, by omega, Bits.zero.congr (fun x _ _ => by simp)⟩ (by show ((bs.length : Int) - 0).toNat < n; omega)
  rintro Q lp c k hQ ⟨i0, i1, i2⟩ ih
  refine Ok_ite (fun hk => ?_) (fun hk => ?_)
  · have hg := brF_get (bs := bs) i0 (by omega)
    have hbr := ht.rng (hcur.bid _ (List.mem_of_getElem? hg)).1
    rw [← hcur.brs.br] at hg hbr
    obtain ⟨b, hb1, rfl⟩ := bit_ok (n := n) (i := (g.br k).id) (by omega) (by omega)
    refine Ok_ck (by omega) (by omega) (Ok_cl1 hb1 ?_)
    rw [wi_e (by omega) (by omega)]
    refine ih _ _ ⟨by omega, by omega, (i2.or (Bits.one (by omega) (by omega))).congr (fun y _ _ => ?_)⟩ (by omega)
    rw [show (k + 1).toNat = k.toNat + 1 by omega, List.take_add_one, hg]
    constructor
    · rintro (⟨b, h1, h2⟩ | rfl)
      · exact ⟨b, List.mem_append_left _ h1, h2⟩
      · exact ⟨g.br k, by simp, rfl⟩
    · rintro ⟨b, h1, h2⟩
      rcases List.mem_append.1 h1 with h1 | h1
      · exact .inl ⟨b, h1, h2⟩
      · simp at h1; subst h1; exact .inr h2.symm
  obtain rfl : k = bs.length := by omega
  rw [Int.toNat_natCast, List.take_length] at i2
  refine Ok.some' (hQ _ ?_)
  clear ih hQ
  have hat : Ok (cond (decide (g.name = [])) (ob1 (m222 n g.at_) fun c9 => some (bOr .u64 c c9)) (some c)) (fun w => Bits w (fun x => (∃ b, b ∈ bs ∧ b.id = x) ∨ (g.name = [] ∧ x = g.at_))) := by
    refine Ok_ite (fun e => ?_) (fun e => Ok.some' (i2.congr fun x _ _ => ⟨.inl, fun hx => hx.elim id (fun hx => absurd hx.1 e)⟩))
    have hr := ht.rng (h.roots_in (x := g.at_) (.inr (.inl ⟨e, rfl⟩)))
    obtain ⟨b, hb1, rfl⟩ := bit_ok (n := n) (i := g.at_) (by omega) (by omega)
    exact Ok_cl1 hb1 (Ok.some' ((i2.or (Bits.one (by omega) (by omega))).congr fun x _ _ => or_congr_right ⟨fun hx => ⟨e, hx⟩, fun hx => hx.2⟩))
  refine Ok_ob1 (hat.mono (fun c8 hc8 => ?_))
  have hmg : Ok (cond (decide (¬ (g.merge = 0))) (ob1 (m222 n g.merge) fun c11 => some (bOr .u64 c8 c11)) (some c8)) (fun w => Bits w (rootsP g bs)) := by
    refine Ok_ite (fun e => ?_) (fun e => Ok.some' (hc8.congr fun x _ _ => ⟨fun hx => hx.elim .inl (fun hx => .inr (.inl hx)), fun hx => ?_⟩))
    · have hr := ht.rng (h.roots_in (x := g.merge) (.inr (.inr ⟨e, rfl⟩)))
      obtain ⟨b, hb1, rfl⟩ := bit_ok (n := n) (i := g.merge) (by omega) (by omega)
      refine Ok_cl1 hb1 (Ok.some' ((hc8.or (Bits.one (by omega) (by omega))).congr fun x _ _ => ?_))
      constructor
      · rintro ((hx | hx) | hx)
        · exact .inl hx
        · exact .inr (.inl hx)
        · exact .inr (.inr ⟨e, hx⟩)
      · rintro (hx | hx | hx)
        · exact .inl (.inl hx)
        · exact .inl (.inr hx)
        · exact .inr hx.2
    · rcases hx with hx | hx | hx
      · exact .inl hx
      · exact .inr hx
      · exact absurd hx.1 e
  refine Ok_ob1 (hmg.mono (fun c10 hc10 => ?_))
  refine Ok_ob1 ((up_ok (par := fun i => (K i).ps) (by omega) ht.od ht.fam hc10 (fun x _ _ hx => h.roots_in hx)).mono (fun c12 hc12 => ?_))
  have hc12 : Bits c12 (Anc (fun i => (K i).ps) (rootsP g bs)) := hc12.congr fun x _ _ => Anc.congr fun y => ⟨fun hy => hy.2, fun hy => ⟨h.roots_in hy, hy⟩⟩
  generalize hKP : Anc (fun i => (K i).ps) (rootsP g bs) = KP at hc12
  have hKord : ∀ x, KP x → x ∈ ord := fun x hx => by
    rw [← hKP] at hx
    exact anc_mem (par := fun i => (K i).ps) ht.fam (fun y hy => h.roots_in hy) hx
  have hKpar : ∀ x p, KP x → p ∈ (K x).ps → KP p := fun x p hx hp => by
    rw [← hKP] at hx ⊢; exact .step hx hp
  -- the new refs object
  have hrf1 : ∀ x, isRf A1 x → x = root ∨ x = rf := by
    intro x hx
    by_cases e : x = rf
    · exact .inr e
    · exact .inl (h.ruq x (by unfold isRf at hx ⊢; rw [b9 x e] at hx; exact hx))
  have htab1 : Tab g A1 ord K := ht.grow hts b2.ext (fun x x0 x1 => (b2.kin x x0 x1).imp id (fun e => by omega))
  have haux1 := h.aux.ext hts b2.ext
  have hts1 := b1.ts
  obtain ⟨b, hb1, rfl⟩ := bit_ok (n := n) (i := rf) (by omega) (by omega)
  refine Ok_cl1 hb1 (Ok_ob2 ?_)
  unfold m160_w2
  refine Ok_it2 (fun (c k : Int) => 0 ≤ k ∧ k ≤ ord.length ∧ Bits c (fun x => (KP x ∨ x = rf) ∨ ∃ q, q ∈ ord.take k.toNat ∧ KP q ∧ Mem A1 6 (K q).tree x)) (fun (_ k : Int) => ((ord.length : Int) - k).toNat) ?_ n _ 0
    ⟨by omega, by omega, (hc12.or (Bits.one (by omega) (by omega))).congr (fun x _ _ => ⟨.inl, fun hx => hx.elim id (fun ⟨q, hq, _⟩ => by simp at hq)⟩)⟩ (by show ((ord.length : Int) - 0).toNat < n; omega)
  rintro Q lp c' k hQ ⟨j0, j1, j2⟩ ih
  refine Ok_ite (fun hk => ?_) (fun hk => ?_)
  · have hm := ht.od.mem j0 (by omega)
    have hr := ht.rng hm
    have hget := ht.od.oget k j0 (by omega)
    have htk : ∀ q, q ∈ ord.take (k + 1).toNat ↔ q ∈ ord.take k.toNat ∨ q = g.order k := by
      intro q
      rw [show (k + 1).toNat = k.toNat + 1 by omega, List.take_add_one, hget]; simp
    obtain ⟨b, hb1, rfl⟩ := bit_ok (n := n) (i := g.order k) (by omega) (by omega)
    have htst := hc12.test (i := g.order k) (by omega) (by omega)
    refine Ok_ck (by omega) (by omega) (Ok_cl1 hb1 (Ok_ite (fun e => ?_) (fun e => ?_)))
    · have hP := Classical.not_not.1 (fun hh => e (htst.2 hh))
      refine Ok_ck (by omega) (by omega) ?_
      have hct : (g.com (g.order k)).tree = (K (g.order k)).tree := by rw [ht.com _ hm]; rfl
      rw [hct]
      refine Ok_ob1 ((gmembers_ok hn b1 j2 (htab1.tv _ hm).1).mono (fun w hw => ?_))
      rw [wi_e (by omega) (by omega)]
      refine ih _ _ ⟨by omega, by omega, hw.congr fun x _ _ => ?_⟩ (by omega)
      constructor
      · rintro ((hx | ⟨q, q1, q2, q3⟩) | hx)
        · exact .inl hx
        · exact .inr ⟨q, (htk q).2 (.inl q1), q2, q3⟩
        · exact .inr ⟨g.order k, (htk _).2 (.inr rfl), hP, hx⟩
      · rintro (hx | ⟨q, q1, q2, q3⟩)
        · exact .inl (.inl hx)
        · rcases (htk q).1 q1 with q1 | rfl
          · exact .inl (.inr ⟨q, q1, q2, q3⟩)
          · exact .inr q3
    · have hP := htst.1 (Classical.not_not.1 e)
      rw [wi_e (by omega) (by omega)]
      refine ih _ _ ⟨by omega, by omega, j2.congr fun x _ _ => ?_⟩ (by omega)
      refine or_congr_right ⟨fun ⟨q, q1, q2, q3⟩ => ⟨q, (htk q).2 (.inl q1), q2, q3⟩, fun ⟨q, q1, q2, q3⟩ => ⟨q, ?_, q2, q3⟩⟩
      rcases (htk q).1 q1 with q1 | rfl
      · exact q1
      · exact absurd q2 hP
  obtain rfl : k = ord.length := by omega
  rw [Int.toNat_natCast, List.take_length] at j2
  refine Ok.some' (hQ _ ?_)
  clear ih hQ
  refine Ok_ob1 ((gmembers_ok hn b1 j2 haux1.1).mono (fun c20 hc20 => ?_))
  generalize hMd : (fun x => ((KP x ∨ x = rf) ∨ ∃ q, q ∈ ord ∧ KP q ∧ Mem A1 6 (K q).tree x) ∨ Mem A1 6 g.aux x) = M at hc20
  have hMeq : ∀ x, M x ↔ ((KP x ∨ x = rf) ∨ ∃ q, q ∈ ord ∧ KP q ∧ Mem A1 6 (K q).tree x) ∨ Mem A1 6 g.aux x := fun x => by rw [← hMd]
  have hrow : ∀ {i j : Int} {r : Line}, isTr A1 i → isTr A1 j → r ∈ Rw A1 j → Mem A1 6 i j → Mem A1 6 i r.id := by
    intro i j r hi hj hr hm
    refine Mem.trans hts1 ?_ (hts1.ht i hi) (Nat.le_refl _) hj hm
    refine .inr ⟨r, hr, ?_⟩
    by_cases hdd : r.dir = true
    · rw [if_pos hdd]; exact .inl rfl
    · rw [if_neg hdd]
  have hclosed : ClosedM M A1 := by
    intro j r hj hm hr
    rcases (hMeq j).1 hm with ((hx | rfl) | ⟨q, q1, q2, q3⟩) | hx
    · have := ((htab1.ob j).1 (hKord j hx)).2.2.2; have := hj.2.2.2; omega
    · have := hj.2.2.2; omega
    · exact (hMeq _).2 (.inl (.inr ⟨q, q1, q2, hrow (htab1.tv q q1).1 hj hr q3⟩))
    · exact (hMeq _).2 (.inr (hrow haux1.1 hj hr hx))
  have hst1 : d1.at_.length ≤ d.at_.length + 144 := by
    obtain ⟨q, q1, q2⟩ := b2.dev
    have := q1.steps
    have := nfr_le A
    omega
  refine Ok_ob2 ((sweep_ok hn b1 (by omega) hc20 hclosed).mono (fun r hr => ?_))
  obtain ⟨t2, s2⟩ := r
  obtain ⟨A2, l2, hsw, hlive⟩ := hr
  simp only at l2
  have hkeep : ∀ x, 1 ≤ x → x ≤ 48 → M x → A2 x = A1 x := fun x h0 h1 hm => (hsw x h0 h1).resolve_right (fun e => e.1 hm)
  have hrf2 : A2 rf = A1 rf := hkeep rf b4 b5 ((hMeq rf).2 (.inl (.inl (.inr rfl))))
  refine Ok_ob3 ((tcommit_ok (nr := rf) (by omega) l2 (by omega) (.inr ⟨b4, b5, by rw [hrf2]; exact b6⟩)).mono (fun r hr => ?_))
  obtain ⟨c21, s3, d3⟩ := r
  obtain ⟨_, e2, e3, e4⟩ := hr
  simp only at e2 e3 e4
  refine Ok_ob1 ((forget_ok (by omega) ht.od hc12).mono (fun g' hg' => ?_))
  obtain ⟨cm, od, rfl, hO', hcm⟩ := hg'
  refine Ok_cl1 (free_ok e2) (Ok.some' (.inr ?_))
  have hnf := nfr_le (fun i => (A2 i).cmt)
  refine ⟨_, t2, s3, d3, _, rf, by rw [wi_e (by omega) (by omega)], ?_, ?_, ?_⟩
  · -- the state
    have hmemr : ∀ {q x}, isTr A1 q → Mem A1 6 q x → 1 ≤ x ∧ x ≤ 48 := fun hq hm => by
      have := Mem.rng hts1 (hts1.ht _ hq) hm; exact ⟨this.1, this.2.1⟩
    have haux2 : TV A2 g.aux H.aux := (tv_congr hts1 haux1 (fun x hx => hkeep x (hmemr haux1.1 hx).1 (hmemr haux1.1 hx).2 ((hMeq x).2 (.inr hx)))).1
    have hor : ∀ i, i ∈ ord.filter (fun x => decide (KP x)) ↔ KP i := fun i => by
      rw [List.mem_filter, decide_eq_true_eq]; exact ⟨fun hx => hx.2, fun hx => ⟨hKord i hx, hx⟩⟩
    have hA2ord : ∀ i, KP i → A2 i = A1 i := fun i hi => by
      have := ht.rng (hKord i hi)
      exact hkeep i this.1 this.2 ((hMeq i).2 (.inl (.inl (.inl hi))))
    have hcmk : ∀ i, KP i → cm i = g.com i := fun i hi => by rw [hcm i, if_neg (fun e => e.2 hi)]
    have hA2lv : ∀ i, 1 ≤ i → i ≤ 48 → (A2 i).lv → A2 i = A1 i := fun i h0 h1 hl => hkeep i h0 h1 (hlive i h0 h1 hl)
    refine Gr.of_cmt (H := { H with nodes := (ord.filter fun x => decide (KP x)).map (nodeOf K) }) l2.ts (fun x x0 x1 => l2.st.rng x x0 x1) ⟨hO', ?_, fun i hi => ?_, fun i i0 i1 hi => ?_, fun i => ?_, fun i hi => ?_, fun i hi => ht.seq i (hKord i ((hor i).1 hi)), fun i hi => ?_, fun i hi => ht.msg i (hKord i ((hor i).1 hi)), fun i hi => ?_, fun i hi => ht.law i (hKord i ((hor i).1 hi)), hnx⟩
      ⟨⟨hcur.brs.nb, hcur.brs.br, hcur.brs.le⟩, fun b hb => ⟨(hor _).2 ?_, (hcur.bid b hb).2⟩, hcur.bsrt, hcur.refs, hcur.hn, ?_, ?_⟩ haux2 h.laux rfl h.nxt (by unfold isRf; rw [hrf2]; exact ⟨b4, b5, b6, b7⟩) (fun x hx => ?_) e2 (by rw [hrf2]; exact b8)
    · have := List.length_filter_le (fun x => decide (KP x)) ord
      have := ht.le; omega
    · exact (hcmk i ((hor i).1 hi)).trans (ht.com i (hKord i ((hor i).1 hi)))
    · show cm i = _
      rw [hcm i]
      by_cases e : i ∈ ord
      · rw [if_pos ⟨e, fun hk => hi ((hor i).2 hk)⟩]
      · rw [if_neg (fun hh => e hh.1)]; exact ht.noc i i0 i1 e
    · rw [hor i]
      constructor
      · intro hi
        have := (htab1.ob i).1 (hKord i hi)
        unfold isCo; rw [hA2ord i hi]; exact this
      · intro hc
        have hA := hA2lv i hc.1 hc.2.1 hc.2.2.1
        have hM := hlive i hc.1 hc.2.1 hc.2.2.1
        have hk3 : (A1 i).kind = 3 := by rw [← hA]; exact hc.2.2.2
        rcases (hMeq i).1 hM with ((hx | rfl) | ⟨q, q1, q2, q3⟩) | hx
        · exact hx
        · omega
        · exfalso
          have := mem_kind hts1 (hts1.ht _ (htab1.tv q q1).1) q3
          omega
        · exfalso
          have := mem_kind hts1 (hts1.ht _ haux1.1) hx
          omega
    · rw [hA2ord i ((hor i).1 hi)]; exact htab1.dat i (hKord i ((hor i).1 hi))
    · have hi' := (hor i).1 hi
      refine ⟨(ht.ps i (hKord i hi')).1, fun p hp => ⟨(hor p).2 (hKpar i p hi' hp), ((ht.ps i (hKord i hi')).2 p hp).2⟩⟩
    · have hi' := (hor i).1 hi
      have hio := hKord i hi'
      exact (tv_congr hts1 (htab1.tv i hio) (fun x hx => hkeep x (hmemr (htab1.tv i hio).1 hx).1 (hmemr (htab1.tv i hio).1 hx).2 ((hMeq x).2 (.inl (.inr ⟨i, hio, hi', hx⟩))))).1
    · rw [← hKP]; exact .base (.inl ⟨b, hb, rfl⟩)
    · rcases hcur.hat with e | ⟨e1, e2', e3'⟩
      · exact .inl e
      · refine .inr ⟨e1, (hor _).2 ?_, e3'⟩
        rw [← hKP]; exact .base (.inr (.inl ⟨hcur.hn.trans e1, rfl⟩))
    · rcases hcur.hm with e | ⟨e1, e2'⟩
      · exact .inl e
      · refine .inr ⟨(hor _).2 ?_, e2'⟩
        rw [← hKP]
        refine .base (.inr (.inr ⟨?_, rfl⟩))
        have := ht.rng e1
        show g.merge ≠ 0
        omega
    · have hA := hA2lv x hx.1 hx.2.1 hx.2.2.1
      have hM := hlive x hx.1 hx.2.1 hx.2.2.1
      have hk4 : (A1 x).kind = 4 := by rw [← hA]; exact hx.2.2.2
      rcases (hMeq x).1 hM with ((hx' | e) | ⟨q, q1, q2, q3⟩) | hx'
      · have := ((htab1.ob x).1 (hKord x hx')).2.2.2; omega
      · exact e
      · exfalso; have := mem_kind hts1 (hts1.ht _ (htab1.tv q q1).1) q3; omega
      · exfalso; have := mem_kind hts1 (hts1.ht _ haux1.1) hx'; omega
  · obtain ⟨k, k1, k2⟩ := b2.dev
    have hnA := nfr_le A
    obtain ⟨W, w1, w2, w3⟩ := k1.ws
    exact ⟨e3.trans k1.base, W, by rw [e4, w1], by omega, w3⟩
  · -- exactness
    have v := cmt_view A2
    have hor : ∀ i, i ∈ ord.filter (fun x => decide (KP x)) ↔ KP i := fun i => by
      rw [List.mem_filter, decide_eq_true_eq]; exact ⟨fun hx => hx.2, fun hx => ⟨hKord i hx, hx⟩⟩
    have hmemr : ∀ {q x}, isTr A1 q → Mem A1 6 q x → 1 ≤ x ∧ x ≤ 48 ∧ (A1 x).lv := fun hq hm => Mem.rng hts1 (hts1.ht _ hq) hm
    have hma : ∀ x, Mem (fun i => (A2 i).cmt) 6 g.aux x ↔ Mem A1 6 g.aux x := fun x => by
      rw [v.mem]
      exact (tv_congr hts1 haux1 (fun x hx => hkeep x (hmemr haux1.1 hx).1 (hmemr haux1.1 hx).2.1 ((hMeq x).2 (.inr hx)))).2 x
    have hmq : ∀ q, KP q → ∀ x, Mem (fun i => (A2 i).cmt) 6 (K q).tree x ↔ Mem A1 6 (K q).tree x := fun q hq x => by
      have hio := hKord q hq
      rw [v.mem]
      exact (tv_congr hts1 (htab1.tv q hio) (fun x hx => hkeep x (hmemr (htab1.tv q hio).1 hx).1 (hmemr (htab1.tv q hio).1 hx).2.1 ((hMeq x).2 (.inl (.inr ⟨q, hio, hq, hx⟩))))).2 x
    intro i h0 h1
    rw [(v i h0 h1).1]
    constructor
    · intro hl
      rcases (hMeq i).1 (hlive i h0 h1 hl) with ((hx | e) | ⟨q, q1, q2, q3⟩) | hx
      · exact .inr (.inl ((hor i).2 hx))
      · exact .inl e
      · exact .inr (.inr (.inl ⟨q, (hor q).2 q2, (hmq q q2 i).2 q3⟩))
      · exact .inr (.inr (.inr ((hma i).2 hx)))
    · intro hx
      have hM : M i ∧ (A1 i).lv := by
        rcases hx with rfl | hx | ⟨q, q1, q2⟩ | hx
        · exact ⟨(hMeq i).2 (.inl (.inl (.inr rfl))), b6⟩
        · have hk := (hor i).1 hx
          exact ⟨(hMeq i).2 (.inl (.inl (.inl hk))), ((htab1.ob i).1 (hKord i hk)).2.2.1⟩
        · have hk := (hor q).1 q1
          have hm := (hmq q hk i).1 q2
          exact ⟨(hMeq i).2 (.inl (.inr ⟨q, hKord q hk, hk, hm⟩)), (hmemr (htab1.tv q (hKord q hk)).1 hm).2.2⟩
        · have hm := (hma i).1 hx
          exact ⟨(hMeq i).2 (.inr hm), (hmemr haux1.1 hm).2.2⟩
      rw [hkeep i h0 h1 hM.1]; exact hM.2
end
end Go.Proofs.Qxb6500350aGreat
