/- PLAIN LAW: THE INDEX (3): PLANT, PUT. -/
import Derived.Test.Qxb6500350aGreatK50
set_option linter.unusedVariables false
set_option linter.unusedSimpArgs false
set_option maxHeartbeats 1000000
namespace Go.Proofs.Qxb6500350aGreat
open Go.Eng Go
def withF : List File → File → List File
  | [], f => [f]
  | g :: r, f => if sLt f.path g.path = true then f :: g :: r else if f.path = g.path then f :: r else g :: withF r f
def withoutF (l : List File) (p : Str) : List File := l.filter fun x => decide (x.path ≠ p)
def findF (l : List File) (p : Str) : Option File := l.find? fun x => decide (x.path = p)
theorem withF_mem {f h : File} : ∀ {l : List File}, (l.Pairwise fun a b => sLt a.path b.path = true) → (h ∈ withF l f ↔ h = f ∨ (h ∈ l ∧ h.path ≠ f.path))
  | [], _ => by simp [withF]
  | g :: r, hs => by
    obtain ⟨h1, h2⟩ := List.pairwise_cons.1 hs
    have ih := withF_mem (h := h) (f := f) h2
    unfold withF
    split
    · rename_i hlt
      have hne : h ∈ g :: r → h.path ≠ f.path := fun hm e => by
        rcases List.mem_cons.1 hm with rfl | hm
        · rw [e, sLt_irrefl] at hlt; cases hlt
        · have := sLt_trans hlt (h1 h hm); rw [e, sLt_irrefl] at this; cases this
      rw [List.mem_cons]
      exact ⟨fun h => h.imp id (fun h => ⟨h, hne h⟩), fun h => h.imp id (fun h => h.1)⟩
    · split
      · rename_i _ he
        have hne : h ∈ r → h.path ≠ f.path := fun hm e => by
          have := h1 h hm; rw [← he, ← e, sLt_irrefl] at this; cases this
        rw [List.mem_cons, List.mem_cons]
        constructor
        · rintro (h | h)
          · exact .inl h
          · exact .inr ⟨.inr h, hne h⟩
        · rintro (h | ⟨h | h, h'⟩)
          · exact .inl h
          · subst h; exact absurd he.symm h'
          · exact .inr h
      · rename_i hnl hne
        rw [List.mem_cons, ih, List.mem_cons]
        constructor
        · rintro (h | h | h)
          · subst h; exact .inr ⟨.inl rfl, fun e => hne e.symm⟩
          · exact .inl h
          · exact .inr ⟨.inr h.1, h.2⟩
        · rintro (h | ⟨h | h, h'⟩)
          · exact .inr (.inl h)
          · exact .inl h
          · exact .inr (.inr ⟨h, h'⟩)
theorem withF_srt {f : File} : ∀ {l : List File}, (l.Pairwise fun a b => sLt a.path b.path = true) → (withF l f).Pairwise fun a b => sLt a.path b.path = true
  | [], _ => by simp [withF]
  | g :: r, hs => by
    obtain ⟨h1, h2⟩ := List.pairwise_cons.1 hs
    unfold withF
    split
    · rename_i hlt
      refine List.pairwise_cons.2 ⟨fun x hx => ?_, hs⟩
      rcases List.mem_cons.1 hx with rfl | hx
      · exact hlt
      · exact sLt_trans hlt (h1 x hx)
    · split
      · rename_i _ he
        exact List.pairwise_cons.2 ⟨fun x hx => by rw [he]; exact h1 x hx, h2⟩
      · rename_i hnl hne
        have hgf : sLt g.path f.path = true := by
          rcases sLt_tri g.path f.path with h | h | h
          · exact h
          · exact absurd h.symm hne
          · exact absurd h hnl
        refine List.pairwise_cons.2 ⟨fun x hx => ?_, withF_srt h2⟩
        rcases (withF_mem h2).1 hx with rfl | hx
        · exact hgf
        · exact h1 x hx.1
theorem withF_len {f : File} : ∀ {l : List File}, (l.Pairwise fun a b => sLt a.path b.path = true) → (withF l f).length = l.length + if (∃ g, g ∈ l ∧ g.path = f.path) then 0 else 1
  | [], _ => by simp [withF]
  | g :: r, hs => by
    obtain ⟨h1, h2⟩ := List.pairwise_cons.1 hs
    unfold withF
    split
    · rename_i hlt
      rw [if_neg]
      · rfl
      · rintro ⟨x, hx, e⟩
        rcases List.mem_cons.1 hx with rfl | hx
        · rw [e, sLt_irrefl] at hlt; cases hlt
        · have := sLt_trans hlt (h1 x hx); rw [e, sLt_irrefl] at this; cases this
    · split
      · rename_i _ he
        rw [if_pos ⟨g, by simp, he.symm⟩]; rfl
      · rename_i hnl hne
        rw [List.length_cons, withF_len h2, List.length_cons]
        by_cases e : ∃ x, x ∈ r ∧ x.path = f.path
        · rw [if_pos e, if_pos (by obtain ⟨x, hx, e⟩ := e; exact ⟨x, List.mem_cons_of_mem _ hx, e⟩)]
        · rw [if_neg e, if_neg]
          rintro ⟨x, hx, e2⟩
          rcases List.mem_cons.1 hx with rfl | hx
          · exact hne e2.symm
          · exact e ⟨x, hx, e2⟩
theorem Law.clash {l : List File} (h : Law l) {a b : File} (ha : a ∈ l) (hb : b ∈ l) (hne : a.path ≠ b.path) : clashP a.path b.path = false := by
  obtain ⟨i, hi, rfl⟩ := List.mem_iff_getElem.1 ha
  obtain ⟨j, hj, rfl⟩ := List.mem_iff_getElem.1 hb
  rcases Nat.lt_trichotomy i j with h1 | h1 | h1
  · exact List.pairwise_iff_getElem.1 h.ncl i j hi hj h1
  · subst h1; exact absurd rfl hne
  · rw [clashP_comm]; exact List.pairwise_iff_getElem.1 h.ncl j i hj hi h1
theorem Law.uniq {l : List File} (h : Law l) {a b : File} (ha : a ∈ l) (hb : b ∈ l) (he : a.path = b.path) : a = b := by
  obtain ⟨i, hi, rfl⟩ := List.mem_iff_getElem.1 ha
  obtain ⟨j, hj, rfl⟩ := List.mem_iff_getElem.1 hb
  rcases Nat.lt_trichotomy i j with h1 | h1 | h1
  · have := sLt_ne (List.pairwise_iff_getElem.1 h.srt i j hi hj h1); exact absurd he this
  · subst h1; rfl
  · have := sLt_ne (List.pairwise_iff_getElem.1 h.srt j i hj hi h1); exact absurd he.symm this
theorem law_of {l : List File} (h1 : l.length ≤ 8) (h2 : ∀ f, f ∈ l → goodP f.path = true ∧ (0 ≤ f.mode ∧ f.mode ≤ 3) ∧ f.data.length ≤ 180) (h3 : l.Pairwise fun a b => sLt a.path b.path = true) (h4 : ∀ a b, a ∈ l → b ∈ l → a.path ≠ b.path → clashP a.path b.path = false) : Law l :=
  ⟨h1, fun f hf => (h2 f hf).1, fun f hf => (h2 f hf).2.1, fun f hf => (h2 f hf).2.2, h3, List.Pairwise.imp_of_mem (fun ha hb hab => h4 _ _ ha hb (sLt_ne hab)) h3⟩
theorem withF_law {l : List File} {f : File} (h : Law l) (hg : goodP f.path = true) (hm : 0 ≤ f.mode ∧ f.mode ≤ 3) (hs : f.data.length ≤ 180) (hc : ∀ g, g ∈ l → clashP g.path f.path = false) (hr : (∃ g, g ∈ l ∧ g.path = f.path) ∨ l.length < 8) : Law (withF l f) := by
  have hmem := fun x => withF_mem (h := x) (f := f) h.srt
  refine law_of ?_ (fun x hx => ?_) (withF_srt h.srt) (fun a b ha hb hne => ?_)
  · rw [withF_len h.srt]
    have := h.num
    split
    · omega
    · rename_i e; have := hr.resolve_left e; omega
  · rcases (hmem x).1 hx with rfl | hx
    · exact ⟨hg, hm, hs⟩
    · exact ⟨h.good x hx.1, h.mode x hx.1, h.size x hx.1⟩
  · rcases (hmem a).1 ha with rfl | ha
    · rcases (hmem b).1 hb with rfl | hb
      · exact absurd rfl hne
      · rw [clashP_comm]; exact hc b hb.1
    · rcases (hmem b).1 hb with rfl | hb
      · exact hc a ha.1
      · exact h.clash ha.1 hb.1 hne
theorem withoutF_law {l : List File} {p : Str} (h : Law l) : Law (withoutF l p) := by
  have hsub : ∀ x, x ∈ withoutF l p → x ∈ l := fun x hx => (List.mem_filter.1 hx).1
  refine ⟨?_, fun f hf => h.good f (hsub f hf), fun f hf => h.mode f (hsub f hf), fun f hf => h.size f (hsub f hf), h.srt.filter _, h.ncl.filter _⟩
  have := List.length_filter_le (fun x : File => decide (x.path ≠ p)) l
  have := h.num
  unfold withoutF; omega
/-- the tree shows the files fs -/
structure XS (pl : Int → Nod) (pp : Int → Str) (T : Int → Prop) (fs : List File) : Prop where
  row : ∀ f, f ∈ fs ↔ ∃ c, T c ∧ (pl c).file = true ∧ pp c = f.path ++ [47] ∧ (pl c).data = f.data ∧ (pl c).mode = f.mode
  sup : ∀ c, T c → (pl c).file = false → ∃ f, f ∈ fs ∧ pp c <+: f.path
/-- the index is the snapshot fs -/
def XF (x : Index) (fs : List File) : Prop := ∃ L pp Fr T, XI x.pool x.free L pp Fr T ∧ XS x.pool pp T fs ∧ x.files = fs.length ∧ Law fs
theorem way_dirs : ∀ {m : Nat} {w cur : Str}, Way m w → (dirsOf cur w).length ≤ m
  | 0, w, cur, h => by rw [show w = [] from h]; simp [dirsOf]
  | m + 1, w, cur, h => by
    rcases h with rfl | ⟨y, w', rfl, _, hy, hw⟩
    · simp [dirsOf]
    · have : ∀ (y : Str) (cur : Str), (47 : UInt8) ∉ y → dirsOf cur (y ++ 47 :: w') = (cur ++ (y ++ [47])) :: dirsOf (cur ++ (y ++ [47])) w' := by
        intro y
        induction y with
        | nil => intro cur _; rw [List.nil_append, dirsOf_cons, if_pos rfl]; simp
        | cons a y ih =>
          intro cur hy
          have ha : a ≠ 47 := fun e => hy (by rw [e]; simp)
          rw [List.cons_append, dirsOf_cons, if_neg ha, ih _ (fun hh => hy (List.mem_cons_of_mem _ hh))]
          simp
      rw [this y cur hy, List.length_cons]
      have := way_dirs (cur := cur ++ (y ++ [47])) hw
      omega
theorem slash_pre {q P : Str} (hq : ∃ a, q = a ++ [47]) (h : q <+: P) : q ∈ dirsOf [] P := by
  obtain ⟨a, rfl⟩ := hq
  obtain ⟨v, hv⟩ := h
  exact (dirsOf_mem P [] _).2 ⟨a, v, by rw [← hv]; simp, by simp⟩
/-- a free node is left -/
theorem room_x {pl : Int → Nod} {free : Int} {L : Int → List Int} {pp : Int → Str} {Fr : List Int} {T : Int → Prop} {ps : List Str} {q : Str} (h : XI pl free L pp Fr T) (hps : ps.length ≤ 8) (hg : ∀ p, p ∈ ps → goodP p = true) (hT : ∀ c, T c → ∃ p, p ∈ ps ∧ pp c <+: p ++ [47]) (hq : ∃ p, p ∈ ps ∧ q <+: p ++ [47]) (hqs : ∃ a, q = a ++ [47]) (hno : ∀ c, T c → pp c ≠ q) : Fr ≠ [] := by
  intro hF
  have hall : ∀ c, c ∈ ids → T c := fun c hc => by
    have hr := mem_ids.1 hc
    apply Classical.byContradiction
    intro hn
    have := (h.frm c).2 ⟨hr.1, hr.2, hn⟩
    rw [hF] at this; cases this
  have hnd : (q :: ids.map pp).Nodup := by
    refine List.nodup_cons.2 ⟨fun hm => ?_, ?_⟩
    · obtain ⟨c, hc, e⟩ := List.mem_map.1 hm
      exact hno c (hall c hc) e
    · rw [List.Nodup, List.pairwise_map]
      refine List.Pairwise.imp_of_mem (fun {a b} ha hb hab e => ?_) ids_nodup
      exact hab (h.inj a b (hall a ha) (hall b hb) e)
  have hle := nodup_sub_le (U := ps.flatMap fun p => dirsOf [] (p ++ [47])) hnd (fun x hx => by
    rw [List.mem_flatMap]
    rcases List.mem_cons.1 hx with rfl | hx
    · obtain ⟨p, hp, hqp⟩ := hq
      exact ⟨p, hp, slash_pre hqs hqp⟩
    · obtain ⟨c, hc, rfl⟩ := List.mem_map.1 hx
      obtain ⟨p, hp, hpp⟩ := hT c (hall c hc)
      refine ⟨p, hp, slash_pre ?_ hpp⟩
      exact (h.ppend (.inr (hall c hc))).resolve_left (h.ppne (hall c hc)))
  rw [List.length_cons, List.length_map, ids_len] at hle
  have hlen : (ps.flatMap fun p => dirsOf [] (p ++ [47])).length ≤ 6 * ps.length := by
    clear hle hT hq hnd hps
    induction ps with
    | nil => simp
    | cons p r ih =>
      rw [List.flatMap_cons, List.length_append, List.length_cons]
      have h1 := way_dirs (cur := []) (goodP_rel (hg p (by simp))).way
      have h2 := ih (fun x hx => hg x (List.mem_cons_of_mem _ hx))
      omega
  omega
/-- the walk of plant -/
structure Plt (x z : Index) (pp0 : Int → Str) (T0 : Int → Prop) (P pre : Str) (L : Int → List Int) (pp : Int → Str) (Fr : List Int) (T : Int → Prop) : Prop where
  xi : XI z.pool z.free L pp Fr T
  old : ∀ a, T0 a → T a ∧ pp a = pp0 a ∧ Same6 (x.pool a) (z.pool a)
  new : ∀ a, T a → ¬ T0 a → pp a <+: pre ∧ ((z.pool a).file = true ↔ pp a = P)
theorem plant_ok {n : Nat} {x : Index} {L : Int → List Int} {pp : Int → Str} {Fr : List Int} {T : Int → Prop} {fs : List File} {path : Str} (hn : 100000 ≤ n) (h : XI x.pool x.free L pp Fr T) (hs : XS x.pool pp T fs) (hl : Law fs) (hp : goodP path = true)
    (hup : ∀ c q, T c → (x.pool c).file = true → pp c ++ q = path ++ [47] → q = []) (hdn : ∀ c, T c → pp c = path ++ [47] → (x.pool c).file = true) (hr : (∃ g, g ∈ fs ∧ g.path = path) ∨ fs.length < 8) (hfl : x.files = fs.length) :
    Ok (m270 n x path) (fun r => ∃ L' pp' Fr' T', Plt x r.2 pp T (path ++ [47]) (path ++ [47]) L' pp' Fr' T' ∧ T' r.1 ∧ pp' r.1 = path ++ [47] ∧ (r.2.pool r.1).file = true ∧ (T r.1 ∧ r.2.files = x.files ∨ ¬ T r.1 ∧ r.2.files = x.files + 1)) := by
  have hgl := goodP_len hp
  have hway := (goodP_rel hp).way
  have hnum := hl.num
  unfold m270
  refine Ok_ob3 ?_
  unfold m270_w1
  refine Ok_it3 (fun (d at_ : Int) (z : Index) => ∃ pre w m L' pp' Fr' T', path ++ [47] = pre ++ w ∧ at_ = pre.length ∧ Way m w ∧ (d = 0 ∨ T' d) ∧ pp' d = pre ∧ Plt x z pp T (path ++ [47]) pre L' pp' Fr' T' ∧ (w ≠ [] → z.files = x.files) ∧ (w = [] → T d ∧ z.files = x.files ∨ ¬ T d ∧ z.files = x.files + 1)) (fun (_ at_ : Int) _ => ((path.length : Int) + 1 - at_).toNat) ?_ n 0 0 x
    ⟨[], path ++ [47], 6, L, pp, Fr, T, rfl, rfl, hway, .inl rfl, h.pp0, ⟨h, fun a ha => ⟨ha, rfl, .refl _⟩, fun a ha hna => absurd ha hna⟩, fun _ => rfl, fun e => by simp at e⟩ (by show ((path.length : Int) + 1 - 0).toNat < n; omega)
  rintro Q lp d at_ z hQ ⟨pre, w, m, L', pp', Fr', T', e, rfl, hw, hd, hpd, hP, hf1, hf2⟩ ih
  have hlen := congrArg List.length e
  simp only [List.length_append, List.length_cons, List.length_nil] at hlen
  have hxi := hP.xi
  have hd48 := hxi.d48 hd
  by_cases hw0 : w = []
  · subst hw0
    refine Ok_ite (fun hc => by simp at hlen; omega) (fun _ => Ok.some' (hQ _ (Ok.some' ?_)))
    rw [List.append_nil] at e
    have hTd : T' d := by
      rcases hd with rfl | hd
      · rw [hxi.pp0] at hpd; subst hpd; simp at e
      · exact hd
    refine ⟨L', pp', Fr', T', by rw [← e] at hP; exact hP, hTd, by rw [hpd, e], ?_, hf2 rfl⟩
    show (z.pool d).file = true
    by_cases hT0 : T d
    · have := hP.old d hT0
      rw [this.2.2.file]
      exact hdn d hT0 (by rw [← this.2.1, hpd, e])
    · exact ((hP.new d hTd hT0).2).2 (by rw [hpd, e])
  · obtain ⟨k, y, w', rfl, rfl, hy0, hy, hw'⟩ := hw.cases hw0
    simp only [List.length_append, List.length_cons] at hlen
    have hyl : 1 ≤ y.length := by cases y with | nil => exact absurd rfl hy0 | cons a b => simp
    have hpe := part_eq e
    have hfd : (z.pool d).file = false := by
      rcases hd with rfl | hd
      · rw [hxi.root]; rfl
      · by_cases hT0 : T d
        · have ho := hP.old d hT0
          rw [ho.2.2.file, ← Bool.not_eq_true]
          intro hf
          have := hup d (y ++ 47 :: w') hT0 hf (by rw [← ho.2.1, hpd, e])
          simp at this
        · rw [← Bool.not_eq_true]
          intro hf
          have := ((hP.new d hd hT0).2).1 hf
          rw [hpd, e] at this
          have := congrArg List.length this
          simp at this
    have hpre' : path ++ [47] = (pre ++ (y ++ [47])) ++ w' := by rw [e]; simp
    have hplen : (pre ++ (y ++ [47])).length = pre.length + y.length + 1 := by simp; omega
    have hmono : ∀ {LL : Int → List Int} {qq : Int → Str} {FF : List Int} {TT : Int → Prop}, Plt x z pp T (path ++ [47]) pre LL qq FF TT → Plt x z pp T (path ++ [47]) (pre ++ (y ++ [47])) LL qq FF TT := fun hq => ⟨hq.xi, hq.old, fun a ha hna => ⟨(hq.new a ha hna).1.trans (List.prefix_append _ _), (hq.new a ha hna).2⟩⟩
    refine Ok_ite (fun _ => Ok_cl1 (partEnd_ok hn (by omega) e hy) (Ok_sSl (by omega) (by omega) hpe.2 ?_)) (fun hc => by omega)
    rw [hpe.1]
    refine Ok_ob1 ((childOf_ok (nm := y) hn hd48.1 hd48.2 (hxi.chn d hd) (hxi.len hd)).mono (fun c hc => ?_))
    have hwi : wi ((pre.length : Int) + y.length + 1) = ((pre ++ (y ++ [47])).length : Int) := by rw [wi_e (by omega) (by omega), hplen]; omega
    rw [hwi]
    rcases hc with ⟨rfl, hno⟩ | ⟨hcm, hcn⟩
    · refine Ok_ite (fun _ => Ok_sSl (by omega) (by omega) hpe.2 ?_) (fun e => absurd rfl e)
      rw [hpe.1]
      -- nothing stands at or below the missing node
      have hnone := anc_node hxi hd hpd hy hno
      have hnp : ¬ ∃ g, g ∈ fs ∧ g.path = path := by
        rintro ⟨g, hg, rfl⟩
        obtain ⟨c, c1, c2, c3, _⟩ := (hs.row g).1 hg
        have ho := hP.old c c1
        exact hnone c ho.1 (by rw [ho.2.1, c3, hpre']; exact List.prefix_append _ _)
      have hfs7 := hr.resolve_left hnp
      have hFr : Fr' ≠ [] := by
        refine room_x (ps := fs.map (·.path) ++ [path]) (q := pre ++ (y ++ [47])) hxi (by simp; omega) (fun p hp' => ?_) (fun c hc => ?_) ⟨path, by simp, by rw [hpre']; exact List.prefix_append _ _⟩ ⟨pre ++ y, by simp⟩ (fun c hc ec => hnone c hc (by rw [ec]; exact List.prefix_refl _))
        · rcases List.mem_append.1 hp' with hp' | hp'
          · obtain ⟨g, hg, rfl⟩ := List.mem_map.1 hp'; exact hl.good g hg
          · rw [List.mem_singleton.1 hp']; exact hp
        · by_cases hT0 : T c
          · have ho := hP.old c hT0
            rw [ho.2.1]
            cases hf : (x.pool c).file with
            | true =>
              have hfil := h.fil c hT0 hf
              have hpp := (h.ppend (.inr hT0)).resolve_left (h.ppne hT0)
              obtain ⟨a, ha⟩ := hpp
              have hg := (hs.row { path := a, data := (x.pool c).data, mode := (x.pool c).mode }).2 ⟨c, hT0, hf, ha, rfl, rfl⟩
              exact ⟨a, List.mem_append_left _ (List.mem_map.2 ⟨_, hg, rfl⟩), by rw [ha]; exact List.prefix_refl _⟩
            | false =>
              obtain ⟨g, hg, hpg⟩ := hs.sup c hT0 hf
              exact ⟨g.path, List.mem_append_left _ (List.mem_map.2 ⟨g, hg, rfl⟩), hpg.trans (List.prefix_append _ _)⟩
          · exact ⟨path, by simp, (hP.new c hc hT0).1.trans (by rw [e]; exact List.prefix_append _ _)⟩
      obtain ⟨c, Fr2, rfl⟩ : ∃ c Fr2, Fr' = c :: Fr2 := by cases Fr' with | nil => exact absurd rfl hFr | cons a b => exact ⟨a, b, rfl⟩
      have hcF := (hxi.frm c).1 (by simp)
      have hylen : y.length ≤ 12 := by omega
      refine Ok_ob2 ((link_ok (fl := decide ((pre.length : Int) + y.length = (path.length : Int))) hn hxi hd hfd hy0 hy hylen hno).mono (fun r hr => ?_))
      obtain ⟨r1, z2⟩ := r
      obtain ⟨hr1, hfz, L2, hx2, hfc, h6⟩ := hr
      have hr1 : r1 = c := hr1
      subst hr1
      have hfz : z2.files = z.files := hfz
      have hT0c : ¬ T r1 := fun hh => hcF.2.2 (hP.old r1 hh).1
      have hlast : (pre.length : Int) + y.length = (path.length : Int) ↔ w' = [] := by
        constructor
        · intro ee; exact List.eq_nil_of_length_eq_zero (by omega)
        · intro ee; subst ee; simp at hlen; omega
      have hP2 : ∀ z3 : Index, z3.pool = z2.pool → z3.free = z2.free → Plt x z3 pp T (path ++ [47]) (pre ++ (y ++ [47])) L2 (upd pp' r1 (pp' d ++ (y ++ [47]))) Fr2 (fun a => T' a ∨ a = r1) := by
        intro z3 e1 e2
        refine ⟨by rw [e1, e2]; exact hx2, fun a ha => ?_, fun a ha hna => ?_⟩
        · have ho := hP.old a ha
          have hac : a ≠ r1 := fun ee => hT0c (ee ▸ ha)
          have q := h6 a hac
          rw [e1]
          refine ⟨.inl ho.1, by unfold upd; rw [if_neg hac]; exact ho.2.1, ⟨q.name.trans ho.2.2.name, q.file.trans ho.2.2.file, q.data.trans ho.2.2.data, q.mode.trans ho.2.2.mode, q.size.trans ho.2.2.size, q.hash.trans ho.2.2.hash⟩⟩
        · by_cases hac : a = r1
          · subst hac
            have hpa : upd pp' a (pp' d ++ (y ++ [47])) a = pre ++ (y ++ [47]) := by unfold upd; rw [if_pos rfl, hpd]
            rw [hpa, e1, hfc, decide_eq_true_eq, hlast]
            refine ⟨List.prefix_refl _, ?_⟩
            rw [hpre']
            exact ⟨fun ee => by rw [ee]; simp, fun ee => by have := congrArg List.length ee; simp only [List.length_append] at this; exact List.eq_nil_of_length_eq_zero (by omega)⟩
          · have ha' := ha.resolve_right hac
            have hno2 := hP.new a ha' hna
            have hpa : upd pp' r1 (pp' d ++ (y ++ [47])) a = pp' a := by unfold upd; rw [if_neg hac]
            rw [hpa, e1, (h6 a hac).file]
            exact ⟨hno2.1.trans (List.prefix_append _ _), hno2.2⟩
      have hppc : upd pp' r1 (pp' d ++ (y ++ [47])) r1 = pre ++ (y ++ [47]) := by unfold upd; rw [if_pos rfl, hpd]
      have hfx := hf1 (by simp)
      refine Ok_ite (fun ee => Ok_nm ?_) (fun ee => ?_)
      · have hwn := hlast.1 ee
        refine ih _ _ _ ⟨pre ++ (y ++ [47]), w', k, L2, _, Fr2, _, hpre', rfl, hw', .inr (.inr rfl), hppc, hP2 _ rfl rfl, fun hh => absurd hwn hh, fun _ => .inr ⟨hT0c, ?_⟩⟩ (by omega)
        show wi (z2.files + 1) = _
        rw [wi_e (by omega) (by omega)]; omega
      · refine ih _ _ _ ⟨pre ++ (y ++ [47]), w', k, L2, _, Fr2, _, hpre', rfl, hw', .inr (.inr rfl), hppc, hP2 z2 rfl rfl, fun _ => by omega, fun hh => absurd (hlast.2 hh) ee⟩ (by omega)
    · have hTc := hxi.dn d c hd hcm
      have hcr := hxi.rng c hTc.1
      have hpc : pp' c = pre ++ (y ++ [47]) := by rw [hTc.2.1, hpd, hcn]
      refine Ok_ite (fun ee => by omega) (fun _ => ?_)
      refine ih _ _ _ ⟨pre ++ (y ++ [47]), w', k, L', pp', Fr', T', hpre', rfl, hw', .inr hTc.1, hpc, hmono hP, fun _ => hf1 (by simp), fun hh => .inl ⟨?_, hf1 (by simp)⟩⟩ (by omega)
      apply Classical.byContradiction
      intro hT0
      have h1 := (hP.new c hTc.1 hT0).1.length_le
      rw [hpc, hplen] at h1
      omega
end Go.Proofs.Qxb6500350aGreat
