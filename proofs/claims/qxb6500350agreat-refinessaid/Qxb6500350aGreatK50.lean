/- PLAIN LAW: THE INDEX (2): LINK. -/
import Derived.Test.Qxb6500350aGreatK49
set_option linter.unusedVariables false
set_option linter.unusedSimpArgs false
set_option maxHeartbeats 1000000
namespace Go.Proofs.Qxb6500350aGreat
open Go.Eng Go
/-- nodes that differ in their links alone -/
structure Same6 (v w : Nod) : Prop where
  name : w.name = v.name
  file : w.file = v.file
  data : w.data = v.data
  mode : w.mode = v.mode
  size : w.size = v.size
  hash : w.hash = v.hash
theorem Same6.refl (v : Nod) : Same6 v v := ⟨rfl, rfl, rfl, rfl, rfl, rfl⟩
theorem Same6.key {v w : Nod} (h : Same6 v w) : keyN w = keyN v := by unfold keyN; rw [h.name, h.file]
section
variable {pl pl' : Int → Nod} {free free' : Int} {L : Int → List Int} {pp : Int → Str} {Fr Fr' : List Int} {T : Int → Prop}
theorem chx_ins {bf c : Int} {l2 : List Int} : ∀ {l0 : List Int} {b : Int}, Chx pl b (l0 ++ bf :: l2) → (∀ i, i ∈ l0 → (pl' i).nxt = (pl i).nxt) → (pl' bf).nxt = c → 1 ≤ c → c ≤ 48 → Chx pl' (pl' c).nxt l2 → Chx pl' b (l0 ++ bf :: c :: l2)
  | [], b, ⟨h1, h2, h3, h4⟩, _, hb, hc0, hc1, hl => ⟨h1, h2, h3, hb, hc0, hc1, hl⟩
  | j :: l0, b, ⟨h1, h2, h3, h4⟩, hx, hb, hc0, hc1, hl => ⟨h1, h2, h3, by rw [hx j (by simp)]; exact chx_ins h4 (fun i hi => hx i (List.mem_cons_of_mem _ hi)) hb hc0 hc1 hl⟩
/-- a node c comes, as a child of d -/
theorem XI.ins {d c s : Int} {nm : Str} {fl : Bool} {l1 l2 : List Int} (h : XI pl free L pp (c :: Fr') T) (hd : d = 0 ∨ T d) (hdf : (pl d).file = false) (hn0 : nm ≠ []) (hns : (47 : UInt8) ∉ nm) (hnl : nm.length ≤ 12) (hnn : ∀ a, a ∈ L d → (pl a).name ≠ nm)
    (hL : L d = l1 ++ l2) (hlo : ∀ a, a ∈ l1 → sLt (keyN (pl a)) (keyN { Nod.zero with name := nm, file := fl }) = true) (hhi : ∀ a, a ∈ l2 → sLt (keyN { Nod.zero with name := nm, file := fl }) (keyN (pl a)) = true)
    (p1 : ∀ a, a ≠ c → Same6 (pl a) (pl' a)) (p2 : pl' c = { Nod.zero with name := nm, file := fl, nxt := s }) (p3 : Chx pl' (pl' d).child (l1 ++ c :: l2)) (p4 : ∀ e, (e = 0 ∨ T e) → e ≠ d → Chx pl' (pl' e).child (L e)) (p5 : Chx pl' free' Fr') (p6 : ∀ a, a ∈ Fr' → pl' a = pl a) (p7 : pl' 0 = { Nod.zero with child := (pl' 0).child }) :
    XI pl' free' (upd (upd L d (l1 ++ c :: l2)) c []) (upd pp c (pp d ++ (nm ++ [47]))) Fr' (fun a => T a ∨ a = c) := by
  have hcF := (h.frm c).1 (by simp)
  have hcT : ∀ a, T a → a ≠ c := fun a ha e => hcF.2.2 (e ▸ ha)
  have hdc : d ≠ c := by
    rcases hd with rfl | hd
    · omega
    · exact hcT d hd
  have hT0 : ∀ a, (a = 0 ∨ T a) → a ≠ c := fun a ha => by
    rcases ha with rfl | ha
    · omega
    · exact hcT a ha
  have hLe : ∀ e, (e = 0 ∨ T e) → upd (upd L d (l1 ++ c :: l2)) c [] e = if e = d then l1 ++ c :: l2 else L e := fun e he => by
    unfold upd; rw [if_neg (hT0 e he)]
  have hLc : upd (upd L d (l1 ++ c :: l2)) c [] c = [] := by unfold upd; rw [if_pos rfl]
  have hppe : ∀ e, (e = 0 ∨ T e) → upd pp c (pp d ++ (nm ++ [47])) e = pp e := fun e he => by unfold upd; rw [if_neg (hT0 e he)]
  have hppc : upd pp c (pp d ++ (nm ++ [47])) c = pp d ++ (nm ++ [47]) := by unfold upd; rw [if_pos rfl]
  have hkc : keyN (pl' c) = keyN { Nod.zero with name := nm, file := fl } := by rw [p2]; rfl
  have hmL : ∀ a, a ∈ l1 ++ c :: l2 ↔ a = c ∨ a ∈ L d := fun a => by
    rw [hL]; simp only [List.mem_append, List.mem_cons]
    constructor
    · rintro (h | h | h)
      · exact .inr (.inl h)
      · exact .inl h
      · exact .inr (.inr h)
    · rintro (h | h | h)
      · exact .inr (.inl h)
      · exact .inl h
      · exact .inr (.inr h)
  have hmem : ∀ e a, (e = 0 ∨ T e) → (a ∈ upd (upd L d (l1 ++ c :: l2)) c [] e ↔ (a ∈ L e ∨ (e = d ∧ a = c))) := fun e a he => by
    rw [hLe e he]
    by_cases ed : e = d
    · subst ed; rw [if_pos rfl, hmL a]
      exact ⟨fun h => h.elim (fun e => .inr ⟨rfl, e⟩) .inl, fun h => h.elim .inr (fun e => .inl e.2)⟩
    · rw [if_neg ed]
      exact ⟨.inl, fun h => h.elim id (fun e => absurd e.1 ed)⟩
  refine ⟨?_, ?_, ?_, ?_, ?_, ?_, ?_, ?_, ?_, ?_, ?_, p7, p5, (List.nodup_cons.1 h.frn).2, ?_, ?_⟩
  · rintro a (ha | rfl)
    · exact h.rng a ha
    · exact ⟨hcF.1, hcF.2.1⟩
  · intro e he
    by_cases ec : e = c
    · subst ec
      rw [hLc, p2]; rfl
    · have he' : e = 0 ∨ T e := he.imp id (fun h => h.resolve_right ec)
      rw [hLe e he']
      by_cases ed : e = d
      · subst ed; rw [if_pos rfl]; exact p3
      · rw [if_neg ed]; exact p4 e he' ed
  · rintro a (ha | rfl)
    · obtain ⟨e, he, hm⟩ := h.up a ha
      exact ⟨e, he.imp id .inl, (hmem e a he).2 (.inl hm)⟩
    · exact ⟨d, hd.imp id .inl, (hmem d a hd).2 (.inr ⟨rfl, rfl⟩)⟩
  · intro e a he ha
    by_cases ec : e = c
    · subst ec; rw [hLc] at ha; cases ha
    · have he' : e = 0 ∨ T e := he.imp id (fun h => h.resolve_right ec)
      have hf6 := (p1 e ec).file
      rcases (hmem e a he').1 ha with hm | ⟨rfl, rfl⟩
      · have h1 := h.dn e a he' hm
        have hac := hcT a h1.1
        rw [hppe a (.inr h1.1), hppe e he', (p1 a hac).name, hf6]
        exact ⟨.inl h1.1, h1.2⟩
      · rw [hppc, hppe e he', p2, hf6]
        exact ⟨.inr rfl, rfl, hdf⟩
  · rw [hppe 0 (.inl rfl)]; exact h.pp0
  · rintro a (ha | rfl)
    · rw [(p1 a (hcT a ha)).name]; exact h.nm a ha
    · rw [p2]; exact ⟨hn0, hns⟩
  · rintro a (ha | rfl)
    · rw [(p1 a (hcT a ha)).name]; exact h.nml a ha
    · rw [p2]; exact hnl
  · have key : ∀ a, T a → pp a ≠ pp d ++ (nm ++ [47]) := fun a ha e => by
      obtain ⟨h1, h2⟩ := h.child hd hns ha e
      exact hnn a h1 h2
    rintro a b (ha | rfl) (hb | rfl) hab
    · rw [hppe a (.inr ha), hppe b (.inr hb)] at hab; exact h.inj a b ha hb hab
    · rw [hppe a (.inr ha), hppc] at hab; exact absurd hab (key a ha)
    · rw [hppe b (.inr hb), hppc] at hab; exact absurd hab.symm (key b hb)
    · rfl
  · intro e he
    by_cases ec : e = c
    · subst ec; rw [hLc]; exact .nil
    · have he' : e = 0 ∨ T e := he.imp id (fun h => h.resolve_right ec)
      have hsrt := h.srt e he'
      rw [hLe e he']
      by_cases ed : e = d
      · subst ed
        rw [if_pos rfl]
        rw [hL] at hsrt
        obtain ⟨s1, s2, s3⟩ := List.pairwise_append.1 hsrt
        have hk : ∀ a, a ∈ L e → keyN (pl' a) = keyN (pl a) := fun a ha => (p1 a (hcT a (h.dn e a he' ha).1)).key
        have hin1 : ∀ a, a ∈ l1 → a ∈ L e := fun a ha => by rw [hL]; exact List.mem_append_left _ ha
        have hin2 : ∀ a, a ∈ l2 → a ∈ L e := fun a ha => by rw [hL]; exact List.mem_append_right _ ha
        refine List.pairwise_append.2 ⟨List.Pairwise.imp_of_mem (fun ha hb hab => by rw [hk _ (hin1 _ ha), hk _ (hin1 _ hb)]; exact hab) s1, List.pairwise_cons.2 ⟨fun a ha => by rw [hkc, hk a (hin2 a ha)]; exact hhi a ha, List.Pairwise.imp_of_mem (fun ha hb hab => by rw [hk _ (hin2 _ ha), hk _ (hin2 _ hb)]; exact hab) s2⟩, fun a ha b hb => ?_⟩
        rcases List.mem_cons.1 hb with rfl | hb
        · rw [hkc, hk a (hin1 a ha)]; exact hlo a ha
        · rw [hk a (hin1 a ha), hk b (hin2 b hb)]; exact s3 a ha b hb
      · rw [if_neg ed]
        refine List.Pairwise.imp_of_mem (fun ha hb hab => ?_) hsrt
        rw [(p1 _ (hcT _ (h.dn e _ he' ha).1)).key, (p1 _ (hcT _ (h.dn e _ he' hb).1)).key]; exact hab
  · rintro a (ha | rfl) hf
    · have q := p1 a (hcT a ha)
      rw [q.file] at hf
      rw [q.size, q.data, q.hash, q.mode]; exact h.fil a ha hf
    · rw [p2]
      refine ⟨rfl, rfl, by show (0 : Int) ≤ 0; omega, by show (0 : Int) ≤ 3; omega, by show 0 ≤ 180; omega⟩
  · rintro a (ha | rfl) hf
    · have q := p1 a (hcT a ha)
      rw [q.file] at hf
      rw [q.size, q.data, q.hash, q.mode]; exact h.dir a ha hf
    · rw [p2]; exact ⟨rfl, rfl, rfl, rfl⟩
  · intro a
    have h1 := h.frm a
    have hnd := (List.nodup_cons.1 h.frn).1
    constructor
    · intro ha
      have := h1.1 (List.mem_cons_of_mem _ ha)
      exact ⟨this.1, this.2.1, fun hh => hh.elim this.2.2 (fun e => hnd (e ▸ ha))⟩
    · rintro ⟨a0, a1, a2⟩
      have := h1.2 ⟨a0, a1, fun hh => a2 (.inl hh)⟩
      exact (List.mem_cons.1 this).resolve_left (fun e => a2 (.inr e))
  · intro a ha
    rw [p6 a ha]; exact h.frz a (List.mem_cons_of_mem _ ha)
end
section
variable {pl pl' : Int → Nod} {free : Int} {L : Int → List Int} {pp : Int → Str} {Fr' : List Int} {T : Int → Prop}
theorem link_head {d c s : Int} {nm : Str} {fl : Bool} (h : XI pl free L pp (c :: Fr') T) (hd : d = 0 ∨ T d) (hdf : (pl d).file = false) (hn0 : nm ≠ []) (hns : (47 : UInt8) ∉ nm) (hnl : nm.length ≤ 12) (hnn : ∀ a, a ∈ L d → (pl a).name ≠ nm)
    (hs : Chx pl s (L d)) (hhi : ∀ a, a ∈ L d → sLt (keyN { Nod.zero with name := nm, file := fl }) (keyN (pl a)) = true)
    (hpl : ∀ a, pl' a = if a = d then { (pl d) with child := c } else if a = c then { Nod.zero with name := nm, file := fl, nxt := s } else pl a) :
    ∃ L', XI pl' (pl c).nxt L' (upd pp c (pp d ++ (nm ++ [47]))) Fr' (fun a => T a ∨ a = c) ∧ (pl' c).file = fl ∧ ∀ a, a ≠ c → Same6 (pl a) (pl' a) := by
  have hcF := (h.frm c).1 (by simp)
  have hcT : ∀ a, T a → a ≠ c := fun a ha e => hcF.2.2 (e ▸ ha)
  have hdc : d ≠ c := by
    rcases hd with rfl | hd
    · omega
    · exact hcT d hd
  have hcn : ∀ a, a ∈ L d → a ≠ c := fun a ha => hcT a (h.dn d a hd ha).1
  have hpc : pl' c = { Nod.zero with name := nm, file := fl, nxt := s } := by rw [hpl c, if_neg (fun e => hdc e.symm), if_pos rfl]
  have hpd : pl' d = { (pl d) with child := c } := by rw [hpl d, if_pos rfl]
  have hpo : ∀ a, a ≠ d → a ≠ c → pl' a = pl a := fun a h1 h2 => by rw [hpl a, if_neg h1, if_neg h2]
  have hnx : ∀ a, a ≠ c → (pl' a).nxt = (pl a).nxt := fun a ha => by
    by_cases e : a = d
    · rw [e, hpd]
    · rw [hpo a e ha]
  have h6 : ∀ a, a ≠ c → Same6 (pl a) (pl' a) := fun a ha => by
    by_cases e : a = d
    · rw [e, hpd]; exact ⟨rfl, rfl, rfl, rfl, rfl, rfl⟩
    · rw [hpo a e ha]; exact .refl _
  have hfr : ∀ a, a ∈ Fr' → a ≠ c ∧ a ≠ d := fun a ha => by
    have haF := (h.frm a).1 (List.mem_cons_of_mem _ ha)
    refine ⟨fun e => (List.nodup_cons.1 h.frn).1 (e ▸ ha), ?_⟩
    rintro rfl
    rcases hd with rfl | hd
    · omega
    · exact haF.2.2 hd
  refine ⟨_, XI.ins (l1 := []) (l2 := L d) (s := s) h hd hdf hn0 hns hnl hnn rfl (by simp) hhi h6 hpc ?_ (fun e he hed => ?_) ?_ (fun a ha => hpo a (hfr a ha).2 (hfr a ha).1) ?_, by rw [hpc], h6⟩
  · rw [hpd]
    refine ⟨rfl, hcF.1, hcF.2.1, ?_⟩
    rw [hpc]
    exact hs.congr (fun a ha => hnx a (hcn a ha))
  · have hec : e ≠ c := by
      rcases he with rfl | he
      · omega
      · exact hcT e he
    rw [hpo e hed hec]
    exact (h.chn e he).congr (fun a ha => hnx a (hcT a (h.dn e a he ha).1))
  · exact (show Chx pl (pl c).nxt Fr' from h.frc.2.2.2).congr (fun a ha => hnx a (hfr a ha).1)
  · have hr := h.root
    by_cases e : (0 : Int) = d
    · subst e; rw [hpd, hr]
    · rw [hpo 0 e (by omega)]; exact hr
theorem link_mid {d c s bf : Int} {nm : Str} {fl : Bool} {l0 l2 : List Int} (h : XI pl free L pp (c :: Fr') T) (hd : d = 0 ∨ T d) (hdf : (pl d).file = false) (hn0 : nm ≠ []) (hns : (47 : UInt8) ∉ nm) (hnl : nm.length ≤ 12) (hnn : ∀ a, a ∈ L d → (pl a).name ≠ nm)
    (hL : L d = l0 ++ [bf] ++ l2) (hs : Chx pl s l2) (hlo : ∀ a, a ∈ l0 ++ [bf] → sLt (keyN (pl a)) (keyN { Nod.zero with name := nm, file := fl }) = true) (hhi : ∀ a, a ∈ l2 → sLt (keyN { Nod.zero with name := nm, file := fl }) (keyN (pl a)) = true)
    (hpl : ∀ a, pl' a = if a = bf then { (pl bf) with nxt := c } else if a = c then { Nod.zero with name := nm, file := fl, nxt := s } else pl a) :
    ∃ L', XI pl' (pl c).nxt L' (upd pp c (pp d ++ (nm ++ [47]))) Fr' (fun a => T a ∨ a = c) ∧ (pl' c).file = fl ∧ ∀ a, a ≠ c → Same6 (pl a) (pl' a) := by
  have hcF := (h.frm c).1 (by simp)
  have hcT : ∀ a, T a → a ≠ c := fun a ha e => hcF.2.2 (e ▸ ha)
  have hdc : d ≠ c := by
    rcases hd with rfl | hd
    · omega
    · exact hcT d hd
  have hcn : ∀ a, a ∈ L d → a ≠ c := fun a ha => hcT a (h.dn d a hd ha).1
  have hbfL : bf ∈ L d := by rw [hL]; simp
  have hbT := (h.dn d bf hd hbfL).1
  have hbr := h.rng bf hbT
  have hbc := hcT bf hbT
  have hpc : pl' c = { Nod.zero with name := nm, file := fl, nxt := s } := by rw [hpl c, if_neg (fun e => hbc e.symm), if_pos rfl]
  have hpb : pl' bf = { (pl bf) with nxt := c } := by rw [hpl bf, if_pos rfl]
  have hpo : ∀ a, a ≠ bf → a ≠ c → pl' a = pl a := fun a h1 h2 => by rw [hpl a, if_neg h1, if_neg h2]
  have hch : ∀ a, a ≠ c → (pl' a).child = (pl a).child := fun a ha => by
    by_cases e : a = bf
    · rw [e, hpb]
    · rw [hpo a e ha]
  have h6 : ∀ a, a ≠ c → Same6 (pl a) (pl' a) := fun a ha => by
    by_cases e : a = bf
    · rw [e, hpb]; exact ⟨rfl, rfl, rfl, rfl, rfl, rfl⟩
    · rw [hpo a e ha]; exact .refl _
  have hfr : ∀ a, a ∈ Fr' → a ≠ c ∧ a ≠ bf := fun a ha => ⟨fun e => (List.nodup_cons.1 h.frn).1 (e ▸ ha), fun e => ((h.frm a).1 (List.mem_cons_of_mem _ ha)).2.2 (e ▸ hbT)⟩
  have hnd := h.nodup hd
  rw [hL] at hnd
  have hd3 := List.nodup_append.1 hnd
  have hd2 := List.nodup_append.1 hd3.1
  have hchd := h.chn d hd
  rw [hL] at hchd
  refine ⟨_, XI.ins (l1 := l0 ++ [bf]) (l2 := l2) (s := s) h hd hdf hn0 hns hnl hnn hL hlo hhi h6 hpc ?_ (fun e he hed => ?_) ?_ (fun a ha => hpo a (hfr a ha).2 (hfr a ha).1) ?_, by rw [hpc], h6⟩
  · rw [hch d hdc, List.append_assoc]
    refine chx_ins (pl := pl) (by simpa using hchd) (fun a ha => ?_) (by rw [hpb]) hcF.1 hcF.2.1 ?_
    · have hab : a ≠ bf := fun e => hd2.2.2 a ha bf (by simp) e
      rw [hpo a hab (hcn a (by rw [hL]; simp [ha]))]
    · rw [hpc]
      refine hs.congr (fun a ha => ?_)
      have hab : a ≠ bf := fun e => hd3.2.2 bf (by simp) a ha e.symm
      rw [hpo a hab (hcn a (by rw [hL]; simp [ha]))]
  · have hec : e ≠ c := by
      rcases he with rfl | he
      · omega
      · exact hcT e he
    rw [hch e hec]
    refine (h.chn e he).congr (fun a ha => ?_)
    have hab : a ≠ bf := fun e2 => hed (h.one he hd ha (by rw [e2]; exact hbfL))
    rw [hpo a hab (hcT a (h.dn e a he ha).1)]
  · refine (show Chx pl (pl c).nxt Fr' from h.frc.2.2.2).congr (fun a ha => ?_)
    rw [hpo a (hfr a ha).2 (hfr a ha).1]
  · have hr := h.root
    rw [hpo 0 (by omega) (by omega)]; exact hr
end
section
variable {n : Nat} {x : Index} {L : Int → List Int} {pp : Int → Str} {Fr' : List Int} {T : Int → Prop}
theorem key_ne {v : Nod} {nm : Str} {fl : Bool} (h1 : (47 : UInt8) ∉ v.name) (h2 : (47 : UInt8) ∉ nm) (hne : v.name ≠ nm) : keyN v ≠ keyN { Nod.zero with name := nm, file := fl } := by
  intro e
  unfold keyN at e
  have e : (if v.file = true then v.name else v.name ++ [47]) = if fl = true then nm else nm ++ [47] := e
  by_cases a : v.file = true
  · by_cases b : fl = true
    · rw [if_pos a, if_pos b] at e; exact hne e
    · rw [if_pos a, if_neg b] at e; exact h1 (by rw [e]; simp)
  · by_cases b : fl = true
    · rw [if_neg a, if_pos b] at e; exact h2 (by rw [← e]; simp)
    · rw [if_neg a, if_neg b] at e; exact hne (List.append_cancel_right e)
theorem link_ok {d c : Int} {nm : Str} {fl : Bool} (hn : 100000 ≤ n) (h : XI x.pool x.free L pp (c :: Fr') T) (hd : d = 0 ∨ T d) (hdf : (x.pool d).file = false) (hn0 : nm ≠ []) (hns : (47 : UInt8) ∉ nm) (hnl : nm.length ≤ 12) (hnn : ∀ a, a ∈ L d → (x.pool a).name ≠ nm) :
    Ok (m296 n x d nm fl) (fun r => r.1 = c ∧ r.2.files = x.files ∧ ∃ L', XI r.2.pool r.2.free L' (upd pp c (pp d ++ (nm ++ [47]))) Fr' (fun a => T a ∨ a = c) ∧ (r.2.pool c).file = fl ∧ ∀ a, a ≠ c → Same6 (x.pool a) (r.2.pool a)) := by
  have hcF := (h.frm c).1 (by simp)
  have hd48 := h.d48 hd
  have hfree : x.free = c := h.frc.1
  have hchd := h.chn d hd
  have hlen := h.len hd
  have hcT : ∀ a, T a → a ≠ c := fun a ha e => hcF.2.2 (e ▸ ha)
  have hdc : d ≠ c := by
    rcases hd with rfl | hd
    · omega
    · exact hcT d hd
  unfold m296
  rw [hfree]
  refine Ok_ck (by omega) (by omega) (Ok_nm ?_)
  refine Ok_cl1 (keyOf_ok (v := { Nod.zero with name := nm, file := fl }) (by show nm.length ≤ 1000; omega)) (Ok_ck (by omega) (by omega) (Ok_ob3 ?_))
  generalize hk : keyN { Nod.zero with name := nm, file := fl } = key
  unfold m296_w1
  refine Ok_it3 (fun (bf s k : Int) => 0 ≤ k ∧ ∃ l1 l2, L d = l1 ++ l2 ∧ k = l1.length ∧ Chx x.pool s l2 ∧ (l1 = [] ∧ bf = 0 ∨ ∃ l0, l1 = l0 ++ [bf]) ∧ ∀ a, a ∈ l1 → sLt (keyN (x.pool a)) key = true) (fun (_ _ k : Int) => (49 - k).toNat) ?_ n 0 _ 0 ⟨by omega, [], L d, rfl, rfl, hchd, .inl ⟨rfl, rfl⟩, by simp⟩ (by show ((49 : Int) - 0).toNat < n; omega)
  rintro Q lp bf s k hQ ⟨i0, l1, l2, hL, rfl, i2, i3, i4⟩ ih
  have hlen2 := hlen
  rw [hL, List.length_append] at hlen2
  have fin : (∀ a, a ∈ l2 → sLt key (keyN (x.pool a)) = true) → Ok (some (bf, s, (l1.length : Int))) Q := by
    intro hhi
    refine Ok.some' (hQ _ (Ok_ck (by omega) (by omega) (Ok_nm ?_)))
    have hbf : bf ≠ 0 → ∃ l0, l1 = l0 ++ [bf] := fun e => i3.resolve_left (fun h => e h.2)
    have hbfL : bf ≠ 0 → bf ∈ L d := fun e => by obtain ⟨l0, e2⟩ := hbf e; rw [hL, e2]; simp
    have hnd := h.nodup hd
    rw [hL] at hnd
    have hcn : ∀ a, a ∈ L d → a ≠ c := fun a ha => hcT a (h.dn d a hd ha).1
    refine Ok_ite (fun hb0 => ?_) (fun hb0 => ?_)
    · have hb0 : bf = 0 := hb0
      have hl1 : l1 = [] := by
        rcases i3 with ⟨e, _⟩ | ⟨l0, e⟩
        · exact e
        · have := (h.rng bf (h.dn d bf hd (by rw [hL, e]; simp)).1); omega
      subst hl1
      have hL' : L d = l2 := hL
      refine Ok_ck (by omega) (by omega) (Ok_nm (Ok.some' ⟨rfl, rfl, link_head (s := s) h hd hdf hn0 hns hnl hnn (by rw [hL']; exact i2) (fun a ha => by rw [hk]; exact hhi a (hL' ▸ ha)) (fun a => ?_)⟩))
      show upI (upI x.pool c { Nod.zero with name := nm, file := fl, nxt := s }) d { (upI x.pool c { Nod.zero with name := nm, file := fl, nxt := s } d) with child := c } a = _
      unfold upI
      by_cases e : a = d
      · rw [if_pos e, if_pos e, if_neg hdc]
      · rw [if_neg e, if_neg e]
    · have hb0 : bf ≠ 0 := hb0
      obtain ⟨l0, rfl⟩ := hbf hb0
      have hbT := (h.dn d bf hd (hbfL hb0)).1
      have hbr := h.rng bf hbT
      have hbc := hcT bf hbT
      refine Ok_ck (by show 0 ≤ bf; omega) (by show bf < 49; omega) (Ok_nm (Ok.some' ⟨rfl, rfl, link_mid (s := s) (l0 := l0) (bf := bf) h hd hdf hn0 hns hnl hnn hL i2 (fun a ha => by rw [hk]; exact i4 a ha) (fun a ha => by rw [hk]; exact hhi a ha) (fun a => ?_)⟩))
      show upI (upI x.pool c { Nod.zero with name := nm, file := fl, nxt := s }) bf { (upI x.pool c { Nod.zero with name := nm, file := fl, nxt := s } bf) with nxt := c } a = _
      unfold upI
      by_cases e : a = bf
      · rw [if_pos e, if_pos e, if_neg hbc]
      · rw [if_neg e, if_neg e]
  cases l2 with
  | nil =>
    have hs : s = 0 := i2
    exact Ok_ite2 (fun _ e => absurd hs e) (fun _ => fin (by simp))
  | cons a r =>
    obtain ⟨rfl, a1, a2, a3⟩ := i2
    rw [List.length_cons] at hlen2
    have haL : s ∈ L d := by rw [hL]; simp
    have haT := (h.dn d s hd haL).1
    have hnml := h.nml s haT
    refine Ok_ite2 (fun _ _ => Ok_ck (by omega) (by omega) (Ok_ck (by omega) (by omega) (Ok_cl1 (keyOf_ok (v := x.pool s) (by omega)) ?_))) (fun e => absurd (show ¬ s = 0 by omega) (e (by omega)))
    have hkne : keyN (x.pool s) ≠ key := by rw [← hk]; exact key_ne (h.nm s haT).2 hns (hnn s haL)
    refine Ok_iteN (fun e => ?_) (fun e => ?_)
    · rw [Bool.or_eq_false_iff] at e
      have hlt : sLt key (keyN (x.pool s)) = true := by
        rcases sLt_tri (keyN (x.pool s)) key with h1 | h1 | h1
        · rw [e.1] at h1; cases h1
        · exact absurd h1 hkne
        · exact h1
      refine fin (fun b hb => ?_)
      rcases List.mem_cons.1 hb with rfl | hb
      · exact hlt
      · have hsrt := h.srt d hd
        rw [hL] at hsrt
        exact sLt_trans hlt ((List.pairwise_cons.1 (List.pairwise_append.1 hsrt).2.1).1 b hb)
    · refine Ok_ck (by omega) (by omega) ?_
      rw [wi_e (by omega) (by omega)]
      refine ih _ _ _ ⟨by omega, l1 ++ [s], r, by rw [hL]; simp, by simp, a3, .inr ⟨l1, rfl⟩, fun b hb => ?_⟩ (by omega)
      rcases List.mem_append.1 hb with hb | hb
      · exact i4 b hb
      · rw [List.mem_singleton.1 hb]
        have e : (sLt (keyN (x.pool s)) key || decide (keyN (x.pool s) = key)) = true := e
        rw [Bool.or_eq_true, decide_eq_true_eq] at e
        exact e.resolve_right hkne
end
end Go.Proofs.Qxb6500350aGreat
