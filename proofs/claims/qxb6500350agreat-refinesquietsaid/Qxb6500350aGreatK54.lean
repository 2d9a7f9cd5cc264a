/- PLAIN LAW: THE INDEX (6): UNLINK, PRUNE, DEL. -/
import Derived.Test.Qxb6500350aGreatK53
import Derived.Test.Qxb6500350aGreatT121
set_option linter.unusedVariables false
set_option linter.unusedSimpArgs false
set_option maxHeartbeats 1000000
namespace Go.Proofs.Qxb6500350aGreat
open Go.Eng Go
section
variable {pl pl' : Int → Nod} {free : Int} {L : Int → List Int} {pp : Int → Str} {Fr : List Int} {T : Int → Prop}
/-- the childless child c of d goes -/
theorem XI.del {d c : Int} {l1 l2 : List Int} (h : XI pl free L pp Fr T) (hd : d = 0 ∨ T d) (hL : L d = l1 ++ c :: l2) (hLc : L c = [])
    (p1 : ∀ a, a ≠ c → Same6 (pl a) (pl' a)) (p2 : pl' c = { Nod.zero with nxt := free }) (p3 : Chx pl' (pl' d).child (l1 ++ l2)) (p4 : ∀ e, (e = 0 ∨ T e) → e ≠ d → e ≠ c → Chx pl' (pl' e).child (L e)) (p6 : ∀ a, a ∈ Fr → pl' a = pl a) (p7 : pl' 0 = { Nod.zero with child := (pl' 0).child }) :
    XI pl' c (upd L d (l1 ++ l2)) pp (c :: Fr) (fun a => T a ∧ a ≠ c) := by
  have hcL : c ∈ L d := by rw [hL]; simp
  have hTc := (h.dn d c hd hcL).1
  have hcr := h.rng c hTc
  have hnd := h.nodup hd
  have hdc : d ≠ c := by
    rintro rfl
    have := (h.dn d d hd hcL).2.1
    have := congrArg List.length this
    simp at this
  have hcF : c ∉ Fr := fun hh => ((h.frm c).1 hh).2.2 hTc
  have hsub : ∀ a, a ∈ l1 ++ l2 → a ∈ L d ∧ a ≠ c := fun a ha => by
    rw [hL] at hnd ⊢
    have h3 := List.nodup_append.1 hnd
    rcases List.mem_append.1 ha with ha | ha
    · exact ⟨List.mem_append_left _ ha, fun e => h3.2.2 a ha c (by simp) e⟩
    · exact ⟨List.mem_append_right _ (List.mem_cons_of_mem _ ha), fun e => (List.nodup_cons.1 h3.2.1).1 (e ▸ ha)⟩
  have hLe : ∀ e, upd L d (l1 ++ l2) e = if e = d then l1 ++ l2 else L e := fun e => rfl
  have hmem : ∀ e a, (e = 0 ∨ T e) → (a ∈ upd L d (l1 ++ l2) e ↔ a ∈ L e ∧ a ≠ c) := fun e a he => by
    rw [hLe e]
    by_cases ed : e = d
    · subst ed
      rw [if_pos rfl]
      refine ⟨fun ha => hsub a ha, fun ⟨ha, hne⟩ => ?_⟩
      rw [hL] at ha
      rcases List.mem_append.1 ha with ha | ha
      · exact List.mem_append_left _ ha
      · exact List.mem_append_right _ ((List.mem_cons.1 ha).resolve_left hne)
    · rw [if_neg ed]
      exact ⟨fun ha => ⟨ha, fun e2 => ed (h.one he hd ha (e2 ▸ hcL))⟩, fun ha => ha.1⟩
  have hz : ∀ e, (e = 0 ∨ (T e ∧ e ≠ c)) → (e = 0 ∨ T e) ∧ e ≠ c := fun e he => by
    rcases he with rfl | he
    · exact ⟨.inl rfl, by omega⟩
    · exact ⟨.inr he.1, he.2⟩
  refine ⟨fun a ha => h.rng a ha.1, fun e he => ?_, fun a ha => ?_, fun e a he ha => ?_, h.pp0, fun a ha => by rw [(p1 a ha.2).name]; exact h.nm a ha.1, fun a ha => by rw [(p1 a ha.2).name]; exact h.nml a ha.1, fun a b ha hb => h.inj a b ha.1 hb.1, fun e he => ?_, fun a ha hf => ?_, fun a ha hf => ?_, p7, ⟨rfl, hcr.1, hcr.2, ?_⟩, List.nodup_cons.2 ⟨hcF, h.frn⟩, fun a => ?_, fun a ha => ?_⟩
  · obtain ⟨he1, he2⟩ := hz e he
    rw [hLe e]
    by_cases ed : e = d
    · subst ed; rw [if_pos rfl]; exact p3
    · rw [if_neg ed]; exact p4 e he1 ed he2
  · obtain ⟨e, he, hm⟩ := h.up a ha.1
    refine ⟨e, ?_, (hmem e a he).2 ⟨hm, ha.2⟩⟩
    rcases he with rfl | he
    · exact .inl rfl
    · refine .inr ⟨he, fun e2 => ?_⟩
      rw [e2, hLc] at hm; cases hm
  · obtain ⟨he1, he2⟩ := hz e he
    obtain ⟨h1, h2⟩ := (hmem e a he1).1 ha
    have h3 := h.dn e a he1 h1
    rw [(p1 a h2).name, (p1 e he2).file]
    exact ⟨⟨h3.1, h2⟩, h3.2⟩
  · obtain ⟨he1, he2⟩ := hz e he
    have hsrt := h.srt e he1
    have hk : ∀ a, a ∈ upd L d (l1 ++ l2) e → keyN (pl' a) = keyN (pl a) := fun a ha => (p1 a ((hmem e a he1).1 ha).2).key
    refine List.Pairwise.imp_of_mem (fun ha hb hab => by rw [hk _ ha, hk _ hb]; exact hab) ?_
    rw [hLe e]
    by_cases ed : e = d
    · subst ed
      rw [if_pos rfl]
      rw [hL] at hsrt
      obtain ⟨s1, s2, s3⟩ := List.pairwise_append.1 hsrt
      exact List.pairwise_append.2 ⟨s1, (List.pairwise_cons.1 s2).2, fun a ha b hb => s3 a ha b (List.mem_cons_of_mem _ hb)⟩
    · rw [if_neg ed]; exact hsrt
  · have q := p1 a ha.2
    rw [q.file] at hf
    rw [q.size, q.data, q.hash, q.mode]; exact h.fil a ha.1 hf
  · have q := p1 a ha.2
    rw [q.file] at hf
    rw [q.size, q.data, q.hash, q.mode]; exact h.dir a ha.1 hf
  · rw [p2]
    exact h.frc.congr (fun a ha => by rw [p6 a ha])
  · rw [List.mem_cons, h.frm a]
    constructor
    · rintro (rfl | ⟨a0, a1, a2⟩)
      · exact ⟨hcr.1, hcr.2, fun hh => hh.2 rfl⟩
      · exact ⟨a0, a1, fun hh => a2 hh.1⟩
    · rintro ⟨a0, a1, a2⟩
      by_cases e : a = c
      · exact .inl e
      · exact .inr ⟨a0, a1, fun hh => a2 ⟨hh, e⟩⟩
  · rcases List.mem_cons.1 ha with rfl | ha
    · rw [p2]
    · rw [p6 a ha]; exact h.frz a ha
theorem chx_del {s c : Int} {l2 : List Int} : ∀ {l0 : List Int} {b : Int}, Chx pl b (l0 ++ s :: c :: l2) → (∀ i, i ∈ l0 → (pl' i).nxt = (pl i).nxt) → (∀ i, i ∈ l2 → (pl' i).nxt = (pl i).nxt) → (pl' s).nxt = (pl c).nxt → Chx pl' b (l0 ++ s :: l2)
  | [], b, ⟨h1, h2, h3, h4⟩, _, hx2, hs => ⟨h1, h2, h3, by rw [hs]; obtain ⟨e, _, _, h5⟩ := h4; exact h5.congr hx2⟩
  | j :: l0, b, ⟨h1, h2, h3, h4⟩, hx, hx2, hs => ⟨h1, h2, h3, by rw [hx j (by simp)]; exact chx_del h4 (fun i hi => hx i (List.mem_cons_of_mem _ hi)) hx2 hs⟩
theorem unlink_head {d c : Int} {l2 : List Int} (h : XI pl free L pp Fr T) (hd : d = 0 ∨ T d) (hL : L d = c :: l2) (hLc : L c = [])
    (hpl : ∀ a, pl' a = if a = c then { Nod.zero with nxt := free } else if a = d then { (pl d) with child := (pl c).nxt } else pl a) : ∃ L', XI pl' c L' pp (c :: Fr) (fun a => T a ∧ a ≠ c) ∧ (∀ a, a ≠ c → Same6 (pl a) (pl' a)) ∧ ∀ a, (a = 0 ∨ T a) → a ≠ c → ∀ b, b ∈ L' a ↔ b ∈ L a ∧ b ≠ c := by
  have hcL : c ∈ L d := by rw [hL]; simp
  have hTc := (h.dn d c hd hcL).1
  have hcr := h.rng c hTc
  have hnd := h.nodup hd
  rw [hL] at hnd
  have hdc : d ≠ c := by
    rintro rfl
    have := (h.dn d d hd hcL).2.1
    have := congrArg List.length this
    simp at this
  have hpc : pl' c = { Nod.zero with nxt := free } := by rw [hpl c, if_pos rfl]
  have hpd : pl' d = { (pl d) with child := (pl c).nxt } := by rw [hpl d, if_neg hdc, if_pos rfl]
  have hpo : ∀ a, a ≠ c → a ≠ d → pl' a = pl a := fun a h1 h2 => by rw [hpl a, if_neg h1, if_neg h2]
  have hnx : ∀ a, a ≠ c → (pl' a).nxt = (pl a).nxt := fun a ha => by by_cases e : a = d; rw [e, hpd]; rw [hpo a ha e]
  have h6 : ∀ a, a ≠ c → Same6 (pl a) (pl' a) := fun a ha => by
    by_cases e : a = d
    · rw [e, hpd]; exact ⟨rfl, rfl, rfl, rfl, rfl, rfl⟩
    · rw [hpo a ha e]; exact .refl _
  have hFd : ∀ a, a ∈ Fr → a ≠ c ∧ a ≠ d := fun a ha => by
    have hf := (h.frm a).1 ha
    refine ⟨fun e => hf.2.2 (e ▸ hTc), ?_⟩
    rintro rfl
    rcases hd with rfl | hd
    · omega
    · exact hf.2.2 hd
  have hch := h.chn d hd
  rw [hL] at hch
  obtain ⟨e1, e2, e3, e4⟩ := hch
  have hc2 : ∀ a, a ∈ l2 → a ≠ c := fun a ha e => (List.nodup_cons.1 hnd).1 (e ▸ ha)
  refine ⟨_, XI.del (l1 := []) (l2 := l2) h hd hL hLc h6 hpc ?_ (fun e he hed hec => ?_) (fun a ha => hpo a (hFd a ha).1 (hFd a ha).2) ?_, h6, fun a ha hac b => ?_⟩
  · rw [hpd]; exact e4.congr (fun a ha => hnx a (hc2 a ha))
  · rw [hpo e hec hed]
    refine (h.chn e he).congr (fun a ha => hnx a (fun e2 => hed (h.one he hd ha (e2 ▸ hcL))))
  · have hr := h.root
    by_cases e : (0 : Int) = d
    · subst e; rw [hpd, hr]
    · rw [hpo 0 (by omega) e]; exact hr
  · unfold upd
    by_cases ed : a = d
    · subst ed
      rw [if_pos rfl, hL, List.nil_append, List.mem_cons]
      exact ⟨fun hb => ⟨.inr hb, hc2 b hb⟩, fun hb => hb.1.resolve_left hb.2⟩
    · rw [if_neg ed]
      exact ⟨fun hb => ⟨hb, fun e2 => ed (h.one ha hd hb (e2 ▸ hcL))⟩, fun hb => hb.1⟩
theorem unlink_mid {d c s : Int} {l0 l2 : List Int} (h : XI pl free L pp Fr T) (hd : d = 0 ∨ T d) (hL : L d = l0 ++ s :: c :: l2) (hLc : L c = [])
    (hpl : ∀ a, pl' a = if a = c then { Nod.zero with nxt := free } else if a = s then { (pl s) with nxt := (pl c).nxt } else pl a) : ∃ L', XI pl' c L' pp (c :: Fr) (fun a => T a ∧ a ≠ c) ∧ (∀ a, a ≠ c → Same6 (pl a) (pl' a)) ∧ ∀ a, (a = 0 ∨ T a) → a ≠ c → ∀ b, b ∈ L' a ↔ b ∈ L a ∧ b ≠ c := by
  have hcL : c ∈ L d := by rw [hL]; simp
  have hsL : s ∈ L d := by rw [hL]; simp
  have hTc := (h.dn d c hd hcL).1
  have hTs := (h.dn d s hd hsL).1
  have hcr := h.rng c hTc
  have hsr := h.rng s hTs
  have hnd := h.nodup hd
  rw [hL] at hnd
  have h3 := List.nodup_append.1 hnd
  have h4 := List.nodup_cons.1 h3.2.1
  have h5 := List.nodup_cons.1 h4.2
  have hsc : s ≠ c := fun e => h4.1 (e ▸ by simp)
  have hdc : d ≠ c := by
    rintro rfl
    have := (h.dn d d hd hcL).2.1
    have := congrArg List.length this
    simp at this
  have hpc : pl' c = { Nod.zero with nxt := free } := by rw [hpl c, if_pos rfl]
  have hps : pl' s = { (pl s) with nxt := (pl c).nxt } := by rw [hpl s, if_neg hsc, if_pos rfl]
  have hpo : ∀ a, a ≠ c → a ≠ s → pl' a = pl a := fun a h1 h2 => by rw [hpl a, if_neg h1, if_neg h2]
  have hch' : ∀ a, a ≠ c → (pl' a).child = (pl a).child := fun a ha => by by_cases e : a = s; rw [e, hps]; rw [hpo a ha e]
  have h6 : ∀ a, a ≠ c → Same6 (pl a) (pl' a) := fun a ha => by
    by_cases e : a = s
    · rw [e, hps]; exact ⟨rfl, rfl, rfl, rfl, rfl, rfl⟩
    · rw [hpo a ha e]; exact .refl _
  have hFd : ∀ a, a ∈ Fr → a ≠ c ∧ a ≠ s := fun a ha => by
    have hf := (h.frm a).1 ha
    exact ⟨fun e => hf.2.2 (e ▸ hTc), fun e => hf.2.2 (e ▸ hTs)⟩
  have hch := h.chn d hd
  rw [hL] at hch
  have hL1 : L d = (l0 ++ [s]) ++ c :: l2 := by rw [hL]; simp
  refine ⟨_, XI.del (l1 := l0 ++ [s]) (l2 := l2) h hd hL1 hLc h6 hpc ?_ (fun e he hed hec => ?_) (fun a ha => hpo a (hFd a ha).1 (hFd a ha).2) ?_, h6, fun a ha hac b => ?_⟩
  · rw [hch' d hdc, List.append_assoc]
    refine chx_del hch (fun a ha => ?_) (fun a ha => ?_) (by rw [hps])
    · rw [hpo a (fun e => h3.2.2 a ha c (by simp) e) (fun e => h3.2.2 a ha s (by simp) e)]
    · rw [hpo a (fun e => h5.1 (e ▸ ha)) (fun e => h4.1 (e ▸ List.mem_cons_of_mem _ ha))]
  · rw [hch' e hec]
    refine (h.chn e he).congr (fun a ha => ?_)
    rw [hpo a (fun e2 => hed (h.one he hd ha (e2 ▸ hcL))) (fun e2 => hed (h.one he hd ha (e2 ▸ hsL)))]
  · rw [hpo 0 (by omega) (by omega)]; exact h.root
  · unfold upd
    by_cases ed : a = d
    · subst ed
      rw [if_pos rfl, hL]
      constructor
      · intro hb
        have hbc : b ≠ c := by
          rintro rfl
          rcases List.mem_append.1 hb with hb | hb
          · rcases List.mem_append.1 hb with hb | hb
            · exact h3.2.2 b hb b (by simp) rfl
            · exact hsc (List.mem_singleton.1 hb).symm
          · exact h5.1 hb
        refine ⟨?_, hbc⟩
        rcases List.mem_append.1 hb with hb | hb
        · rcases List.mem_append.1 hb with hb | hb
          · exact List.mem_append_left _ hb
          · rw [List.mem_singleton.1 hb]; simp
        · simp [hb]
      · rintro ⟨hb, hbc⟩
        rcases List.mem_append.1 hb with hb | hb
        · exact List.mem_append_left _ (List.mem_append_left _ hb)
        · rcases List.mem_cons.1 hb with rfl | hb
          · simp
          · exact List.mem_append_right _ ((List.mem_cons.1 hb).resolve_left hbc)
    · rw [if_neg ed]
      exact ⟨fun hb => ⟨hb, fun e2 => ed (h.one ha hd hb (e2 ▸ hcL))⟩, fun hb => hb.1⟩
end
section
variable {n : Nat} {x : Index} {L : Int → List Int} {pp : Int → Str} {Fr : List Int} {T : Int → Prop} {fs : List File}
theorem unlink_ok {d c : Int} (hn : 100000 ≤ n) (h : XI x.pool x.free L pp Fr T) (hd : d = 0 ∨ T d) (hcL : c ∈ L d) (hLc : L c = []) :
    Ok (m271 n x d c) (fun z => z.files = x.files ∧ ∃ L', XI z.pool z.free L' pp (c :: Fr) (fun a => T a ∧ a ≠ c) ∧ (∀ a, a ≠ c → Same6 (x.pool a) (z.pool a)) ∧ ∀ a, (a = 0 ∨ T a) → a ≠ c → ∀ b, b ∈ L' a ↔ b ∈ L a ∧ b ≠ c) := by
  have hTc := (h.dn d c hd hcL).1
  have hcr := h.rng c hTc
  have hd48 := h.d48 hd
  have hch := h.chn d hd
  have hlen := h.len hd
  have hnd := h.nodup hd
  have hdc : d ≠ c := by
    rintro rfl
    have := (h.dn d d hd hcL).2.1
    have := congrArg List.length this
    simp at this
  unfold m271
  refine Ok_ck (by omega) (by omega) ?_
  -- the links around c
  have hmid : Ok (cond (decide ((x.pool d).child = c)) (Option.bind (ckA c 49) fun _ => Option.bind (ckA d 49) fun _ => nm ({ x with pool := (upI x.pool d { (x.pool d) with child := (x.pool c).nxt }) } : Index) fun z2 => some z2) (Option.bind (ckA d 49) fun _ => ob2 (m271_w2 n x c n ((x.pool d).child) 0) fun c3 c4 =>
      Option.bind (ckA c 49) fun _ => Option.bind (ckA c3 49) fun _ => nm ({ x with pool := (upI x.pool c3 { (x.pool c3) with nxt := (x.pool c).nxt }) } : Index) fun z3 => some z3)) (fun z1 => z1.files = x.files ∧ z1.free = x.free ∧
        ((∃ l2, L d = c :: l2 ∧ ∀ a, z1.pool a = if a = d then { (x.pool d) with child := (x.pool c).nxt } else x.pool a) ∨ ∃ l0 s l2, L d = l0 ++ s :: c :: l2 ∧ ∀ a, z1.pool a = if a = s then { (x.pool s) with nxt := (x.pool c).nxt } else x.pool a)) := by
    refine Ok_ite (fun e => ?_) (fun e => ?_)
    · refine Ok_ck (by omega) (by omega) (Ok_ck (by omega) (by omega) (Ok_nm (Ok.some' ⟨rfl, rfl, .inl ?_⟩)))
      cases hL : L d with
      | nil => rw [hL] at hcL; cases hcL
      | cons a l2 =>
        rw [hL] at hch
        have : a = c := hch.1.symm.trans e
        subst this
        exact ⟨l2, rfl, fun a => rfl⟩
    · refine Ok_ck (by omega) (by omega) (Ok_ob2 ?_)
      obtain ⟨l1, l2, hL⟩ := List.append_of_mem hcL
      have hl1 : l1 ≠ [] := by
        rintro rfl
        rw [hL] at hch
        exact e hch.1
      unfold m271_w2
      refine Ok_it2 (fun (s k : Int) => 0 ≤ k ∧ ∃ u v, L d = u ++ s :: v ∧ k = u.length ∧ Chx x.pool s (s :: v) ∧ c ∈ v) (fun (_ k : Int) => (49 - k).toNat) ?_ n _ 0 ?_ (by show ((49 : Int) - 0).toNat < n; omega)
      rotate_left
      · cases l1 with
        | nil => exact absurd rfl hl1
        | cons a l1 =>
          rw [hL] at hch
          have ha : (x.pool d).child = a := hch.1
          refine ⟨by omega, [], l1 ++ c :: l2, by rw [hL, ha]; rfl, rfl, ?_, by simp⟩
          rw [ha]
          rw [ha] at hch
          exact hch
      rintro Q lp s k hQ ⟨i0, u, v, hu, rfl, i2, i3⟩ ih
      have hlen2 := hlen
      rw [hu, List.length_append, List.length_cons] at hlen2
      obtain ⟨_, s0, s1, s2⟩ := i2
      have hv : v ≠ [] := by rintro rfl; cases i3
      obtain ⟨b, v', rfl⟩ : ∃ b v', v = b :: v' := by cases v with | nil => exact absurd rfl hv | cons b v' => exact ⟨b, v', rfl⟩
      have hsb : (x.pool s).nxt = b := s2.1
      refine Ok_ob1 (Ok_ite (fun _ => Ok_ite (fun _ => Ok_ck (by omega) (by omega) (Ok.some' ?_)) (fun e => absurd (show ¬ s = 0 by omega) e)) (fun e => by omega))
      refine Ok_ite (fun hne => ?_) (fun heq => ?_)
      · refine Ok_ck (by omega) (by omega) ?_
        rw [wi_e (by omega) (by omega)]
        have hcv : c ∈ v' := (List.mem_cons.1 i3).resolve_left (fun e => hne (by rw [hsb, e]))
        refine ih _ _ ⟨by omega, u ++ [s], v', by rw [hsb, hu]; simp, by simp, ?_, hcv⟩ (by omega)
        rw [hsb]; rw [hsb] at s2; exact s2
      · have heq : b = c := hsb.symm.trans (Classical.not_not.1 heq)
        subst heq
        refine Ok.some' (hQ _ (Ok_ck (by omega) (by omega) (Ok_ck (by show 0 ≤ s; omega) (by show s < 49; omega) (Ok_nm (Ok.some' ⟨rfl, rfl, .inr ⟨u, s, v', hu, fun a => rfl⟩⟩)))))
  refine Ok_ob1 (hmid.mono (fun z1 hz1 => ?_))
  obtain ⟨f1, f2, hz⟩ := hz1
  refine Ok_ck (by omega) (by omega) (Ok_nmz (fun z4 h4 => Ok_nmz (fun z5 h5 => Ok.some' ?_)))
  have hfiles : z5.files = x.files := by rw [h5, h4]; exact f1
  have hfree : z5.free = c := by rw [h5]
  have hpool : ∀ a, z5.pool a = if a = c then { Nod.zero with nxt := x.free } else z1.pool a := fun a => by
    have : z5.pool = upI z1.pool c { Nod.zero with nxt := z1.free } := by rw [h5, h4]
    rw [this, f2]; rfl
  refine ⟨hfiles, ?_⟩
  rw [hfree]
  rcases hz with ⟨l2, hL, hp⟩ | ⟨l0, s, l2, hL, hp⟩
  · exact unlink_head h hd hL hLc (fun a => by rw [hpool a, hp a])
  · exact unlink_mid h hd hL hLc (fun a => by rw [hpool a, hp a])
/-- the nodes on the way to a path -/
structure WayN (L : Int → List Int) (pp : Int → Str) (T : Int → Prop) (P : Str) (w : Int → Int) (k : Int) : Prop where
  z : w 0 = 0
  st : ∀ j, 0 ≤ j → j < k → w (j + 1) ∈ L (w j) ∧ T (w (j + 1))
  pre : ∀ j, 0 ≤ j → j ≤ k → pp (w j) <+: P
theorem WayN.tw {w : Int → Int} {k : Int} {P : Str} (h : WayN L pp T P w k) {j : Int} (h0 : 0 ≤ j) (h1 : j ≤ k) : w j = 0 ∨ T (w j) := by
  by_cases e : j = 0
  · subst e; exact .inl h.z
  · have := (h.st (j - 1) (by omega) (by omega)).2
    rw [show j - 1 + 1 = j by omega] at this
    exact .inr this
end
end Go.Proofs.Qxb6500350aGreat
