/- PLAIN LAW: BUILD. -/
import Derived.Test.Qxb6500350aGreatK26
set_option linter.unusedVariables false
set_option linter.unusedSimpArgs false
set_option maxHeartbeats 2000000
namespace Go.Proofs.Qxb6500350aGreat
open Go.Eng Go
theorem RowsOk.snoc {A : Int → Ob} {rs : List Line} {r : Line} (h : RowsOk A rs) (h1 : r.Ok) (h2 : ∀ a, a ∈ rs → sLt (keyL a) (keyL r) = true) (h3 : r.dir = false → isBl A r.id) (h4 : r.dir = true → isTr A r.id ∧ (A r.id).data ≠ []) (h5 : (47 : UInt8) ∉ r.name) : RowsOk A (rs ++ [r]) where
  ok := fun a ha => (List.mem_append.1 ha).elim (h.ok a) (fun h => by rw [List.mem_singleton.1 h]; exact h1)
  srt := by
    rw [List.pairwise_append]
    exact ⟨h.srt, by simp, fun a ha b hb => by rw [List.mem_singleton.1 hb]; exact h2 a ha⟩
  fil := fun a ha => (List.mem_append.1 ha).elim (h.fil a) (fun h => by rw [List.mem_singleton.1 h]; exact h3)
  dir := fun a ha => (List.mem_append.1 ha).elim (h.dir a) (fun h => by rw [List.mem_singleton.1 h]; exact h4)
  nsl := fun a ha => (List.mem_append.1 ha).elim (h.nsl a) (fun h => by rw [List.mem_singleton.1 h]; exact h5)
/-- the state of the walk through one directory -/
structure BInv (root : Int) (d : Dev) (A : Int → Ob) (m : Nat) (pre : Str) (S1 S2 : List Entry) (t' : Trees) (s' : Store) (d' : Dev) (A1 : Int → Ob) (rs : List Line) (Q1 : List Str) : Prop where
  lt : LT t' s' d' A1 root
  gr : Grow (fun q => q = 2) d A d' A1
  ro : RowsOk A1 rs
  ht : ∀ r, r ∈ rs → r.dir = true → Ht A1 m r.id
  fl : rs.flatMap (rowE A1 m) = S1.map (Entry.strip pre.length)
  ln : rs.length ≤ S1.length
  nm : ∀ r, r ∈ rs → r.name.length ≤ 12
  qn : Q1.Nodup
  qm : ∀ q, q ∈ Q1 → pre <+: q ∧ q ≠ pre ∧ ∃ e, e ∈ S1 ∧ DirPre q e.path
  qc : nfr A ≤ nfr A1 + Q1.length
  nx : ∀ r, r ∈ rs → ∀ e, e ∈ S2 → ∀ q, e.path = pre ++ q → sLt (keyL r) q = true ∧ (r.dir = true → ¬ keyL r <+: q)
theorem row_len {A : Int → Ob} {rs : List Line} (h : ∀ r, r ∈ rs → r.name.length ≤ 12) : (rs.flatMap encL).length ≤ 15 * rs.length := by
  induction rs with
  | nil => simp
  | cons r rs ih =>
    rw [List.flatMap_cons, List.length_append, encL_len, List.length_cons]
    have := h r (by simp)
    have := ih (fun x hx => h x (List.mem_cons_of_mem _ hx))
    omega
theorem rowE_ext {A A' : Int → Ob} {m : Nat} {rs : List Line} (e : Ext A A') (h : ∀ r, r ∈ rs → r.dir = true → Ht A m r.id) : rs.flatMap (rowE A' m) = rs.flatMap (rowE A m) :=
  flatMap_congr' fun r hr => by
    unfold rowE
    by_cases hd : r.dir = true
    · rw [if_pos hd, if_pos hd, e.flat (h r hr hd)]
    · rw [if_neg hd, if_neg hd]
theorem rowE_mono {A : Int → Ob} {m k : Nat} {rs : List Line} (hk : m ≤ k) (h : ∀ r, r ∈ rs → r.dir = true → Ht A m r.id) : rs.flatMap (rowE A k) = rs.flatMap (rowE A m) :=
  flatMap_congr' fun r hr => by
    unfold rowE
    by_cases hd : r.dir = true
    · rw [if_pos hd, if_pos hd, flatE_mono (h r hr hd) hk]
    · rw [if_neg hd, if_neg hd]
/-- what a row lists opens with its key -/
theorem rowE_key {A : Int → Ob} {m : Nat} {r : Line} {e : Entry} (he : e ∈ rowE A m r) : if r.dir = true then keyL r <+: e.path else e.path = keyL r := by
  unfold rowE at he
  unfold keyL
  by_cases hd : r.dir = true
  · rw [if_pos hd] at he ⊢
    obtain ⟨a, _, rfl⟩ := List.mem_map.1 he
    rw [if_pos hd]; exact ⟨a.path, rfl⟩
  · rw [if_neg hd] at he ⊢
    rw [List.mem_singleton.1 he, if_neg hd]
section
variable {root : Int} {d : Dev} {A : Int → Ob} {m : Nat} {pre : Str}
/-- a file's row goes behind the others -/
theorem BInv.file {S1 S2 : List Entry} {e : Entry} {q : Str} {t' : Trees} {s' : Store} {d' : Dev} {A1 : Int → Ob} {rs : List Line} {Q1 : List Str}
    (h : BInv root d A m pre S1 (e :: S2) t' s' d' A1 rs Q1) (hS : Seg A1 (m + 1) pre (S1 ++ e :: S2)) (hq : e.path = pre ++ q) (hs : (47 : UInt8) ∉ q) :
    BInv root d A m pre (S1 ++ [e]) S2 t' s' d' A1 (rs ++ [{ dir := false, mode := e.mode, id := e.id, name := q }]) Q1 := by
  have hem : e ∈ S1 ++ e :: S2 := by simp
  have hb := hS.blo e hem
  have hmo := hS.mod e hem
  have hle := hS.len e hem
  rw [hq, List.length_append] at hle
  have hne : q ≠ [] := by
    obtain ⟨q', e1, e2⟩ := hS.rel e hem
    rw [hq] at e1
    rw [List.append_cancel_left e1]; exact e2.ne
  have hq1 : 1 ≤ q.length := by cases q with | nil => exact absurd rfl hne | cons a b => simp
  have hkey : keyL { dir := false, mode := e.mode, id := e.id, name := q } = q := rfl
  refine ⟨h.lt, h.gr, h.ro.snoc ⟨hb.1, hb.2.1, hq1, by show q.length ≤ 180; omega, hmo.1, hmo.2, fun h => nomatch h⟩ (fun a ha => (h.nx a ha e (by simp) q hq).1) (fun _ => hb) (fun h => nomatch h) hs, ?_, ?_, by simpa using h.ln, ?_, h.qn, ?_, h.qc, ?_⟩
  · intro r hr hd
    rcases List.mem_append.1 hr with hr | hr
    · exact h.ht r hr hd
    · rw [List.mem_singleton.1 hr] at hd; cases hd
  · rw [List.flatMap_append, h.fl, List.map_append]
    congr 1
    rw [List.map_singleton, strip_pre hq]; rfl
  · intro r hr
    rcases List.mem_append.1 hr with hr | hr
    · exact h.nm r hr
    · rw [List.mem_singleton.1 hr]; show q.length ≤ 12; omega
  · intro x hx
    obtain ⟨q1, q2, y, hy, q3⟩ := h.qm x hx
    exact ⟨q1, q2, y, List.mem_append_left _ hy, q3⟩
  · intro r hr y hy q' hq'
    rcases List.mem_append.1 hr with hr | hr
    · exact h.nx r hr y (List.mem_cons_of_mem _ hy) q' hq'
    · rw [List.mem_singleton.1 hr, hkey]
      have := (List.pairwise_cons.1 (List.pairwise_append.1 hS.srt).2.1).1 y hy
      rw [hq, hq', sLt_app] at this
      exact ⟨this, fun h => nomatch h⟩
/-- the rows below x/ of a stretch -/
theorem Seg.sub {S1 S3 G : List Entry} {e : Entry} {x w : Str} {A1 : Int → Ob} (hS : Seg A1 (m + 1) pre (S1 ++ e :: (G ++ S3))) (hq : e.path = pre ++ (x ++ 47 :: w)) (hx : (47 : UInt8) ∉ x)
    (hG : ∀ g, g ∈ G → pre ++ (x ++ [47]) <+: g.path) : x ≠ [] ∧ Seg A1 m (pre ++ (x ++ [47])) (e :: G) ∧ 1 ≤ m := by
  have hsub : ∀ g, g ∈ e :: G → g ∈ S1 ++ e :: (G ++ S3) := by
    intro g hg
    rcases List.mem_cons.1 hg with rfl | hg
    · simp
    · simp [hg]
  have key : ∀ g, g ∈ e :: G → ∃ w', g.path = pre ++ (x ++ 47 :: w') := by
    intro g hg
    rcases List.mem_cons.1 hg with rfl | hg
    · exact ⟨w, hq⟩
    · obtain ⟨v, hv⟩ := hG g hg
      exact ⟨v, by rw [← hv]; simp⟩
  have rel : ∀ g, g ∈ e :: G → ∀ w', g.path = pre ++ (x ++ 47 :: w') → x ≠ [] ∧ Rel m w' := by
    intro g hg w' hw'
    obtain ⟨q', e1, e2, e3⟩ := hS.rel g (hsub g hg)
    rw [hw'] at e1
    have := List.append_cancel_left e1
    subst this
    rcases e3 with e3 | ⟨x2, q2, e3, e4, e5, e6⟩
    · exact absurd (by simp) e3
    · obtain ⟨rfl, rfl⟩ := split_slash hx e5 e3
      exact ⟨e4, e6⟩
  have h1 := rel e (by simp) w hq
  refine ⟨h1.1, ⟨fun g hg => ?_, ?_, fun g hg => hS.blo g (hsub g hg), fun g hg => hS.mod g (hsub g hg), fun g hg => hS.len g (hsub g hg), ?_⟩, ?_⟩
  · obtain ⟨w', hw'⟩ := key g hg
    exact ⟨w', by rw [hw']; simp, (rel g hg w' hw').2⟩
  · have := (List.pairwise_append.1 hS.srt).2.1
    rw [← List.cons_append] at this
    exact (List.pairwise_append.1 this).1
  · have := hS.num
    simp only [List.length_append, List.length_cons] at this ⊢
    omega
  · cases m with
    | zero => exact h1.2.elim
    | succ m => omega
/-- a directory's row goes behind the others -/
theorem BInv.dir {S1 S3 G : List Entry} {e : Entry} {x w : Str} {t' t2 : Trees} {s' s2 : Store} {d' d2 : Dev} {A1 A2 : Int → Ob} {rs : List Line} {Q1 Q2 : List Str} {i : Int} (hfA : FreeE A)
    (h : BInv root d A m pre S1 (e :: (G ++ S3)) t' s' d' A1 rs Q1) (hS : Seg A1 (m + 1) pre (S1 ++ e :: (G ++ S3))) (hq : e.path = pre ++ (x ++ 47 :: w)) (hx : (47 : UInt8) ∉ x)
    (hG : ∀ g, g ∈ G → pre ++ (x ++ [47]) <+: g.path) (hS3 : ∀ g S4, S3 = g :: S4 → ¬ pre ++ (x ++ [47]) <+: g.path)
    (l2 : LT t2 s2 d2 A2 root) (g2 : Grow (fun q => q = 2) d' A1 d2 A2) (q2 : Dirs (pre ++ (x ++ [47])) (e :: G) Q2) :
    (Q1 ++ Q2).Nodup ∧ (∀ q, q ∈ Q1 ++ Q2 → pre <+: q ∧ q ≠ pre ∧ ∃ y, y ∈ S1 ++ e :: G ∧ DirPre q y.path) ∧
    (Ht A2 m i → flatE A2 m i = (e :: G).map (Entry.strip (pre ++ (x ++ [47])).length) → nfr A1 ≤ nfr A2 + Q2.length →
      BInv root d A m pre (S1 ++ e :: G) S3 t2 s2 d2 A2 (rs ++ [{ dir := true, mode := 0, id := i, name := x }]) (Q1 ++ Q2)) := by
  obtain ⟨hx0, hsub, hm1⟩ := hS.sub hq hx hG
  have hem : e ∈ S1 ++ e :: (G ++ S3) := by simp
  have hle := hS.len e hem
  rw [hq] at hle
  simp only [List.length_append, List.length_cons] at hle
  have hxl : 1 ≤ x.length := by cases x with | nil => exact absurd rfl hx0 | cons a b => simp
  -- no row of before bears x/
  have hnk : ∀ r, r ∈ rs → keyL r ≠ x ++ [47] := by
    intro r hr hk
    obtain ⟨n1, n2⟩ := h.nx r hr e (by simp) _ hq
    have hd : r.dir = true := by
      rw [← Bool.not_eq_false]
      intro hd
      unfold keyL at hk
      rw [if_neg (by rw [hd]; decide)] at hk
      exact h.ro.nsl r hr (by rw [hk]; simp)
    exact n2 hd (by rw [hk]; exact ⟨w, by simp⟩)
  have hns : ∀ y, y ∈ S1 → ¬ pre ++ (x ++ [47]) <+: y.path := by
    intro y hy hp
    have hym : y.strip pre.length ∈ rs.flatMap (rowE A1 m) := by rw [h.fl]; exact List.mem_map_of_mem hy
    obtain ⟨r, hr, hyr⟩ := List.mem_flatMap.1 hym
    obtain ⟨qy, e1, _⟩ := hS.rel y (List.mem_append_left _ hy)
    rw [strip_pre e1] at hyr
    have hk := rowE_key hyr
    rw [e1] at hp
    have hp := prefix_strip hp
    by_cases hd : r.dir = true
    · rw [if_pos hd] at hk
      obtain ⟨v, hv⟩ := hk
      have hv : r.name ++ [47] ++ v = qy := by unfold keyL at hv; rw [if_pos hd] at hv; exact hv
      rw [← hv, List.append_assoc] at hp
      have := first_slash (h.ro.nsl r hr) hx (w := v) hp
      refine hnk r hr ?_
      unfold keyL; rw [if_pos hd, this]
    · rw [if_neg hd] at hk
      have hk : qy = keyL r := hk
      unfold keyL at hk; rw [if_neg hd] at hk
      obtain ⟨v, hv⟩ := hp
      exact h.ro.nsl r hr (by rw [← hk, ← hv]; simp)
  have hnd : (Q1 ++ Q2).Nodup := by
    rw [List.nodup_append]
    refine ⟨h.qn, q2.nd, fun a ha b hb hab => ?_⟩
    subst hab
    obtain ⟨_, _, y, hy, hdp⟩ := h.qm a ha
    exact hns y hy ((q2.mem a hb).1.trans hdp.prefix)
  have hmem : ∀ q, q ∈ Q1 ++ Q2 → pre <+: q ∧ q ≠ pre ∧ ∃ y, y ∈ S1 ++ e :: G ∧ DirPre q y.path := by
    intro q hqm
    rcases List.mem_append.1 hqm with hqm | hqm
    · obtain ⟨a1, a2, y, hy, a3⟩ := h.qm q hqm
      exact ⟨a1, a2, y, List.mem_append_left _ hy, a3⟩
    · obtain ⟨a1, a2⟩ := q2.mem q hqm
      refine ⟨(List.prefix_append pre _).trans a1, ?_, ?_⟩
      · rintro rfl
        have := a1.length_le
        simp at this
        omega
      · rcases a2 with rfl | ⟨y, hy, a2⟩
        · exact ⟨e, by simp, pre ++ x, w, by rw [hq]; simp, by simp⟩
        · exact ⟨y, List.mem_append_right _ hy, a2⟩
  refine ⟨hnd, hmem, fun hh hf hc => ?_⟩
  have hti := hh.tr
  have hkey : keyL { dir := true, mode := 0, id := i, name := x } = x ++ [47] := rfl
  have hdata : (A2 i).data ≠ [] := by
    rw [l2.ts.dat i hti]
    intro he
    have hrw : Rw A2 i = [] := by
      cases hR : Rw A2 i with
      | nil => rfl
      | cons a r => rw [hR] at he; simp [encL] at he
    cases m with
    | zero => exact hh.elim
    | succ m => rw [flatE_s, hrw] at hf; simp at hf
  have hlt : ∀ r, r ∈ rs → sLt (keyL r) (x ++ [47]) = true := by
    intro r hr
    obtain ⟨n1, n2⟩ := h.nx r hr e (by simp) _ hq
    rcases sLt_tri (keyL r) (x ++ [47]) with h1 | h1 | h1
    · exact h1
    · exact absurd h1 (hnk r hr)
    · exfalso
      have hb := sLt_between (p := x ++ [47]) (a := keyL r) (w := w) h1 (by simpa using n1)
      by_cases hd : r.dir = true
      · have hk : keyL r = r.name ++ 47 :: [] := by unfold keyL; rw [if_pos hd]
        rw [hk] at hb
        have := first_slash (h.ro.nsl r hr) hx hb
        exact hnk r hr (by rw [hk, this])
      · unfold keyL at hb; rw [if_neg hd] at hb
        obtain ⟨v, hv⟩ := hb
        exact h.ro.nsl r hr (by rw [← hv]; simp)
  refine ⟨l2, h.gr.trans hfA g2, (h.ro.ext g2.ext).snoc ⟨hti.1, hti.2.1, hxl, by show x.length ≤ 180; omega, by show (0 : Int) ≤ 0; omega, by show (0 : Int) ≤ 3; omega, fun _ => rfl⟩ (fun a ha => hlt a ha) (fun h => nomatch h) (fun _ => ⟨hti, hdata⟩) hx, ?_, ?_, ?_, ?_, hnd, hmem, ?_, ?_⟩
  · intro r hr hd
    rcases List.mem_append.1 hr with hr | hr
    · exact g2.ext.ht (h.ht r hr hd)
    · rw [List.mem_singleton.1 hr]; exact hh
  · rw [List.flatMap_append, rowE_ext g2.ext h.ht, h.fl, List.map_append]
    congr 1
    rw [List.flatMap_singleton]
    show (flatE A2 m i).map (Entry.pre (x ++ [47])) = _
    rw [hf, List.map_map]
    refine List.map_congr_left fun g hg => ?_
    obtain ⟨q', e1, _⟩ := hsub.rel g hg
    show Entry.pre (x ++ [47]) (g.strip _) = g.strip _
    rw [strip_pre e1, strip_pre (pre := pre) (q := (x ++ [47]) ++ q') (by rw [e1]; simp)]
    rfl
  · have := h.ln; simp; omega
  · intro r hr
    rcases List.mem_append.1 hr with hr | hr
    · exact h.nm r hr
    · rw [List.mem_singleton.1 hr]; show x.length ≤ 12; omega
  · have := h.qc; rw [List.length_append]; omega
  · intro r hr y hy q' hq'
    rcases List.mem_append.1 hr with hr | hr
    · exact h.nx r hr y (by simp [hy]) q' hq'
    · rw [List.mem_singleton.1 hr, hkey]
      have hs1 := (List.pairwise_append.1 hS.srt).2.1
      have h1 := (List.pairwise_cons.1 hs1).1 y (List.mem_append_right _ hy)
      rw [hq, hq', sLt_app] at h1
      have hlt' : sLt (x ++ [47]) q' = true := sLt_of_le_lt (q := x ++ 47 :: w) (by have := sLe_app (x ++ [47]) w; simpa using this) h1
      refine ⟨hlt', fun _ hp => ?_⟩
      obtain ⟨v, hv⟩ := hp
      cases hS3e : S3 with
      | nil => rw [hS3e] at hy; cases hy
      | cons g S4 =>
        have hng := hS3 g S4 hS3e
        rw [hS3e] at hy
        rcases List.mem_cons.1 hy with rfl | hy
        · exact hng ⟨v, by rw [hq', ← hv]; simp⟩
        · obtain ⟨qg, eg, _⟩ := hS.rel g (by rw [hS3e]; simp)
          have h2 := (List.pairwise_cons.1 hs1).1 g (by rw [hS3e]; simp)
          rw [hq, eg, sLt_app] at h2
          have hg1 : sLt (x ++ [47]) qg = true := sLt_of_le_lt (q := x ++ 47 :: w) (by have := sLe_app (x ++ [47]) w; simpa using this) h2
          rw [hS3e] at hs1
          have h3 := (List.pairwise_cons.1 (List.pairwise_append.1 (List.pairwise_cons.1 hs1).2).2.1).1 y hy
          rw [eg, hq', sLt_app, ← hv] at h3
          exact hng (by rw [eg]; exact prefix_app pre (sLt_between hg1 h3))
end
end Go.Proofs.Qxb6500350aGreat
