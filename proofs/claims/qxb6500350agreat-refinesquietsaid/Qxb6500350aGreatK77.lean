/- PLAIN LAW: WHAT A TREE NAMES, BY VALUE; TREES OF ONE VALUE ARE ONE. -/
import Derived.Test.Qxb6500350aGreatK76
set_option linter.unusedVariables false
set_option linter.unusedSimpArgs false
set_option maxHeartbeats 2000000
namespace Go.Proofs.Qxb6500350aGreat
open Go.Eng Go
/-- the listing by value -/
def VL (A : Int → Ob) (k : Nat) (i : Int) : List File := (flatE A k i).map (valE A)
def preF (p : Str) (f : File) : File := { f with path := p ++ f.path }
def rowV (A : Int → Ob) (k : Nat) (r : Line) : List File := if r.dir then (VL A k r.id).map (preF (r.name ++ [47])) else [{ path := r.name, data := (A r.id).data, mode := r.mode }]
/-- what stands below a directory -/
def subV (fs : List File) (d : Str) : List File := (fs.filter fun f => d.isPrefixOf f.path).map fun f => { f with path := f.path.drop d.length }
theorem VL_s (A : Int → Ob) (k : Nat) (i : Int) : VL A (k + 1) i = (Rw A i).flatMap (rowV A k) := by
  unfold VL
  rw [flatE_s, List.map_flatMap]
  refine flatMap_congr' fun r _ => ?_
  unfold rowE rowV
  by_cases hd : r.dir = true
  · rw [if_pos hd, if_pos hd, List.map_map]
    unfold VL
    rw [List.map_map]; rfl
  · rw [if_neg hd, if_neg hd]; rfl
theorem subV_flat {α : Type} (l : List α) (F : α → List File) (d : Str) : subV (l.flatMap F) d = l.flatMap fun r => subV (F r) d := by
  unfold subV
  rw [List.filter_flatMap, List.map_flatMap]
theorem subV_nil (fs : List File) : subV fs [] = fs := by
  unfold subV
  rw [List.filter_eq_self.2 (fun f _ => by simp)]
  exact (List.map_congr_left (fun f _ => by simp)).trans (List.map_id fs)
theorem isPre_app (p d q : Str) : (p ++ d).isPrefixOf (p ++ q) = d.isPrefixOf q := by
  rw [Bool.eq_iff_iff, List.isPrefixOf_iff_prefix, List.isPrefixOf_iff_prefix]
  constructor
  · exact prefix_strip
  · rintro ⟨v, rfl⟩; exact ⟨v, by simp⟩
theorem subV_pre (L : List File) (p d : Str) : subV (L.map (preF p)) (p ++ d) = subV L d := by
  unfold subV
  rw [List.filter_map, List.map_map]
  have : (fun f => (p ++ d).isPrefixOf f.path) ∘ preF p = fun (f : File) => d.isPrefixOf f.path := by
    funext f
    exact isPre_app p d f.path
  rw [this]
  refine List.map_congr_left (fun f _ => ?_)
  show ({ f with path := (p ++ f.path).drop (p ++ d).length } : File) = _
  rw [List.length_append, ← List.drop_drop, List.drop_left]
theorem flatMap_single {α β : Type} {F : α → List β} {r : α} : ∀ {l : List α}, l.Nodup → r ∈ l → (∀ r', r' ∈ l → r' ≠ r → F r' = []) → l.flatMap F = F r
  | [], _, h, _ => by cases h
  | a :: l, hn, hr, ho => by
    rw [List.flatMap_cons]
    rw [List.nodup_cons] at hn
    rcases List.mem_cons.1 hr with rfl | hr
    · have : l.flatMap F = [] := by
        rw [List.flatMap_eq_nil_iff]
        exact fun x hx => ho x (List.mem_cons_of_mem _ hx) (fun e => hn.1 (by rw [← e]; exact hx))
      rw [this, List.append_nil]
    · rw [ho a (by simp) (fun e => hn.1 (by rw [e]; exact hr)), List.nil_append]
      exact flatMap_single hn.2 hr (fun x hx => ho x (List.mem_cons_of_mem _ hx))
theorem split_sl2 {p q x y : Str} (hp : (47 : UInt8) ∉ p) (h : p ++ 47 :: q = x ++ 47 :: y) : (x = p ∧ q = y) ∨ ∃ x', x = p ++ 47 :: x' ∧ q = x' ++ 47 :: y := by
  rcases List.append_eq_append_iff.1 h with ⟨a, h1, h2⟩ | ⟨a, h1, h2⟩
  · cases a with
    | nil => rw [List.append_nil] at h1; simp at h2; exact .inl ⟨h1, h2⟩
    | cons c a =>
      simp only [List.cons_append, List.cons.injEq] at h2
      exact .inr ⟨a, by rw [h1, ← h2.1], h2.2⟩
  · cases a with
    | nil => rw [List.append_nil] at h1; simp at h2; exact .inl ⟨h1.symm, h2.symm⟩
    | cons c a =>
      simp only [List.cons_append, List.cons.injEq] at h2
      exfalso
      apply hp
      rw [h1, ← h2.1]; simp
section
variable {A : Int → Ob}
theorem VL_h (ts : TreS A) {k : Nat} {i : Int} (h : Ht A k i) : VL A k i = VL A 6 i := by
  unfold VL
  rcases Nat.le_total k 6 with hk | hk
  · rw [flatE_mono h hk]
  · rw [flatE_mono (ts.ht i h.tr) hk]
theorem rows_nodup (ts : TreS A) {j : Int} (hj : isTr A j) : (Rw A j).Nodup :=
  (ts.srt j hj).imp (fun h e => by rw [e, sLt_irrefl] at h; cases h)
theorem key_inj (ts : TreS A) {j : Int} (hj : isTr A j) {r r' : Line} (hr : r ∈ Rw A j) (hr' : r' ∈ Rw A j) (e : keyL r = keyL r') : r = r' := by
  obtain ⟨a, ha⟩ := List.mem_iff_getElem?.1 hr
  obtain ⟨b, hb⟩ := List.mem_iff_getElem?.1 hr'
  rcases Nat.lt_trichotomy a b with h | h | h
  · have := pairwise_get (ts.srt j hj) h ha hb; rw [e, sLt_irrefl] at this; cases this
  · subst h; rw [ha] at hb; exact Option.some.inj hb
  · have := pairwise_get (ts.srt j hj) h hb ha; rw [e, sLt_irrefl] at this; cases this
theorem row_path {k : Nat} {r : Line} {f : File} (h : f ∈ rowV A k r) : (r.dir = false ∧ f = { path := r.name, data := (A r.id).data, mode := r.mode }) ∨ (r.dir = true ∧ ∃ f', f' ∈ VL A k r.id ∧ f = preF (r.name ++ [47]) f') := by
  unfold rowV at h
  by_cases hd : r.dir = true
  · rw [if_pos hd] at h
    obtain ⟨f', h1, h2⟩ := List.mem_map.1 h
    exact .inr ⟨hd, f', h1, h2.symm⟩
  · rw [if_neg hd] at h
    exact .inl ⟨by simpa using hd, List.mem_singleton.1 h⟩
theorem subV_row (ts : TreS A) {k : Nat} {i : Int} (hi : isTr A i) {r : Line} (hr : r ∈ Rw A i) (hd : r.dir = true) (d : Str) : subV (VL A (k + 1) i) (r.name ++ [47] ++ d) = subV (VL A k r.id) d := by
  rw [VL_s, subV_flat, flatMap_single (r := r) (rows_nodup ts hi) hr]
  · unfold rowV
    rw [if_pos hd, subV_pre]
  · intro r' hr' hne
    unfold subV
    rw [List.map_eq_nil_iff, List.filter_eq_nil_iff]
    intro f hf
    rw [List.isPrefixOf_iff_prefix]
    intro hp
    rcases row_path hf with ⟨h1, rfl⟩ | ⟨h1, f', h2, rfl⟩
    · have hp : r.name ++ [47] ++ d <+: r'.name := hp
      obtain ⟨v, hv⟩ := hp
      exact ts.nsl i r' hi hr' (by rw [← hv]; simp)
    · have hp : r.name ++ [47] ++ d <+: r'.name ++ [47] ++ f'.path := hp
      have hp2 : r.name ++ [47] <+: r'.name ++ 47 :: f'.path := by
        refine (List.prefix_append _ d).trans ?_
        simpa using hp
      have := first_slash (ts.nsl i r' hi hr') (ts.nsl i r hi hr) hp2
      exact hne (key_inj ts hi hr' hr (by unfold keyL; rw [if_pos h1, if_pos hd, this]))
theorem VL_ne (ts : TreS A) : ∀ {k : Nat} {i : Int}, Ht A k i → (A i).data ≠ [] → VL A k i ≠ []
  | 0, _, h, _ => h.elim
  | k + 1, i, h, hd => by
    have hdat := ts.dat i h.1
    cases hR : Rw A i with
    | nil => rw [hR] at hdat; exact absurd hdat hd
    | cons r rs =>
      have hr : r ∈ Rw A i := by rw [hR]; simp
      rw [VL_s, hR, List.flatMap_cons]
      intro e
      have e := (List.append_eq_nil_iff.1 e).1
      unfold rowV at e
      by_cases hdir : r.dir = true
      · rw [if_pos hdir, List.map_eq_nil_iff] at e
        exact VL_ne ts (h.2 r hr hdir) (ts.dir i r h.1 hr hdir).2 e
      · rw [if_neg hdir] at e; cases e
theorem mem_self {k : Nat} {i : Int} (h : Ht A k i) : Mem A k i i := by
  cases k with
  | zero => exact h.elim
  | succ k => exact .inl rfl
/-- what a tree names, told by its listing -/
theorem mem_sub (ts : TreS A) : ∀ {k : Nat} {i x : Int}, Ht A k i → Mem A k i x → (isBl A x ∧ ∃ f, f ∈ VL A k i ∧ f.data = (A x).data) ∨ (isTr A x ∧ ∃ d, (d = [] ∨ ∃ f, f ∈ VL A k i ∧ DirPre d f.path) ∧ VL A 6 x = subV (VL A k i) d)
  | 0, _, _, h, _ => h.elim
  | k + 1, i, x, h, hm => by
    rcases hm with rfl | ⟨r, hr, hm⟩
    · exact .inr ⟨h.1, [], .inl rfl, by rw [subV_nil, VL_h ts h]⟩
    · have hin : ∀ f, f ∈ rowV A k r → f ∈ VL A (k + 1) i := fun f hf => by rw [VL_s]; exact List.mem_flatMap.2 ⟨r, hr, hf⟩
      by_cases hd : r.dir = true
      · rw [if_pos hd] at hm
        have hh := h.2 r hr hd
        have hpre : ∀ f, f ∈ VL A k r.id → preF (r.name ++ [47]) f ∈ VL A (k + 1) i := fun f hf => hin _ (by unfold rowV; rw [if_pos hd]; exact List.mem_map_of_mem hf)
        rcases mem_sub ts hh hm with ⟨h1, f, h2, h3⟩ | ⟨h1, d, h2, h3⟩
        · exact .inl ⟨h1, _, hpre f h2, h3⟩
        · refine .inr ⟨h1, r.name ++ [47] ++ d, .inr ?_, by rw [subV_row ts h.1 hr hd]; exact h3⟩
          rcases h2 with rfl | ⟨f, hf, a, b, e1, e2⟩
          · have hne := VL_ne ts hh (ts.dir i r h.1 hr hd).2
            obtain ⟨f, hf⟩ := List.exists_mem_of_ne_nil _ hne
            exact ⟨_, hpre f hf, r.name, f.path, by show r.name ++ [47] ++ f.path = _; simp, by simp⟩
          · exact ⟨_, hpre f hf, r.name ++ 47 :: a, b, by show r.name ++ [47] ++ f.path = _; rw [e1]; simp, by rw [e2]; simp⟩
      · rw [if_neg hd] at hm
        subst hm
        exact .inl ⟨ts.fil i r h.1 hr (by simpa using hd), _, hin _ (by unfold rowV; rw [if_neg hd]; exact List.mem_singleton.2 rfl), rfl⟩
theorem sub_bl (ts : TreS A) : ∀ {k : Nat} {i : Int} {f : File}, Ht A k i → f ∈ VL A k i → ∃ x, Mem A k i x ∧ isBl A x ∧ (A x).data = f.data
  | 0, _, _, h, _ => h.elim
  | k + 1, i, f, h, hf => by
    rw [VL_s] at hf
    obtain ⟨r, hr, hf⟩ := List.mem_flatMap.1 hf
    rcases row_path hf with ⟨hd, rfl⟩ | ⟨hd, f', h2, rfl⟩
    · exact ⟨r.id, .inr ⟨r, hr, by rw [if_neg (by rw [hd]; decide)]⟩, ts.fil i r h.1 hr hd, rfl⟩
    · obtain ⟨x, h3, h4, h5⟩ := sub_bl ts (h.2 r hr hd) h2
      exact ⟨x, .inr ⟨r, hr, by rw [if_pos hd]; exact h3⟩, h4, h5⟩
theorem sub_tr (ts : TreS A) : ∀ {k : Nat} {i : Int} {d : Str}, Ht A k i → (∃ f, f ∈ VL A k i ∧ DirPre d f.path) → ∃ x, Mem A k i x ∧ isTr A x ∧ VL A 6 x = subV (VL A k i) d
  | 0, _, _, h, _ => h.elim
  | k + 1, i, d, h, hf => by
    obtain ⟨f, hf, a, b, e1, e2⟩ := hf
    rw [VL_s] at hf
    obtain ⟨r, hr, hf⟩ := List.mem_flatMap.1 hf
    rcases row_path hf with ⟨hd, rfl⟩ | ⟨hd, f', h2, rfl⟩
    · have e1 : r.name = a ++ 47 :: b := e1
      exact absurd (show (47 : UInt8) ∈ r.name by rw [e1]; simp) (ts.nsl i r h.1 hr)
    · have hh := h.2 r hr hd
      have e1 : r.name ++ [47] ++ f'.path = a ++ 47 :: b := e1
      rcases split_sl2 (ts.nsl i r h.1 hr) (show r.name ++ 47 :: f'.path = a ++ 47 :: b by rw [← e1]; simp) with ⟨rfl, _⟩ | ⟨a', rfl, e3⟩
      · refine ⟨r.id, .inr ⟨r, hr, by rw [if_pos hd]; exact mem_self hh⟩, hh.tr, ?_⟩
        have := subV_row ts (k := k) h.1 hr hd []
        rw [List.append_nil, subV_nil] at this
        rw [e2, this, VL_h ts hh]
      · obtain ⟨x, h3, h4, h5⟩ := sub_tr ts hh (d := a' ++ [47]) ⟨f', h2, a', b, e3, rfl⟩
        refine ⟨x, .inr ⟨r, hr, by rw [if_pos hd]; exact h3⟩, h4, ?_⟩
        have := subV_row ts (k := k) h.1 hr hd (a' ++ [47])
        rw [h5, e2, ← this]
        simp
/-- trees of one listing are one -/
theorem VL_inj (ts : TreS A) (tw : ∀ i j, 1 ≤ i → i ≤ 48 → 1 ≤ j → j ≤ 48 → (A i).lv → (A j).lv → (A i).kind = (A j).kind → (A i).data = (A j).data → i = j) :
    ∀ (k : Nat) (i j : Int), Ht A k i → Ht A k j → VL A k i = VL A k j → i = j
  | 0, _, _, h, _, _ => h.elim
  | k + 1, i, j, hi, hj, e => by
    have half : ∀ {i j : Int}, Ht A (k + 1) i → Ht A (k + 1) j → VL A (k + 1) i = VL A (k + 1) j → ∀ r, r ∈ Rw A i → r ∈ Rw A j := by
      intro i j hi hj e r hr
      have hok := ts.ok i r hi.1 hr
      by_cases hd : r.dir = true
      · have hh := hi.2 r hr hd
        obtain ⟨f, hf⟩ := List.exists_mem_of_ne_nil _ (VL_ne ts hh (ts.dir i r hi.1 hr hd).2)
        have hin : preF (r.name ++ [47]) f ∈ VL A (k + 1) j := by
          rw [← e, VL_s]
          exact List.mem_flatMap.2 ⟨r, hr, by unfold rowV; rw [if_pos hd]; exact List.mem_map_of_mem hf⟩
        rw [VL_s] at hin
        obtain ⟨r', hr', hin⟩ := List.mem_flatMap.1 hin
        rcases row_path hin with ⟨hd', e1⟩ | ⟨hd', f', h2, e1⟩
        · have e2 : r.name ++ [47] ++ f.path = r'.name := congrArg File.path e1
          exact absurd (show (47 : UInt8) ∈ r'.name by rw [← e2]; simp) (ts.nsl j r' hj.1 hr')
        · have e2 : r.name ++ [47] ++ f.path = r'.name ++ [47] ++ f'.path := congrArg File.path e1
          have hp : r.name ++ [47] <+: r'.name ++ 47 :: f'.path := ⟨f.path, by rw [e2]; simp⟩
          have hname : r'.name = r.name := first_slash (ts.nsl j r' hj.1 hr') (ts.nsl i r hi.1 hr) hp
          have s1 := subV_row ts (k := k) hi.1 hr hd []
          have s2 := subV_row ts (k := k) hj.1 hr' hd' []
          rw [hname, ← e, s1, subV_nil, subV_nil] at s2
          have hid := VL_inj ts tw k r.id r'.id hh (hj.2 r' hr' hd') s2
          have hok' := ts.ok j r' hj.1 hr'
          have : r = r' := by
            have m1 := hok.dm hd
            have m2 := hok'.dm hd'
            cases r; cases r'; simp at *; simp [*]
          rw [this]; exact hr'
      · have hd : r.dir = false := by simpa using hd
        have hin : ({ path := r.name, data := (A r.id).data, mode := r.mode } : File) ∈ VL A (k + 1) j := by
          rw [← e, VL_s]
          exact List.mem_flatMap.2 ⟨r, hr, by unfold rowV; rw [if_neg (by rw [hd]; decide)]; exact List.mem_singleton.2 rfl⟩
        rw [VL_s] at hin
        obtain ⟨r', hr', hin⟩ := List.mem_flatMap.1 hin
        rcases row_path hin with ⟨hd', e1⟩ | ⟨hd', f', h2, e1⟩
        · have p1 : r.name = r'.name := congrArg File.path e1
          have p2 : (A r.id).data = (A r'.id).data := congrArg File.data e1
          have p3 : r.mode = r'.mode := congrArg File.mode e1
          have b1 := ts.fil i r hi.1 hr hd
          have b2 := ts.fil j r' hj.1 hr' hd'
          have hid := tw r.id r'.id b1.1 b1.2.1 b2.1 b2.2.1 b1.2.2.1 b2.2.2.1 (by rw [b1.2.2.2, b2.2.2.2]) p2
          have : r = r' := by cases r; cases r'; simp at *; simp [*]
          rw [this]; exact hr'
        · have p1 : r.name = r'.name ++ [47] ++ f'.path := congrArg File.path e1
          exact absurd (show (47 : UInt8) ∈ r.name by rw [p1]; simp) (ts.nsl i r hi.1 hr)
    have hRw : Rw A i = Rw A j := sorted_str (f := keyL) (ts.srt i hi.1) (ts.srt j hj.1) (fun r => ⟨half hi hj e r, half hj hi e.symm r⟩)
    have t1 := hi.1
    have t2 := hj.1
    exact tw i j t1.1 t1.2.1 t2.1 t2.2.1 t1.2.2.1 t2.2.2.1 (by rw [t1.2.2.2, t2.2.2.2]) (by rw [ts.dat i t1, ts.dat j t2, hRw])
end
end Go.Proofs.Qxb6500350aGreat
