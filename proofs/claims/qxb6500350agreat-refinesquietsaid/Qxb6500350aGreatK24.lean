/- PLAIN LAW: MARK, MEMBERS. -/
import Derived.Test.Qxb6500350aGreatK23
set_option linter.unusedVariables false
set_option linter.unusedSimpArgs false
set_option maxHeartbeats 1000000
namespace Go.Proofs.Qxb6500350aGreat
open Go.Eng Go
/-- what a tree names, itself too -/
def Mem (A : Int → Ob) : Nat → Int → Int → Prop
  | 0, _, _ => False
  | k + 1, i, x => x = i ∨ ∃ r, r ∈ Rw A i ∧ if r.dir = true then Mem A k r.id x else x = r.id
theorem Mem.iff {A : Int → Ob} {x : Int} : ∀ {k m : Nat} {i : Int}, Ht A k i → k ≤ m → (Mem A m i x ↔ Mem A k i x)
  | 0, _, _, h, _ => h.elim
  | k + 1, 0, _, _, h => absurd h (by omega)
  | k + 1, m + 1, i, h, hk => by
    have key : ∀ r, r ∈ Rw A i → ((if r.dir = true then Mem A m r.id x else x = r.id) ↔ if r.dir = true then Mem A k r.id x else x = r.id) := by
      intro r hr
      by_cases hd : r.dir = true
      · rw [if_pos hd, if_pos hd]; exact Mem.iff (h.2 r hr hd) (by omega)
      · rw [if_neg hd, if_neg hd]
    constructor
    · rintro (h1 | ⟨r, hr, h1⟩)
      · exact .inl h1
      · exact .inr ⟨r, hr, (key r hr).1 h1⟩
    · rintro (h1 | ⟨r, hr, h1⟩)
      · exact .inl h1
      · exact .inr ⟨r, hr, (key r hr).2 h1⟩
theorem Mem.self {A : Int → Ob} {i : Int} {k : Nat} : Mem A (k + 1) i i := .inl rfl
theorem Mem.trans {A : Int → Ob} (hs : TreS A) {j x : Int} (hx : Mem A 6 j x) : ∀ {k : Nat} {i : Int}, Ht A k i → k ≤ 6 → isTr A j → Mem A k i j → Mem A k i x
  | 0, _, h, _, _, _ => h.elim
  | k + 1, i, h, hk, hj, hm => by
    rcases hm with rfl | ⟨r, hr, hm⟩
    · exact (Mem.iff h hk).1 hx
    · refine .inr ⟨r, hr, ?_⟩
      by_cases hd : r.dir = true
      · rw [if_pos hd] at hm ⊢
        exact Mem.trans hs hx (h.2 r hr hd) (by omega) hj hm
      · rw [if_neg hd] at hm
        subst hm
        have := hs.fil i r h.1 hr (Bool.not_eq_true _ ▸ hd)
        have h1 := this.2.2.2
        have h2 := hj.2.2.2
        omega
theorem Mem.rng {A : Int → Ob} (hs : TreS A) {x : Int} : ∀ {k : Nat} {i : Int}, Ht A k i → Mem A k i x → 1 ≤ x ∧ x ≤ 48 ∧ (A x).lv
  | 0, _, h, _ => h.elim
  | k + 1, i, h, hm => by
    rcases hm with rfl | ⟨r, hr, hm⟩
    · exact ⟨h.1.1, h.1.2.1, h.1.2.2.1⟩
    · by_cases hd : r.dir = true
      · rw [if_pos hd] at hm; exact Mem.rng hs (h.2 r hr hd) hm
      · rw [if_neg hd] at hm
        subst hm
        have := hs.fil i r h.1 hr (Bool.not_eq_true _ ▸ hd)
        exact ⟨this.1, this.2.1, this.2.2.1⟩
def sn (l : List Bool) (j : Int) : Prop := 0 ≤ j ∧ l[j.toNat]? = some true
theorem sn_set {l : List Bool} {i j : Int} (h0 : 0 ≤ i) (h1 : i < l.length) : sn (l.set i.toNat true) j ↔ sn l j ∨ j = i := by
  unfold sn
  rw [List.getElem?_set]
  by_cases e : j = i
  · subst e
    rw [if_pos rfl, if_pos (by omega)]
    exact ⟨fun _ => .inr rfl, fun _ => ⟨h0, rfl⟩⟩
  · by_cases e2 : 0 ≤ j
    · rw [if_neg (by omega)]; exact ⟨.inl, fun h => h.resolve_right e⟩
    · exact ⟨fun h => absurd h.1 e2, fun h => h.elim (fun h => absurd h.1 e2) (fun h => absurd h e)⟩
/-- seen trees of height m have all they name seen -/
def Cl (A : Int → Ob) (l : List Bool) (m : Nat) : Prop := ∀ j x, isTr A j → Ht A m j → sn l j → Mem A 6 j x → sn l x
theorem exact_ht {A : Int → Ob} {i : Int} : ∀ {m : Nat}, Ht A m i → ∃ k, k + 1 ≤ m ∧ Ht A (k + 1) i ∧ ¬ Ht A k i
  | 0, h => h.elim
  | m + 1, h => by
    rcases Classical.em (Ht A m i) with h1 | h1
    · obtain ⟨k, k1, k2, k3⟩ := exact_ht h1
      exact ⟨k, by omega, k2, k3⟩
    · exact ⟨m, Nat.le_refl _, h, h1⟩
section
variable {t : Trees} {s : Store} {d : Dev} {A : Int → Ob} {root : Int}
theorem m312_s {n : Nat} {id depth : Int} {seen : List Bool} : m312 (n + 1) t s d id depth seen = ob1 (Option.bind (ixL seen id) fun x1 =>
    cond x1 (some (true)) (some ((decide (depth ≤ 0))))) fun c1 =>
    cond c1 (some seen) (Option.bind (ckA id (seen.length : Int)) fun _ => Option.bind (stL seen id true) fun l1 => ob3 (m194 n s d id) fun c2 l2 c3 =>
    ob1 (m195 n l2) fun l3 => ob2 (m312_w1 n t s d id depth l3 (m312 n) n 0 l1) fun c5 l5 => some l5) := rfl
theorem mark_tree_ok (h : LT t s d A root) : ∀ (k : Nat) {n : Nat} {i : Int} {l : List Bool} {m : Nat}, 100000 + k ≤ n → Ht A k i → k ≤ 6 → Ht A m i → l.length = 49 → Cl A l m →
    Ok (m312 n t s d i k l) (fun l' => l'.length = 49 ∧ ∀ x, sn l' x ↔ sn l x ∨ Mem A 6 i x)
  | 0, _, _, _, _, _, hh, _, _, _, _ => hh.elim
  | k + 1, n + 1, i, l, m, hn, hh, hk, hm, hl, hcl => by
    have hi := hh.1
    have hi1 := hi.1
    have hi2 := hi.2.1
    rw [m312_s]
    refine Ok_ob1 (Ok_ix (by omega) (by omega) (fun x1 hx1 => ?_))
    refine Ok_cond (fun e => Ok.some' (Ok.some' ⟨hl, fun x => ⟨.inl, fun hx => hx.elim id (fun hx => hcl i x hi hm ⟨by omega, by rw [hx1, e]⟩ hx)⟩⟩)) (fun e => Ok.some' ?_)
    refine Ok_ite (fun e => absurd e (by omega)) (fun _ => Ok_ck (by omega) (by omega) (Ok_st (by omega) (by omega) ?_))
    obtain ⟨g1, g2, g3, g4⟩ := gtree (n := n) (by omega) h hi
    refine Ok_cl3 g1 (Ok_cl1 g2 (Ok_ob2 ?_))
    obtain ⟨m0, q1, q2, q3⟩ := exact_ht hm
    have hl1 : (l.set i.toNat true).length = 49 := by simpa using hl
    have hset : ∀ x, sn (l.set i.toNat true) x ↔ sn l x ∨ x = i := fun x => sn_set (by omega) (by omega)
    have hcl1 : Cl A (l.set i.toNat true) m0 := by
      intro j x hj hj2 hj3 hx
      rcases (hset j).1 hj3 with h3 | rfl
      · exact (hset x).2 (.inl (hcl j x hj (hj2.mono (by omega)) h3 hx))
      · exact absurd hj2 q3
    let rm := fun (r : Line) (x : Int) => if r.dir = true then Mem A 6 r.id x else x = r.id
    unfold m312_w1
    refine Ok_it2 (fun (c : Int) (z : List Bool) => 0 ≤ c ∧ c ≤ (Rw A i).length ∧ z.length = 49 ∧ Cl A z m0 ∧ ∀ x, sn z x ↔ (sn l x ∨ x = i) ∨ ∃ r, r ∈ (Rw A i).take c.toNat ∧ rm r x) (fun (c : Int) _ => ((Rw A i).length - c).toNat) ?_ n 0 _ ⟨by omega, by omega, hl1, hcl1, fun x => ?_⟩ (by show (((Rw A i).length : Int) - 0).toNat < n; omega)
    rotate_left
    · rw [hset x]; exact ⟨.inl, fun h => h.elim id (fun ⟨r, hr, _⟩ => by simp at hr)⟩
    rintro Q lp c z hQ ⟨i0, i1, i2, i3, i4⟩ ih
    refine Ok_ite (fun hc => ?_) (fun hc => ?_)
    · refine Ok_ix (by omega) (by omega) (fun r hr => ?_)
      have hrm := List.mem_of_getElem? hr
      have hrok := h.ts.ok i r hi hrm
      have r1 := hrok.id0
      have r2' := hrok.id1
      have next : ∀ z' : List Bool, z'.length = 49 → (∀ x, sn z' x ↔ sn z x ∨ rm r x) → Cl A z' m0 → Ok (lp (wi (c + 1)) z') Q := by
        intro z' e1 e2 e3
        simp (disch := omega) only [wi_of]
        refine ih _ _ ⟨by omega, by omega, e1, e3, fun x => ?_⟩ (by omega)
        rw [e2 x, i4 x, show (c + 1).toNat = c.toNat + 1 by omega, List.take_add_one, hr]
        constructor
        · rintro ((h1 | ⟨r', h1, h2⟩) | h1)
          · exact .inl h1
          · exact .inr ⟨r', List.mem_append_left _ h1, h2⟩
          · exact .inr ⟨r, by simp, h1⟩
        · rintro (h1 | ⟨r', h1, h2⟩)
          · exact .inl (.inl h1)
          · rcases List.mem_append.1 h1 with h1 | h1
            · exact .inl (.inr ⟨r', h1, h2⟩)
            · simp at h1; subst h1; exact .inr h2
      refine Ok_cond (fun hd => ?_) (fun hd => ?_)
      · refine Ok_ix (by omega) (by omega) (fun r2 hr2 => ?_)
        obtain rfl : r = r2 := Option.some.inj (hr.symm.trans hr2)
        have hw : wi (((k + 1 : Nat) : Int) - 1) = (k : Int) := by simp (disch := omega) only [wi_of]; omega
        rw [hw]
        refine Ok_ob1 (Ok.mono (mark_tree_ok h k (m := m0) (by omega) (hh.2 r hrm hd) (by omega) (q2.2 r hrm hd) i2 i3) (fun z' hz' => ?_))
        obtain ⟨z1, z2⟩ := hz'
        have hrt : ∀ x, rm r x ↔ Mem A 6 r.id x := fun x => by show (if _ then _ else _) ↔ _; rw [if_pos hd]
        refine next z' z1 (fun x => by rw [z2 x, hrt x]) (fun j x hj hj2 hj3 hx => (z2 x).2 ?_)
        rcases (z2 j).1 hj3 with h3 | h3
        · exact .inl (i3 j x hj hj2 h3 hx)
        · exact .inr (Mem.trans h.ts hx (h.ts.ht _ (hh.2 r hrm hd).tr) (Nat.le_refl _) hj h3)
      · refine Ok_ix (by omega) (by omega) (fun r2 hr2 => ?_)
        obtain rfl : r = r2 := Option.some.inj (hr.symm.trans hr2)
        refine Ok_ck (by omega) (by omega) (Ok_st (by omega) (by omega) ?_)
        have hrt : ∀ x, rm r x ↔ x = r.id := fun x => by show (if _ then _ else _) ↔ _; rw [if_neg (by rw [hd]; decide)]
        have hz := fun x => sn_set (l := z) (i := r.id) (j := x) (by omega) (by omega)
        refine next _ (by simpa using i2) (fun x => by rw [hz x, hrt x]) (fun j x hj hj2 hj3 hx => (hz x).2 ?_)
        rcases (hz j).1 hj3 with h3 | rfl
        · exact .inl (i3 j x hj hj2 h3 hx)
        · have := h.ts.fil i r hi hrm hd
          have h1 := this.2.2.2
          have h2 := hj.2.2.2
          omega
    · obtain rfl : c = (Rw A i).length := by omega
      refine Ok.some' (hQ _ (Ok.some' ⟨i2, fun x => ?_⟩))
      rw [Int.toNat_natCast, List.take_length] at i4
      rw [i4 x, or_assoc]
      refine or_congr_right ?_
      have h6 := h.ts.ht i hi
      show _ ↔ (x = i ∨ ∃ r, r ∈ Rw A i ∧ if r.dir = true then Mem A 5 r.id x else x = r.id)
      refine or_congr_right ⟨fun ⟨r, h1, h2⟩ => ⟨r, h1, ?_⟩, fun ⟨r, h1, h2⟩ => ⟨r, h1, ?_⟩⟩
      · by_cases hd : r.dir = true
        · rw [if_pos hd]; have : (if r.dir = true then Mem A 6 r.id x else x = r.id) := h2
          rw [if_pos hd] at this; exact (Mem.iff (k := 5) (m := 6) (h6.2 r h1 hd) (by decide)).1 this
        · rw [if_neg hd]; have : (if r.dir = true then Mem A 6 r.id x else x = r.id) := h2
          rw [if_neg hd] at this; exact this
      · show if r.dir = true then Mem A 6 r.id x else x = r.id
        by_cases hd : r.dir = true
        · rw [if_pos hd] at h2 ⊢; exact (Mem.iff (k := 5) (m := 6) (h6.2 r h1 hd) (by decide)).2 h2
        · rw [if_neg hd] at h2 ⊢; exact h2
/-- Members of a live tree -/
theorem members_ok {n : Nat} (hn : 100006 ≤ n) (h : LT t s d A root) {i : Int} (hi : isTr A i) : Ok (m284 n t s d i) (fun r => r.2 = 0 ∧ r.1.length ≤ 48 ∧ ∀ x, x ∈ r.1 ↔ Mem A 6 i x) := by
  unfold m284
  refine Ok_cl1 (isTree_ok hi.1 hi.2.1 ((kindOf_2 h hi.1 hi.2.1).2 hi)) (Ok_ite (fun e => absurd rfl e) (fun _ => ?_))
  refine Ok_mk (by omega) (by omega) (by omega) ?_
  have h0 : ∀ x, ¬ sn (List.replicate (49 : Int).toNat false) x := by
    rintro x ⟨_, hx⟩
    rw [List.getElem?_replicate] at hx
    split at hx <;> simp at hx
  refine Ok_ob1 (Ok.mono (mark_tree_ok h 6 (by omega) (h.ts.ht i hi) (Nat.le_refl _) (h.ts.ht i hi) (by simp) (fun j x _ _ hj _ => absurd hj (h0 j))) (fun l hl => ?_))
  obtain ⟨l1, l2⟩ := hl
  refine Ok_ob2 ?_
  unfold m284_w1
  refine Ok_it2 (fun (z : List Int) (c : Int) => 1 ≤ c ∧ c ≤ 49 ∧ (z.length : Int) < c ∧ ∀ x, x ∈ z ↔ 1 ≤ x ∧ x < c ∧ sn l x) (fun _ (c : Int) => (49 - c).toNat) ?_ n [] 1 ⟨by omega, by omega, by simp, fun x => ⟨(fun h => by cases h), (fun h => by omega)⟩⟩ (by show (49 - 1 : Int).toNat < n; omega)
  rintro Q lp z c hQ ⟨i0, i1, i2, i3⟩ ih
  refine Ok_ite (fun hc => ?_) (fun hc => ?_)
  · refine Ok_ix (by omega) (by omega) (fun b hb => ?_)
    refine Ok_cond (fun e => ?_) (fun e => ?_)
    · refine Ok_apd (by omega) ?_
      simp (disch := omega) only [wi_of]
      refine ih _ _ ⟨by omega, by omega, by simp; omega, fun x => ?_⟩ (by omega)
      rw [List.mem_append, i3 x, List.mem_singleton]
      constructor
      · rintro (h1 | rfl)
        · exact ⟨h1.1, by omega, h1.2.2⟩
        · exact ⟨by omega, by omega, by omega, by rw [hb, e]⟩
      · rintro ⟨h1, h2, h3⟩
        rcases Classical.em (x = c) with h4 | h4
        · exact .inr h4
        · exact .inl ⟨h1, by omega, h3⟩
    · simp (disch := omega) only [wi_of]
      refine ih _ _ ⟨by omega, by omega, by omega, fun x => ?_⟩ (by omega)
      rw [i3 x]
      constructor
      · rintro h1; exact ⟨h1.1, by omega, h1.2.2⟩
      · rintro ⟨h1, h2, h3⟩
        refine ⟨h1, ?_, h3⟩
        rcases Classical.em (x = c) with rfl | h4
        · have := h3.2; rw [hb, e] at this; cases this
        · omega
  · refine Ok.some' (hQ _ (Ok.some' ⟨rfl, by show z.length ≤ 48; omega, fun x => ?_⟩))
    show x ∈ z ↔ _
    rw [i3 x]
    constructor
    · rintro ⟨h1, h2, h3⟩; exact ((l2 x).1 h3).resolve_left (h0 x)
    · intro hx
      have := Mem.rng h.ts (h.ts.ht i hi) hx
      exact ⟨this.1, by omega, (l2 x).2 (.inr hx)⟩
end
end Go.Proofs.Qxb6500350aGreat
