/- PLAIN LAW: COST; WRITETREE; SNAPSHOTS DOWN AND UP. -/
import Derived.Test.Qxb6500350aGreatK29
import Derived.Test.Qxb6500350aGreatT124
import Derived.Test.Qxb6500350aGreatT248
import Derived.Test.Qxb6500350aGreatT212
import Derived.Test.Qxb6500350aGreatT172
set_option linter.unusedVariables false
set_option linter.unusedSimpArgs false
set_option maxHeartbeats 1000000
namespace Go.Proofs.Qxb6500350aGreat
open Go.Eng Go
def addO {α : Type} [DecidableEq α] (set : List α) (s : α) : List α := if s ∈ set then set else set ++ [s]
theorem addO_mem {α : Type} [DecidableEq α] {set : List α} {s x : α} : x ∈ addO set s ↔ x ∈ set ∨ x = s := by
  unfold addO
  split
  · rename_i h; exact ⟨.inl, fun h2 => h2.elim id (fun e => e ▸ h)⟩
  · simp
theorem addO_nodup {α : Type} [DecidableEq α] {set : List α} {s : α} (h : set.Nodup) : (addO set s).Nodup := by
  unfold addO
  split
  · exact h
  · rename_i hs
    rw [List.nodup_append]
    exact ⟨h, by simp, fun a ha b hb => by rw [List.mem_singleton.1 hb]; rintro rfl; exact hs ha⟩
theorem addO_len {α : Type} [DecidableEq α] {set : List α} {s : α} : (addO set s).length ≤ set.length + 1 := by unfold addO; split <;> simp
theorem addAllO_mem {α : Type} [DecidableEq α] {x : α} : ∀ {l set : List α}, x ∈ l.foldl addO set ↔ x ∈ set ∨ x ∈ l
  | [], set => by simp
  | a :: l, set => by rw [List.foldl_cons, addAllO_mem, addO_mem, List.mem_cons, or_assoc]
theorem addAllO_nodup {α : Type} [DecidableEq α] : ∀ {l set : List α}, set.Nodup → (l.foldl addO set).Nodup
  | [], set, h => h
  | a :: l, set, h => addAllO_nodup (l := l) (set := addO set a) (addO_nodup h)
theorem addAllO_len {α : Type} [DecidableEq α] : ∀ {l set : List α}, (l.foldl addO set).length ≤ set.length + l.length
  | [], set => by simp
  | a :: l, set => by
    rw [List.foldl_cons, List.length_cons]
    have h1 := addAllO_len (l := l) (set := addO set a)
    have h2 := addO_len (set := set) (s := a)
    omega
theorem addOnce_ok {n : Nat} {set : List Str} {s : Str} (hn : 100000 ≤ n) (hl : set.length ≤ 90000) : m272 n set s = some (addO set s) := by
  refine Ok.eq ?_
  unfold m272
  refine Ok_flow ?_
  unfold m272_w1
  refine Ok_it1 (fun (c : Int) => 0 ≤ c ∧ c ≤ set.length ∧ s ∉ set.take c.toNat) (fun (c : Int) => ((set.length : Int) - c).toNat) ?_ n 0 ⟨by omega, by omega, by simp⟩ (by show ((set.length : Int) - 0).toNat < n; omega)
  rintro Q lp c hQ ⟨i0, i1, i2⟩ ih
  refine Ok_ite (fun hc => Ok_ix (by omega) (by omega) (fun x hx => ?_)) (fun hc => ?_)
  · refine Ok_ite (fun e => Ok_bs (Ok.some' (hQ _ (Ok.some' ?_)))) (fun e => ?_)
    · unfold addO; rw [if_pos (e ▸ List.mem_of_getElem? hx)]
    · rw [wi_e (by omega) (by omega)]
      refine ih _ ⟨by omega, by omega, ?_⟩ (by omega)
      rw [show (c + 1).toNat = c.toNat + 1 by omega, List.take_add_one, hx]
      simp [i2]; exact fun h => e h.symm
  · obtain rfl : c = set.length := by omega
    rw [Int.toNat_natCast, List.take_length] at i2
    refine Ok.some' (hQ _ (Ok_apd (by omega) (Ok.some' ?_)))
    unfold addO; rw [if_neg i2]
def dirsOf : Str → Str → List Str
  | _, [] => []
  | cur, c :: r => if c = 47 then (cur ++ [47]) :: dirsOf (cur ++ [c]) r else dirsOf (cur ++ [c]) r
theorem dirsOf_cons (cur : Str) (c : UInt8) (r : Str) : dirsOf cur (c :: r) = if c = 47 then (cur ++ [47]) :: dirsOf (cur ++ [c]) r else dirsOf (cur ++ [c]) r := rfl
def dirsL (l : List File) : List Str := (l.flatMap fun f => dirsOf [] f.path).foldl addO [[]]
def cost (l : List File) : Int := (l.length : Int) + (dirsL l).length
theorem dirsOf_len : ∀ (r cur : Str), (dirsOf cur r).length ≤ r.length
  | [], _ => by simp [dirsOf]
  | c :: r, cur => by
    rw [dirsOf_cons]
    have := dirsOf_len r (cur ++ [c])
    split <;> simp <;> omega
theorem dirsOf_mem : ∀ (r cur q : Str), q ∈ dirsOf cur r ↔ ∃ x y, r = x ++ 47 :: y ∧ q = cur ++ (x ++ [47])
  | [], cur, q => by simp [dirsOf]
  | c :: r, cur, q => by
    have ih := dirsOf_mem r (cur ++ [c]) q
    have hr : (∃ x y, c :: r = x ++ 47 :: y ∧ q = cur ++ (x ++ [47])) ↔ (c = 47 ∧ q = cur ++ [47]) ∨ ∃ x y, r = x ++ 47 :: y ∧ q = cur ++ [c] ++ (x ++ [47]) := by
      constructor
      · rintro ⟨x, y, h1, h2⟩
        cases x with
        | nil => simp at h1; exact .inl ⟨h1.1, by simpa using h2⟩
        | cons a x =>
          simp only [List.cons_append, List.cons.injEq] at h1
          exact .inr ⟨x, y, h1.2, by rw [h2, ← h1.1]; simp⟩
      · rintro (⟨rfl, rfl⟩ | ⟨x, y, rfl, rfl⟩)
        · exact ⟨[], r, rfl, rfl⟩
        · exact ⟨c :: x, y, rfl, by simp⟩
    rw [hr, ← ih, dirsOf_cons]
    split
    · rename_i hc
      rw [List.mem_cons]
      exact ⟨fun h => h.imp (fun e => ⟨hc, e⟩) id, fun h => h.imp (fun e => e.2) id⟩
    · rename_i hc
      exact ⟨.inr, fun h => h.elim (fun e => absurd e.1 hc) id⟩
theorem dirsL_mem {l : List File} {q : Str} : q ∈ dirsL l ↔ q = [] ∨ ∃ f, f ∈ l ∧ DirPre q f.path := by
  unfold dirsL
  rw [addAllO_mem, List.mem_singleton, List.mem_flatMap]
  refine or_congr_right ⟨fun ⟨f, h1, h2⟩ => ⟨f, h1, ?_⟩, fun ⟨f, h1, h2⟩ => ⟨f, h1, ?_⟩⟩
  · simpa [DirPre] using (dirsOf_mem f.path [] q).1 h2
  · exact (dirsOf_mem f.path [] q).2 (by simpa [DirPre] using h2)
theorem dirsL_nodup (l : List File) : (dirsL l).Nodup := addAllO_nodup (by simp)
theorem dirs_len {l : List File} (h : Law l) (c : Nat) : ((l.take c).flatMap fun f => dirsOf [] f.path).length ≤ 12 * (l.take c).length := by
  have : ∀ q : List File, (∀ f, f ∈ q → f.path.length ≤ 12) → (q.flatMap fun f => dirsOf [] f.path).length ≤ 12 * q.length := by
    intro q
    induction q with
    | nil => intro _; simp
    | cons f r ih =>
      intro h
      rw [List.flatMap_cons, List.length_append, List.length_cons]
      have h1 := dirsOf_len f.path []
      have h2 := h f (by simp)
      have h3 := ih (fun g hg => h g (List.mem_cons_of_mem _ hg))
      omega
  exact this _ (fun f hf => (goodP_len (h.good f (List.mem_of_mem_take hf))).2)
theorem dirsL_len {l : List File} (h : Law l) : (dirsL l).length ≤ 97 := by
  have h1 := addAllO_len (l := l.flatMap fun f => dirsOf [] f.path) (set := [([] : Str)])
  have h2 := dirs_len h l.length
  rw [List.take_length] at h2
  have := h.num
  unfold dirsL
  simp only [List.length_singleton] at h1
  omega
theorem dirs_ok {n : Nat} {l : List File} (hn : 100000 ≤ n) (h : Law l) : m209 n l = some (dirsL l) := by
  refine Ok.eq ?_
  unfold m209
  refine Ok_ob2 ?_
  have hnum := h.num
  unfold m209_w1
  refine Ok_it2 (fun (z : List Str) (c : Int) => 0 ≤ c ∧ c ≤ l.length ∧ z = ((l.take c.toNat).flatMap fun f => dirsOf [] f.path).foldl addO [[]]) (fun _ (c : Int) => ((l.length : Int) - c).toNat) ?_ n _ 0 ⟨by omega, by omega, by simp⟩ (by show ((l.length : Int) - 0).toNat < n; omega)
  rintro Q lp z c hQ ⟨i0, i1, rfl⟩ ih
  refine Ok_ite (fun hc => Ok_ix (by omega) (by omega) (fun x hx => ?_)) (fun hc => ?_)
  · have hxl := (goodP_len (h.good x (List.mem_of_getElem? hx))).2
    have h1 := dirs_len h c.toNat
    have h3 : (l.take c.toNat).length ≤ 8 := by rw [List.length_take]; omega
    have h2 := addAllO_len (l := (l.take c.toNat).flatMap fun f => dirsOf [] f.path) (set := [([] : Str)])
    simp only [List.length_singleton] at h2
    generalize hz0 : ((l.take c.toNat).flatMap fun f => dirsOf [] f.path).foldl addO [[]] = z0 at h2 ⊢
    refine Ok_ob2 ?_
    unfold m209_w2
    refine Ok_it2 (fun (z : List Str) (k : Int) => 0 ≤ k ∧ k ≤ x.path.length ∧ (z.length : Int) ≤ z0.length + k ∧ (dirsOf (x.path.take k.toNat) (x.path.drop k.toNat)).foldl addO z = (dirsOf [] x.path).foldl addO z0) (fun _ (k : Int) => ((x.path.length : Int) - k).toNat) ?_ n _ 0 ⟨by omega, by omega, by omega, by simp⟩ (by show ((x.path.length : Int) - 0).toNat < n; omega)
    rintro Q2 lp2 z k hQ2 ⟨j0, j1, j2, j3⟩ ih2
    refine Ok_ite (fun hk => Ok_sIx (by omega) (by omega) (fun b hb => ?_)) (fun hk => ?_)
    · have hw : wi (k + 1) = k + 1 := wi_e (by omega) (by omega)
      have hd : x.path.drop k.toNat = b :: x.path.drop (k.toNat + 1) := by
        have hlt : k.toNat < x.path.length := by omega
        rw [List.drop_eq_getElem_cons hlt]
        congr 1
        rw [List.getElem?_eq_getElem hlt] at hb; exact Option.some.inj hb
      have ht : x.path.take (k + 1).toNat = x.path.take k.toNat ++ [b] := by rw [show (k + 1).toNat = k.toNat + 1 by omega, List.take_add_one, hb]; rfl
      rw [hd] at j3
      rw [dirsOf_cons] at j3
      rw [hw]
      refine Ok_ite (fun h47 => ?_) (fun h47 => ?_)
      · have : b = 47 := UInt8.toNat_inj.1 (by show b.toNat = 47; omega)
        subst this
        rw [if_pos rfl, List.foldl_cons] at j3
        refine Ok_sSl (by omega) (by omega) (by omega) ?_
        rw [ht]
        refine Ok_cl1 (addOnce_ok hn (by omega)) (ih2 _ _ ⟨by omega, by omega, ?_, ?_⟩ (by omega))
        · have := addO_len (set := z) (s := (x.path.take k.toNat ++ [47]).drop (0 : Int).toNat); omega
        · rw [ht, show (k + 1).toNat = k.toNat + 1 by omega]; exact j3
      · have hne : b ≠ 47 := by rintro rfl; exact h47 rfl
        rw [if_neg hne] at j3
        exact ih2 _ _ ⟨by omega, by omega, by omega, by rw [ht, show (k + 1).toNat = k.toNat + 1 by omega]; exact j3⟩ (by omega)
    · obtain rfl : k = x.path.length := by omega
      rw [Int.toNat_natCast, List.drop_length, List.take_length] at j3
      refine Ok.some' (hQ2 _ ?_)
      rw [wi_e (by omega) (by omega)]
      refine ih _ _ ⟨by omega, by omega, ?_⟩ (by omega)
      rw [show (c + 1).toNat = c.toNat + 1 by omega, flatMap_take_succ hx, List.foldl_append, hz0, ← j3]
      rfl
  · obtain rfl : c = l.length := by omega
    refine Ok.some' (hQ _ (Ok.some' ?_))
    rw [Int.toNat_natCast, List.take_length]; rfl
theorem cost_ok {n : Nat} {l : List File} (hn : 100000 ≤ n) (h : Law l) : m124 n l = some (cost l) := by
  refine Ok.eq ?_
  unfold m124
  refine Ok_cl1 (dirs_ok hn h) (Ok.some' ?_)
  have := dirsL_len h
  have := h.num
  rw [wi_e (by omega) (by omega)]; rfl
theorem cost_rng {l : List File} (h : Law l) : 1 ≤ cost l ∧ cost l ≤ 105 := by
  have h1 := dirsL_len h
  have h2 := h.num
  have h3 : ([] : Str) ∈ dirsL l := dirsL_mem.2 (.inl rfl)
  have := List.length_pos_of_mem h3
  unfold cost; omega
def Entry.toF (e : Entry) : File := { path := e.path, data := [], mode := e.mode }
theorem checkEntries_ok {n : Nat} {l : List Entry} (hn : 100000 ≤ n) : m287 n l = some (chkF (l.map Entry.toF)) := by
  refine Ok.eq ?_
  unfold m287 chkF
  rw [List.length_map]
  refine Ok_ite (fun h => Ok.some' (by rw [if_pos (by omega)])) (fun h => ?_)
  rw [if_neg (by omega)]
  refine Ok_flow ?_
  unfold m287_w1
  refine Ok_it2 (fun (prev : List Str) (c : Int) => ∃ l1 l2, l = l1 ++ l2 ∧ c = l1.length ∧ prev = l1.map (·.path) ∧ chkG [] (l.map Entry.toF) = chkG prev (l2.map Entry.toF) ∧ ∀ q, q ∈ prev → q.length ≤ 1000000) (fun _ (c : Int) => ((l.length : Int) - c).toNat) ?_ n [] 0 ⟨[], l, rfl, rfl, rfl, rfl, by simp⟩ (by show ((l.length : Int) - 0).toNat < n; omega)
  rintro Q lp prev c hQ ⟨l1, l2, rfl, rfl, rfl, i4, i5⟩ ih
  cases l2 with
  | nil => exact Ok_ite (fun hc => by simp at hc) (fun _ => Ok.some' (hQ _ (Ok.some' i4.symm)))
  | cons f r =>
    have hln : ((l1 ++ f :: r).length : Int) = l1.length + (r.length + 1) := by simp
    have hget : ∀ x, (l1 ++ f :: r)[(l1.length : Int).toNat]? = some x → x = f := by
      intro x hx; rw [Int.toNat_natCast, List.getElem?_append_right (Nat.le_refl _)] at hx; simpa using hx.symm
    refine Ok_ite (fun hc => ?_) (fun hc => by omega)
    refine Ok_ix (by omega) hc (fun x hx => ?_)
    obtain rfl := hget x hx
    refine Ok_ix (by omega) hc (fun x2 hx2 => ?_)
    obtain rfl := hget x2 hx2
    refine Ok_cl1 (checkRow_ok hn (by rw [List.length_map]; omega) i5) ?_
    have hG : chkG (l1.map (·.path)) ((x2 :: r).map Entry.toF) = if chkRow x2.path x2.mode 0 (l1.map (·.path)) = 0 then chkG (l1.map (·.path) ++ [x2.path]) (r.map Entry.toF) else chkRow x2.path x2.mode 0 (l1.map (·.path)) := rfl
    refine Ok_ite (fun he => Ok_bs (Ok.some' (hQ _ (Ok.some' ?_)))) (fun he => ?_)
    · rw [i4, hG, if_neg he]
    · have he := Classical.not_not.1 he
      have hgd := chkRow_good he
      have hgl := goodP_len hgd.1
      refine Ok_ix (by omega) hc (fun x4 hx4 => ?_)
      obtain rfl := hget x4 hx4
      refine Ok_apd (by rw [List.length_map]; omega) ?_
      rw [wi_e (by omega) (by omega)]
      refine ih _ _ ⟨l1 ++ [x4], r, by simp, by simp, by simp, by rw [i4, hG, if_pos he], fun q hq => ?_⟩ (by omega)
      rcases List.mem_append.1 hq with hq | hq
      · exact i5 q hq
      · rw [List.mem_singleton.1 hq]; omega
section
variable {n : Nat} {t : Trees} {s : Store} {d : Dev} {A : Int → Ob} {root : Int}
theorem writeTree_ok {l : List Entry} (hn : 100010 ≤ n) (h : LT t s d A root) (hl : Law (l.map Entry.toF)) (hb : ∀ e, e ∈ l → isBl A e.id) : Ok (m248 n t s d l) (BRes root d A 6 [] l) := by
  unfold m248
  have hnum := hl.num
  rw [List.length_map] at hnum
  refine Ok_cl1 (checkEntries_ok (by omega)) (Ok_ite (fun e => absurd (chkF_iff.2 hl) e) (fun _ => Ok_flow ?_))
  have hmem : ∀ e, e ∈ l → e.toF ∈ l.map Entry.toF := fun e he => List.mem_map_of_mem he
  have hS : Seg A 6 [] l := by
    refine ⟨fun e he => ⟨e.path, rfl, goodP_rel (hl.good _ (hmem e he))⟩, ?_, hb, fun e he => hl.mode _ (hmem e he), fun e he => (goodP_len (hl.good _ (hmem e he))).2, hnum⟩
    have := hl.srt
    rw [List.pairwise_map] at this
    exact this
  unfold m248_w1
  refine Ok_it1 (fun (c : Int) => 0 ≤ c ∧ c ≤ l.length) (fun (c : Int) => ((l.length : Int) - c).toNat) ?_ n 0 ⟨by omega, by omega⟩ (by show ((l.length : Int) - 0).toNat < n; omega)
  rintro Q lp c hQ ⟨i0, i1⟩ ih
  refine Ok_ite (fun hc => Ok_ix (by omega) (by omega) (fun x hx => ?_)) (fun hc => ?_)
  · have hbx := hb x (List.mem_of_getElem? hx)
    have hb1 := hbx.1
    have hb2 := hbx.2.1
    refine Ok_iteO (fun h => by omega) (fun _ _ => Ok_ck (by omega) (by omega) (Ok_ite (fun e => absurd ((kindOf_1 h hb1 hb2).2 hbx) e) (fun _ => ?_)))
    rw [wi_e (by omega) (by omega)]
    exact ih _ ⟨by omega, by omega⟩ (by omega)
  · refine Ok.some' (hQ _ ?_)
    have hbd := build_ok 6 (n := n) (P := []) (S := l) (T := []) (pre := []) (by omega) h (by omega) (by omega) hS (by simp) (by simpa using hnum)
    simp only [List.nil_append, List.append_nil, List.length_nil] at hbd
    rw [show ((0 : Nat) : Int) + (l.length : Int) = l.length by omega] at hbd
    refine Ok_ob5 (Ok.mono hbd (fun r hr => Ok.some' hr))
/-- a file of an entry -/
def valE (A : Int → Ob) (e : Entry) : File := { path := e.path, data := (A e.id).data, mode := e.mode }
/-- the tree i is the snapshot fs -/
def TV (A : Int → Ob) (i : Int) (fs : List File) : Prop := isTr A i ∧ fs = (flatE A 6 i).map (valE A)
theorem flatE_bl {A : Int → Ob} (h : TreS A) : ∀ {k : Nat} {i : Int} {e : Entry}, Ht A k i → e ∈ flatE A k i → isBl A e.id
  | 0, _, _, hh, _ => hh.elim
  | k + 1, i, e, hh, he => by
    rw [flatE_s] at he
    obtain ⟨r, hr, he⟩ := List.mem_flatMap.1 he
    unfold rowE at he
    by_cases hd : r.dir = true
    · rw [if_pos hd] at he
      obtain ⟨a, ha, rfl⟩ := List.mem_map.1 he
      exact flatE_bl (e := a) h (hh.2 r hr hd) ha
    · rw [if_neg hd] at he
      rw [List.mem_singleton.1 he]
      exact h.fil i r hh.1 hr (by simpa using hd)
theorem TV.ext {A A' : Int → Ob} {i : Int} {fs : List File} (h : TV A i fs) (hs : TreS A) (e : Ext A A') : TV A' i fs := by
  refine ⟨e.isTr h.1, ?_⟩
  have hh := hs.ht i h.1
  rw [e.flat hh, h.2]
  refine List.map_congr_left fun x hx => ?_
  have := flatE_bl hs hh hx
  unfold valE
  rw [e.live this.1 this.2.1 (Ob.lv_ne this.2.2.1)]
/-- the answer of a snapshot's way down -/
def SRes (root : Int) (d : Dev) (A : Int → Ob) (fs : List File) (r : Int × Int × Trees × Store × Dev) : Prop :=
  ∃ t' s' d' A', LT t' s' d' A' root ∧ Grow (fun q => q = 1 ∨ q = 2) d A d' A' ∧ ((r = (0, 5, t', s', d') ∧ (nfr A : Int) < cost fs) ∨ ∃ i, r = (i, 0, t', s', d') ∧ TV A' i fs ∧ (nfr A : Int) ≤ nfr A' + cost fs)
theorem store_ok {g : Graph} {fs : List File} (hn : 100010 ≤ n) (h : LT t s d A root) (hl : Law fs) : Ok (m212 n g t s d fs) (SRes root d A fs) := by
  have hnum := hl.num
  have hcr := cost_rng hl
  have hfA := h.st.freeE
  have hd1 : 1 ≤ (dirsL fs).length := List.length_pos_of_mem (dirsL_mem.2 (.inl rfl))
  unfold m212
  refine Ok_mk (by omega) (by omega) (by omega) (Ok_flow ?_)
  unfold m212_w1
  refine Ok_it5 (fun (c : Int) (z : List Entry) (z1 : Trees) (z2 : Store) (z3 : Dev) => ∃ A1 es f1 f2, fs = f1 ++ f2 ∧ c = f1.length ∧ z = es ++ List.replicate f2.length Entry.zero ∧ es.length = f1.length ∧ LT z1 z2 z3 A1 root ∧ Grow (fun q => q = 1 ∨ q = 2) d A z3 A1 ∧ (nfr A : Int) ≤ nfr A1 + c ∧
      (∀ e, e ∈ es → isBl A1 e.id) ∧ es.map (valE A1) = f1) (fun (c : Int) (_ : List Entry) (_ : Trees) (_ : Store) (_ : Dev) => ((fs.length : Int) - c).toNat) ?_ n 0 _ t s d ⟨A, [], [], fs, rfl, rfl, by simp, rfl, h, .refl h.gd, by omega, by simp, rfl⟩ (by show ((fs.length : Int) - 0).toNat < n; omega)
  rintro Q lp c z z1 z2 z3 hQ ⟨A1, es, f1, f2, rfl, rfl, rfl, i3, i4, i5, i6, i7, i8⟩ ih
  have hln : ((f1 ++ f2).length : Int) = f1.length + f2.length := by simp
  have hcost : cost (f1 ++ f2) = f1.length + f2.length + (dirsL (f1 ++ f2)).length := by unfold cost; rw [hln]
  cases f2 with
  | nil =>
    refine Ok_ite (fun hc => by simp at hc) (fun _ => Ok.some' (hQ _ ?_))
    simp only [List.append_nil, List.length_nil, List.replicate_zero] at hl hnum hcr hcost hln ⊢
    have hes : es.map Entry.toF = f1.map fun f => { f with data := [] } := by
      rw [← i8, List.map_map]; rfl
    have hle : Law (es.map Entry.toF) := by
      rw [hes]
      refine ⟨by simpa using hnum, ?_, ?_, ?_, ?_, ?_⟩
      · intro f hf; obtain ⟨a, ha, rfl⟩ := List.mem_map.1 hf; exact hl.good a ha
      · intro f hf; obtain ⟨a, ha, rfl⟩ := List.mem_map.1 hf; exact hl.mode a ha
      · intro f hf; obtain ⟨a, ha, rfl⟩ := List.mem_map.1 hf; simp
      · rw [List.pairwise_map]; exact hl.srt
      · rw [List.pairwise_map]; exact hl.ncl
    refine Ok_ob5 (Ok.mono (writeTree_ok hn i4 hle i7) (fun r hr => Ok.some' ?_))
    obtain ⟨t', s', d', A', Qs, b1, b2, b3, b4⟩ := hr
    have hpath : f1 = es.map (valE A1) := i8.symm
    have hQl : Qs.length ≤ (dirsL f1).length := by
      refine nodup_sub_le b3.nd (fun q hq => dirsL_mem.2 ?_)
      rcases (b3.mem q hq).2 with e | ⟨e, he, hde⟩
      · exact .inl e
      · refine .inr ⟨valE A1 e, ?_, hde⟩
        rw [hpath]; exact List.mem_map_of_mem he
    refine ⟨t', s', d', A', b1, i5.trans hfA (b2.mono fun k hk => .inr hk), ?_⟩
    rcases b4 with ⟨rfl, b4⟩ | ⟨i, rfl, b4, b5, b6⟩
    · exact .inl ⟨rfl, by omega⟩
    · refine .inr ⟨i, rfl, ⟨b4.tr, ?_⟩, by omega⟩
      rw [b5, List.map_map]
      conv => lhs; rw [hpath]
      refine List.map_congr_left fun e he => ?_
      have hbe := i7 e he
      show valE A1 e = valE A' (e.strip 0)
      unfold valE Entry.strip
      simp only [List.drop_zero]
      rw [b2.ext.live hbe.1 hbe.2.1 (Ob.lv_ne hbe.2.2.1)]
  | cons f r =>
    rw [List.length_cons] at hln hcost
    have hfm : f ∈ f1 ++ f :: r := by simp
    have hget : ∀ x, (f1 ++ f :: r)[(f1.length : Int).toNat]? = some x → x = f := by
      intro x hx; rw [Int.toNat_natCast, List.getElem?_append_right (Nat.le_refl _)] at hx; simpa using hx.symm
    have hsz := hl.size f hfm
    refine Ok_ite (fun hc => ?_) (fun hc => by omega)
    refine Ok_ix (by omega) hc (fun x hx => ?_)
    obtain rfl := hget x hx
    refine Ok_apds (by simp) (by omega) ?_
    refine Ok_ob5 (Ok.mono (tput_ok (k := 1) (x := [] ++ x.data) (by omega) i4 (by omega) (by omega) (by omega) (by simpa using hsz)) (fun r' hr' => ?_))
    rcases hr' with ⟨f0, rfl⟩ | ⟨i, t', s', d', A', rfl, b1, b2, b3, b4, b5, b6, b7, b8, b9⟩
    · refine Ok_ite (fun _ => Ok_bs (Ok.some' (hQ _ (Ok.some' ⟨z1, z2, z3, A1, i4, i5, .inl ⟨rfl, by omega⟩⟩)))) (fun e => absurd (show ¬ ((5 : Int) = 0) by decide) e)
    · refine Ok_ite (fun e => absurd rfl e) (fun _ => ?_)
      refine Ok_ix (by omega) hc (fun x2 hx2 => ?_)
      obtain rfl := hget x2 hx2
      refine Ok_ix (by omega) hc (fun x3 hx3 => ?_)
      obtain rfl := hget x3 hx3
      refine Ok_ck (by omega) (by simp; omega) (Ok_st (by omega) (by simp; omega) ?_)
      rw [wi_e (by omega) (by omega)]
      refine ih _ _ _ _ _ ⟨A', es ++ [{ path := x3.path, id := i, mode := x3.mode }], f1 ++ [x3], r, by simp, by simp, ?_, by simp [i3], b1, i5.trans hfA (b2.mono fun k hk => .inl hk), by omega, ?_, ?_⟩ (by omega)
      · rw [Int.toNat_natCast, List.set_append_right _ _ (by omega), i3, Nat.sub_self]
        simp [List.replicate_succ]
      · intro e he
        rcases List.mem_append.1 he with he | he
        · exact b2.ext.isBl (i7 e he)
        · rw [List.mem_singleton.1 he]; exact ⟨b4, b5, b6, b7⟩
      · rw [List.map_append]
        congr 1
        · conv => rhs; rw [← i8]
          refine List.map_congr_left fun e he => ?_
          have hbe := i7 e he
          unfold valE
          rw [b2.ext.live hbe.1 hbe.2.1 (Ob.lv_ne hbe.2.2.1)]
        · show [valE A' _] = [x3]
          unfold valE
          simp only [b8, List.nil_append]
theorem snapshot_ok {g : Graph} {i : Int} {fs : List File} (hn : 100010 ≤ n) (h : LT t s d A root) (hi : TV A i fs) : m221 n g t s d i = some fs := by
  refine Ok.eq ?_
  unfold m221
  refine Ok_cl2 (readTree_ok (by omega) h hi.1) (Ok_ob2 ?_)
  have hlen := h.len i hi.1
  rw [hi.2]
  generalize hE : flatE A 6 i = E at hlen
  have hbl : ∀ e, e ∈ E → isBl A e.id := fun e he => flatE_bl h.ts (h.ts.ht i hi.1) (hE ▸ he)
  unfold m221_w1
  refine Ok_it2 (fun (z : List File) (c : Int) => 0 ≤ c ∧ c ≤ E.length ∧ z = (E.take c.toNat).map (valE A)) (fun _ (c : Int) => ((E.length : Int) - c).toNat) ?_ n [] 0 ⟨by omega, by omega, by simp⟩ (by show ((E.length : Int) - 0).toNat < n; omega)
  rintro Q lp z c hQ ⟨i0, i1, rfl⟩ ih
  refine Ok_ite (fun hc => Ok_ix (by omega) hc (fun x hx => ?_)) (fun hc => ?_)
  · have hb := hbl x (List.mem_of_getElem? hx)
    have hg := tget_ok (n := n) (by omega) h x.id
    rw [if_neg (fun e => by have h1 := e.2.2.2; have h2 := hb.2.2.2; omega), if_pos ⟨hb.1, hb.2.1, hb.2.2.1⟩] at hg
    refine Ok_cl3 hg (Ok_ix (by omega) hc (fun x2 hx2 => ?_))
    obtain rfl : x = x2 := Option.some.inj (hx.symm.trans hx2)
    refine Ok_ix (by omega) hc (fun x3 hx3 => ?_)
    obtain rfl : x = x3 := Option.some.inj (hx.symm.trans hx3)
    refine Ok_apd (by rw [List.length_map, List.length_take]; omega) ?_
    rw [wi_e (by omega) (by omega)]
    refine ih _ _ ⟨by omega, by omega, ?_⟩ (by omega)
    rw [show (c + 1).toNat = c.toNat + 1 by omega, List.take_add_one, hx, List.map_append]; rfl
  · obtain rfl : c = E.length := by omega
    refine Ok.some' (hQ _ (Ok.some' ?_))
    rw [Int.toNat_natCast, List.take_length]
end
end Go.Proofs.Qxb6500350aGreat
