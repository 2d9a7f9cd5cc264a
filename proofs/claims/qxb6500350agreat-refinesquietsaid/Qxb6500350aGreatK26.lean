/- PLAIN LAW: THE GROUPING WALK. -/
import Derived.Test.Qxb6500350aGreatK25
import Derived.Test.Qxb6500350aGreatT288
set_option linter.unusedVariables false
set_option linter.unusedSimpArgs false
set_option maxHeartbeats 1000000
namespace Go.Proofs.Qxb6500350aGreat
open Go.Eng Go
/-- a relative path of at most m parts, none empty -/
def Rel : Nat → Str → Prop
  | 0, _ => False
  | m + 1, p => p ≠ [] ∧ ((47 : UInt8) ∉ p ∨ ∃ x q, p = x ++ 47 :: q ∧ x ≠ [] ∧ (47 : UInt8) ∉ x ∧ Rel m q)
theorem Rel.ne {m : Nat} {p : Str} (h : Rel m p) : p ≠ [] := by cases m; exact h.elim; exact h.1
/-- q is a directory on the way to p, with its slash -/
def DirPre (q p : Str) : Prop := ∃ x y, p = x ++ 47 :: y ∧ q = x ++ [47]
theorem DirPre.prefix {q p : Str} (h : DirPre q p) : q <+: p := by obtain ⟨x, y, rfl, rfl⟩ := h; exact ⟨y, by simp⟩
theorem first_slash {x y w : Str} : (47 : UInt8) ∉ x → (47 : UInt8) ∉ y → y ++ [47] <+: x ++ 47 :: w → x = y := by
  revert x
  induction y with
  | nil =>
    intro x hx _ h
    cases x with
    | nil => rfl
    | cons a x => obtain ⟨v, hv⟩ := h; simp at hv; exact absurd (by rw [hv.1]; simp) hx
  | cons b y ih =>
    intro x hx hy h
    cases x with
    | nil => obtain ⟨v, hv⟩ := h; simp at hv; exact absurd (by rw [hv.1]; simp) hy
    | cons a x =>
      obtain ⟨v, hv⟩ := h
      simp only [List.cons_append, List.cons.injEq] at hv
      rw [ih (fun h => hx (List.mem_cons_of_mem _ h)) (fun h => hy (List.mem_cons_of_mem _ h)) ⟨v, hv.2⟩, hv.1]
theorem split_slash {x y w v : Str} (hx : (47 : UInt8) ∉ x) (hy : (47 : UInt8) ∉ y) (h : x ++ 47 :: w = y ++ 47 :: v) : x = y ∧ w = v := by
  have := first_slash hx hy (w := w) ⟨v, by rw [h]; simp⟩
  subst this
  exact ⟨rfl, by simpa using h⟩
theorem slash_rest {n : Nat} {pre q : Str} (hn : 100000 ≤ n) (hl : (pre ++ q).length ≤ 1000) :
    Ok (m314 n (pre ++ q) (pre.length : Int)) (fun r => (r = -1 ∧ (47 : UInt8) ∉ q) ∨ ∃ x w, q = x ++ 47 :: w ∧ (47 : UInt8) ∉ x ∧ r = (pre.length : Int) + x.length) := by
  refine (slashFrom_ok hn (by omega) hl).mono fun r hr => ?_
  have hget : ∀ j : Nat, (pre ++ q)[pre.length + j]? = q[j]? := fun j => by rw [List.getElem?_append_right (by omega)]; congr 1; omega
  rw [List.length_append] at hr hl
  rcases hr with ⟨h1, h2⟩ | ⟨h1, h2, h3, h4⟩
  · refine .inl ⟨h1, fun hm => ?_⟩
    obtain ⟨j, hj, hj2⟩ := List.mem_iff_getElem.1 hm
    refine h2 (pre.length + j) (by omega) (by omega) ?_
    rw [hget, List.getElem?_eq_getElem hj, hj2]
  · obtain ⟨k, hk⟩ : ∃ k : Nat, r = (pre.length : Int) + k := ⟨(r - pre.length).toNat, by omega⟩
    subst hk
    rw [show ((pre.length : Int) + (k : Int)).toNat = pre.length + k by omega, hget] at h3
    have hkl : k < q.length := by
      rw [List.getElem?_eq_some_iff] at h3; exact h3.1
    have hd : q.drop k = 47 :: q.drop (k + 1) := by
      rw [List.drop_eq_getElem_cons hkl]
      congr 1
      rw [List.getElem?_eq_getElem hkl] at h3; exact Option.some.inj h3
    refine .inr ⟨q.take k, q.drop (k + 1), ?_, fun hm => ?_, by rw [List.length_take]; omega⟩
    · rw [← hd, List.take_append_drop]
    · obtain ⟨j, hj, hj2⟩ := List.mem_iff_getElem.1 hm
      rw [List.length_take] at hj
      refine h4 (pre.length + j) (by omega) (by omega) ?_
      rw [hget, List.getElem?_eq_getElem (by omega), ← hj2, List.getElem_take]
def Entry.strip (k : Nat) (e : Entry) : Entry := { e with path := e.path.drop k }
theorem strip_pre {pre q : Str} {e : Entry} (h : e.path = pre ++ q) : e.strip pre.length = { e with path := q } := by unfold Entry.strip; rw [h, List.drop_left' rfl]
/-- what the walk needs of a stretch of rows below pre -/
structure Seg (A : Int → Ob) (m : Nat) (pre : Str) (S : List Entry) : Prop where
  rel : ∀ e, e ∈ S → ∃ q, e.path = pre ++ q ∧ Rel m q
  srt : S.Pairwise fun a b => sLt a.path b.path = true
  blo : ∀ e, e ∈ S → isBl A e.id
  mod : ∀ e, e ∈ S → 0 ≤ e.mode ∧ e.mode ≤ 3
  len : ∀ e, e ∈ S → e.path.length ≤ 12
  num : S.length ≤ 8
theorem Seg.ext {A A' : Int → Ob} {m : Nat} {pre : Str} {S : List Entry} (h : Seg A m pre S) (e : Ext A A') : Seg A' m pre S := ⟨h.rel, h.srt, fun x hx => e.isBl (h.blo x hx), h.mod, h.len, h.num⟩
/-- the directories that a stretch opens, pre itself too -/
structure Dirs (pre : Str) (S : List Entry) (Q : List Str) : Prop where
  nd : Q.Nodup
  mem : ∀ q, q ∈ Q → pre <+: q ∧ (q = pre ∨ ∃ e, e ∈ S ∧ DirPre q e.path)
theorem hp_path {n : Nat} {s p : Str} : m203 n s p = some (p.isPrefixOf s) := hasPrefix_ok
/-- the inner walk: how far the rows open with x/ -/
theorem group_ok {n : Nat} {P T : List Entry} {S : List Entry} {x1 : Entry} {c3 c : Int} {px : Str} (hn : 100000 ≤ n) (hS : S.length ≤ 8) (hpx : (x1.path.take (c3 + 1).toNat) = px) (h0 : 0 ≤ c3) (h1 : c3 + 1 ≤ x1.path.length) (hc3 : c3 ≤ 1000) (hP : P.length ≤ 1000) (hc : c = P.length) :
    Ok (m288_w2 n (P ++ S ++ T) (c + S.length) x1 c3 n c) (fun r => ∃ G S3, S = G ++ S3 ∧ r = c + G.length ∧ (∀ e, e ∈ G → px <+: e.path) ∧ ∀ e S4, S3 = e :: S4 → ¬ px <+: e.path) := by
  subst hc
  unfold m288_w2
  refine Ok_it1 (fun (j : Int) => ∃ G S3, S = G ++ S3 ∧ j = P.length + G.length ∧ ∀ e, e ∈ G → px <+: e.path) (fun (j : Int) => (P.length + S.length - j).toNat) ?_ n _ ⟨[], S, rfl, by simp, fun e he => by cases he⟩ (by show ((P.length : Int) + S.length - P.length).toNat < n; omega)
  rintro Q lp j hQ ⟨G, S3, rfl, rfl, i2⟩ ih
  have hl : ((G ++ S3).length : Int) = G.length + S3.length := by simp
  cases S3 with
  | nil =>
    refine Ok_ob1 (Ok_ite (fun h => by simp at h) (fun _ => Ok.some' ?_))
    exact Ok_cond (fun e => nomatch e) (fun _ => Ok.some' (hQ _ ⟨G, [], rfl, rfl, i2, fun e S4 h => nomatch h⟩))
  | cons e S4 =>
    rw [List.length_cons] at hl
    refine Ok_ob1 (Ok_ite (fun _ => Ok_ix (by omega) (by simp; omega) (fun x hx => ?_)) (fun h => by omega))
    obtain rfl : x = e := by
      rw [show ((P.length : Int) + G.length).toNat = P.length + G.length by omega] at hx
      rw [show P ++ (G ++ e :: S4) ++ T = (P ++ G) ++ (e :: (S4 ++ T)) by simp, List.getElem?_append_right (by simp), List.length_append] at hx
      simpa using hx.symm
    have hw : wi (c3 + 1) = c3 + 1 := wi_of (by omega) (by omega)
    rw [hw]
    refine Ok_sSl (by omega) (by omega) h1 ?_
    rw [hpx]
    show Ok (ob1 (m203 n x.path (px.drop 0)) _) _
    refine Ok_cl1 hasPrefix_ok (Ok.some' ?_)
    refine Ok_cond (fun hb => ?_) (fun hb => ?_)
    · have hb : px <+: x.path := List.isPrefixOf_iff_prefix.1 hb
      have hw : wi ((P.length : Int) + G.length + 1) = (P.length : Int) + G.length + 1 := wi_of (by omega) (by rw [List.length_append] at hS; omega)
      rw [hw]
      refine ih _ ⟨G ++ [x], S4, by simp, by simp; omega, fun y hy => ?_⟩ (by omega)
      rcases List.mem_append.1 hy with h | h
      · exact i2 y h
      · rw [List.mem_singleton.1 h]; exact hb
    · refine Ok.some' (hQ _ ⟨G, x :: S4, rfl, rfl, i2, fun y S5 h => ?_⟩)
      obtain ⟨rfl, rfl⟩ := List.cons.inj h
      intro hp
      have : (List.drop 0 px).isPrefixOf x.path = true := List.isPrefixOf_iff_prefix.2 hp
      rw [this] at hb; cases hb
theorem prefix_app {a b : Str} (x : Str) (h : a <+: b) : x ++ a <+: x ++ b := by obtain ⟨v, rfl⟩ := h; exact ⟨v, by simp⟩
theorem prefix_strip {a b : Str} {x : Str} (h : x ++ a <+: x ++ b) : a <+: b := by obtain ⟨v, hv⟩ := h; exact ⟨v, by rw [List.append_assoc] at hv; exact List.append_cancel_left hv⟩
end Go.Proofs.Qxb6500350aGreat
