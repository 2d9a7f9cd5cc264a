/- PLAIN LAW: READING TREES: FLAT, READTREE, GET, MEMBERS. -/
import Derived.Test.Qxb6500350aGreatK22
import Derived.Test.Qxb6500350aGreatT306
import Derived.Test.Qxb6500350aGreatT279
import Derived.Test.Qxb6500350aGreatT219
import Derived.Test.Qxb6500350aGreatT284
import Derived.Test.Qxb6500350aGreatT312
set_option linter.unusedVariables false
set_option linter.unusedSimpArgs false
set_option maxHeartbeats 1000000
namespace Go.Proofs.Qxb6500350aGreat
open Go.Eng Go
/-- the state of device, object store and tree layer -/
structure LT (t : Trees) (s : Store) (d : Dev) (A : Int → Ob) (root : Int) : Prop where
  gd : d.Good
  st : Sto s d.B A root
  tr : Tre t A (Rw A)
  ts : TreS A
  len : ∀ j, isTr A j → (flatE A 6 j).length ≤ 8
  wr : d.at_.length + 3 * nfr A < 800000
section
variable {n : Nat} {t : Trees} {s : Store} {d : Dev} {A : Int → Ob} {root : Int}
theorem LT.kind (h : LT t s d A root) {i : Int} (h0 : 0 ≤ i) (h1 : i ≤ 48) : t.kind i = kindOf A i := h.tr.kd i h0 h1
theorem kindOf_2 (h : LT t s d A root) {i : Int} (h0 : 1 ≤ i) (h1 : i ≤ 48) : t.kind i = 2 ↔ isTr A i := by
  rw [h.kind (by omega) h1]
  unfold kindOf isTr
  by_cases hl : (A i).lv
  · rw [if_pos ⟨h0, h1, hl⟩]; exact ⟨fun e => ⟨h0, h1, hl, e⟩, fun e => e.2.2.2⟩
  · rw [if_neg (fun e => hl e.2.2)]; exact ⟨fun e => absurd e (by decide), fun e => absurd e.2.2.1 hl⟩
theorem kindOf_1 (h : LT t s d A root) {i : Int} (h0 : 1 ≤ i) (h1 : i ≤ 48) : t.kind i = 1 ↔ isBl A i := by
  rw [h.kind (by omega) h1]
  unfold kindOf isBl
  by_cases hl : (A i).lv
  · rw [if_pos ⟨h0, h1, hl⟩]; exact ⟨fun e => ⟨h0, h1, hl, e⟩, fun e => e.2.2.2⟩
  · rw [if_neg (fun e => hl e.2.2)]; exact ⟨fun e => absurd e (by decide), fun e => absurd e.2.2.1 hl⟩
theorem LT.live0 (h : LT t s d A root) {i : Int} (h0 : 1 ≤ i) (h1 : i ≤ 48) : t.kind i = 0 ↔ ¬ (A i).lv := by
  rw [h.kind (by omega) h1]
  unfold kindOf
  by_cases hl : (A i).lv
  · rw [if_pos ⟨h0, h1, hl⟩]
    have := (h.st.ent i h0 h1).nf (Ob.lv_ne hl)
    exact ⟨fun e => by omega, fun e => absurd hl e⟩
  · rw [if_neg (fun e => hl e.2.2)]; exact ⟨fun _ => hl, fun _ => rfl⟩
theorem LT.tlive (h : LT t s d A root) (i : Int) : m277 n t i = some (decide (1 ≤ i ∧ i ≤ 48 ∧ (A i).lv)) := by
  rw [tlive_ok]
  congr 1
  refine decide_eq_decide.2 ⟨fun e => ⟨e.1, e.2.1, ?_⟩, fun e => ⟨e.1, e.2.1, fun e2 => (h.live0 e.1 e.2.1).1 e2 e.2.2⟩⟩
  exact Classical.not_not.1 (fun e2 => e.2.2 ((h.live0 e.1 e.2.1).2 e2))
/-- Get -/
theorem tget_ok (hn : 100000 ≤ n) (h : LT t s d A root) (i : Int) : m219 n t s d i = some (if isTr A i then (2, [], 0) else if 1 ≤ i ∧ i ≤ 48 ∧ (A i).lv then ((A i).kind, (A i).data, 0) else (0, [], 6)) := by
  refine Ok.eq ?_
  unfold m219
  refine Ok_cl1 (h.tlive i) ?_
  by_cases hl : 1 ≤ i ∧ i ≤ 48 ∧ (A i).lv
  · rw [decide_eq_true hl]
    refine Ok_iteN (fun e => nomatch e) (fun _ => Ok_ck (by omega) (by omega) (Ok_ite (fun hk => ?_) (fun hk => ?_)))
    · rw [if_pos ((kindOf_2 h hl.1 hl.2.1).1 hk)]; exact Ok.some' rfl
    · rw [if_neg (fun e => hk ((kindOf_2 h hl.1 hl.2.1).2 e)), if_pos hl]
      have hg := get_ok hn h.gd.toWf h.st i
      rw [if_pos hl] at hg
      exact Ok_cl3 hg (Ok.some' rfl)
  · rw [decide_eq_false hl, if_neg (fun e => hl ⟨e.1, e.2.1, e.2.2.1⟩), if_neg hl]
    exact Ok_iteN (fun _ => Ok.some' rfl) (fun e => nomatch e)
theorem gtree (hn : 100000 ≤ n) (h : LT t s d A root) {i : Int} (hi : isTr A i) : m194 n s d i = some (2, (Rw A i).flatMap encL, 0) ∧ m195 n ((Rw A i).flatMap encL) = some (Rw A i) ∧ ((Rw A i).flatMap encL).length ≤ 180 ∧ (Rw A i).length ≤ 180 := by
  have hg := get_ok hn h.gd.toWf h.st i
  rw [if_pos ⟨hi.1, hi.2.1, hi.2.2.1⟩, hi.2.2.2, h.ts.dat i hi] at hg
  have hl := h.st.dlen i hi.1 hi.2.1
  rw [h.ts.dat i hi] at hl
  have := rows_len (Rw A i)
  exact ⟨hg, rows_ok hn (fun r hr => h.ts.ok i r hi hr) (by omega), hl, by omega⟩
theorem m306_s {n : Nat} {id depth : Int} {pre : Str} {out : List Entry} : m306 (n + 1) t s d id pre depth out = cond (decide (depth ≤ 0)) (some out) (ob3 (m194 n s d id) fun c1 l1 c2 =>
    ob1 (m195 n l1) fun l2 => ob2 (m306_w1 n t s d id pre depth l2 (m306 n) n out 0) fun l4 c4 => some l4) := rfl
/-- what a row lists -/
def rowE (A : Int → Ob) (k : Nat) (r : Line) : List Entry := if r.dir then (flatE A k r.id).map (Entry.pre (r.name ++ [47])) else [{ path := r.name, id := r.id, mode := r.mode }]
theorem flatE_s (A : Int → Ob) (k : Nat) (i : Int) : flatE A (k + 1) i = (Rw A i).flatMap (rowE A k) := rfl
theorem flatMap_take_le {α β : Type} {f : α → List β} : ∀ (l : List α) (c : Nat), ((l.take c).flatMap f).length ≤ (l.flatMap f).length
  | [], c => by simp
  | a :: l, 0 => by simp
  | a :: l, c + 1 => by simp only [List.take_succ_cons, List.flatMap_cons, List.length_append]; have := flatMap_take_le (f := f) l c; omega
theorem flatMap_take_succ {α β : Type} {f : α → List β} {l : List α} {c : Nat} {a : α} (h : l[c]? = some a) : (l.take (c + 1)).flatMap f = (l.take c).flatMap f ++ f a := by
  rw [List.take_add_one, h, List.flatMap_append]; simp
theorem flat_ok (h : LT t s d A root) : ∀ (k : Nat) {n : Nat} {i : Int} {pre : Str} {out : List Entry}, 100000 + k ≤ n → Ht A k i → pre.length + 200 * k ≤ 1000000 → out.length + (flatE A k i).length ≤ 1000000 →
    m306 n t s d i pre k out = some (out ++ (flatE A k i).map (Entry.pre pre))
  | 0, n, i, pre, out, hn, hh, _, _ => hh.elim
  | k + 1, n + 1, i, pre, out, hn, hh, hp, ho => by
    refine Ok.eq ?_
    rw [m306_s]
    refine Ok_ite (fun e => absurd e (by omega)) (fun _ => ?_)
    obtain ⟨g1, g2, g3, g4⟩ := gtree (n := n) (by omega) h hh.1
    refine Ok_cl3 g1 (Ok_cl1 g2 (Ok_ob2 ?_))
    unfold m306_w1
    rw [flatE_s] at ho ⊢
    refine Ok_it2 (fun (l : List Entry) (c : Int) => 0 ≤ c ∧ c ≤ (Rw A i).length ∧ l = out ++ (((Rw A i).take c.toNat).flatMap (rowE A k)).map (Entry.pre pre)) (fun _ (c : Int) => ((Rw A i).length - c).toNat) ?_ n out 0 ⟨by omega, by omega, by simp⟩ (by show (((Rw A i).length : Int) - 0).toNat < n; omega)
    rintro Q lp l c hQ ⟨i0, i1, rfl⟩ ih
    refine Ok_ite (fun hc => ?_) (fun hc => ?_)
    · refine Ok_ix (by omega) (by omega) (fun r hr => ?_)
      have hrm := List.mem_of_getElem? hr
      have hrn := (h.ts.ok i r hh.1 hrm).n1
      have hsucc := flatMap_take_succ (f := rowE A k) hr
      have hle := flatMap_take_le (f := rowE A k) (Rw A i) (c.toNat + 1)
      rw [hsucc, List.length_append] at hle
      have next : ∀ l', l' = out ++ (((Rw A i).take (c + 1).toNat).flatMap (rowE A k)).map (Entry.pre pre) → Ok (lp l' (wi (c + 1))) Q := by
        intro l' hl'
        simp (disch := omega) only [wi_of]
        exact ih _ _ ⟨by omega, by omega, hl'⟩ (by omega)
      refine Ok_cond (fun hd => ?_) (fun hd => ?_)
      · refine Ok_ix (by omega) (by omega) (fun r2 hr2 => ?_)
        obtain rfl : r = r2 := Option.some.inj (hr.symm.trans hr2)
        refine Ok_ix (by omega) (by omega) (fun r3 hr3 => ?_)
        obtain rfl : r = r3 := Option.some.inj (hr.symm.trans hr3)
        refine Ok_sAdd (by omega) (Ok_sAdd (by simp; omega) ?_)
        have hrow : rowE A k r = (flatE A k r.id).map (Entry.pre (r.name ++ [47])) := by unfold rowE; rw [if_pos hd]
        rw [hrow, List.length_map] at hle
        have hw : wi (((k + 1 : Nat) : Int) - 1) = (k : Int) := by simp (disch := omega) only [wi_of]; omega
        rw [hw]
        refine Ok_cl1 (flat_ok h k (by omega) (hh.2 r hrm hd) (by simp; omega) (by rw [List.length_append, List.length_map]; omega)) (next _ ?_)
        rw [show (c + 1).toNat = c.toNat + 1 by omega, hsucc, List.map_append, hrow, List.append_assoc]
        congr 2
        rw [List.map_map]
        refine List.map_congr_left fun e _ => ?_
        show _ = Entry.pre pre (Entry.pre (r.name ++ [47]) e)
        rw [Entry.pre_pre, List.append_assoc]
      · refine Ok_ix (by omega) (by omega) (fun r2 hr2 => ?_)
        obtain rfl : r = r2 := Option.some.inj (hr.symm.trans hr2)
        refine Ok_sAdd (by omega) (Ok_ix (by omega) (by omega) (fun r3 hr3 => ?_))
        obtain rfl : r = r3 := Option.some.inj (hr.symm.trans hr3)
        refine Ok_ix (by omega) (by omega) (fun r4 hr4 => ?_)
        obtain rfl : r = r4 := Option.some.inj (hr.symm.trans hr4)
        have hrow : rowE A k r = [{ path := r.name, id := r.id, mode := r.mode }] := by unfold rowE; rw [hd]; rfl
        rw [hrow] at hle
        refine Ok_apd (by rw [List.length_append, List.length_map]; rw [List.length_singleton] at hle; omega) (next _ ?_)
        rw [show (c + 1).toNat = c.toNat + 1 by omega, hsucc, List.map_append, hrow, List.append_assoc]
        rfl
    · obtain rfl : c = (Rw A i).length := by omega
      refine Ok.some' (hQ _ (Ok.some' ?_))
      rw [Int.toNat_natCast, List.take_length]
/-- ReadTree of a live tree -/
theorem readTree_ok (hn : 100006 ≤ n) (h : LT t s d A root) {i : Int} (hi : isTr A i) : m279 n t s d i = some (flatE A 6 i, 0) := by
  refine Ok.eq ?_
  unfold m279
  refine Ok_cl1 (isTree_ok hi.1 hi.2.1 ((kindOf_2 h hi.1 hi.2.1).2 hi)) (Ok_ite (fun e => absurd rfl e) (fun _ => ?_))
  have hl := h.len i hi
  have hf := flat_ok h 6 (n := n) (pre := []) (out := []) (by omega) (h.ts.ht i hi) (by simp) (by simp; omega)
  refine Ok_cl1 hf (Ok.some' ?_)
  have : (flatE A 6 i).map (Entry.pre []) = flatE A 6 i := by rw [show Entry.pre [] = id from funext Entry.pre_nil]; simp
  rw [this]; rfl
end
end Go.Proofs.Qxb6500350aGreat
