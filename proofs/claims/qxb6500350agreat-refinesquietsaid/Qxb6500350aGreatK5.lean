/- PLAIN LAW: THE OBJECT STORE, ITS STATE; PACK, PICK, LOWESTFREE, FIND. -/
import Derived.Test.Qxb6500350aGreatK4
import Derived.Test.Qxb6500350aGreatT299
import Derived.Test.Qxb6500350aGreatT300
import Derived.Test.Qxb6500350aGreatT298
import Derived.Test.Qxb6500350aGreatT190
set_option linter.unusedVariables false
set_option linter.unusedSimpArgs false
set_option maxHeartbeats 1000000
namespace Go.Proofs.Qxb6500350aGreat
open Go.Eng Go
theorem chunkN_get : ∀ (k : Nat) (x : List UInt8) (j : Nat), j < k → (chunkN k x)[j]? = some ((x.drop (60 * j)).take 60)
  | 0, _, _, h => absurd h (Nat.not_lt_zero _)
  | k + 1, x, 0, _ => by simp [chunkN]
  | k + 1, x, j + 1, h => by
    simp only [chunkN, List.getElem?_cons_succ]
    rw [chunkN_get k _ j (by omega), List.drop_drop]
    congr 3; omega
theorem pack_ok {n : Nat} {k f from_ : Int} {x : List UInt8} (hn : 100000 ≤ n) (h0 : 0 ≤ from_) (h1 : from_ ≤ x.length) (hx : x.length ≤ 1000) :
    m301 n k f x from_ = some (packB k f ((x.drop from_.toNat).take 60)) := by
  refine Ok.eq ?_
  generalize hc : (x.drop from_.toNat).take 60 = c
  have hcl : (c.length : Int) = if (60 : Int) < x.length - from_ then 60 else x.length - from_ := by
    rw [← hc, List.length_take, List.length_drop]
    split <;> omega
  have hcb : c.length ≤ 60 := by omega
  have hcg : ∀ j : Nat, j < c.length → x[from_.toNat + j]? = c[j]? := by
    intro j hj
    rw [← hc, List.getElem?_take, if_pos (by omega), List.getElem?_drop]
  unfold m301
  refine Ok_mk (by omega) (by omega) (by omega) ?_
  simp (disch := omega) only [wi_of]
  have hif : (cond (decide ((60 : Int) < x.length - from_)) (some (60 : Int)) (some (x.length - from_))) = some (c.length : Int) := by
    rw [hcl]; by_cases h : (60 : Int) < x.length - from_ <;> simp [h]
  refine Ok_cl1 hif ?_
  refine Ok_ck (by omega) (by simp) (Ok_st (by omega) (by simp) (Ok_ck (by omega) (by simp) (Ok_st (by omega) (by simp) (Ok_ck (by omega) (by simp) (Ok_st (by omega) (by simp) (Ok_ob2 ?_))))))
  unfold m301_w1
  refine Ok_it2 (fun (j : Int) (l : List UInt8) => 0 ≤ j ∧ j ≤ c.length ∧ l = u8 k :: u8 f :: u8 c.length :: 0 :: (c.take j.toNat ++ List.replicate (60 - j.toNat) 0)) (fun (j : Int) _ => (60 - j).toNat) ?_ n 0 _ ⟨by omega, by omega, rfl⟩ (by show (60 - 0 : Int).toNat < n; omega)
  rintro Q lp j l hQ ⟨i0, i1, rfl⟩ ih
  refine Ok_ite (fun hj => ?_) (fun hj => ?_)
  · simp (disch := omega) only [wi_of]
    refine Ok_ix (by omega) (by omega) (fun y hy => ?_)
    have hy : c[j.toNat]? = some y := by rw [← hy, ← hcg _ (by omega)]; congr 1; omega
    refine Ok_ck (by omega) (by simp; omega) (Ok_st (by omega) (by simp; omega) ?_)
    refine ih _ _ ⟨by omega, by omega, ?_⟩ (by omega)
    rw [show (4 + j).toNat = j.toNat + 1 + 1 + 1 + 1 by omega]
    simp only [List.set_cons_succ]
    congr 4
    rw [List.set_append_right _ _ (by simp; omega), show (j + 1).toNat = j.toNat + 1 by omega, List.take_add_one, hy, List.append_assoc]
    congr 1
    rw [show 60 - j.toNat = (60 - (j.toNat + 1)) + 1 by omega, List.replicate_succ, show j.toNat - (c.take j.toNat).length = 0 by simp; omega]
    rfl
  · obtain rfl : j = c.length := by omega
    refine Ok.some' (hQ _ (Ok.some' ?_))
    show _ :: _ :: _ :: _ :: _ = packB k f c
    unfold packB
    simp

structure Ob where
  st : Int
  kind : Int
  data : List UInt8
  bl : List Int
def Ob.free : Ob := ⟨0, 0, [], []⟩
/-- live -/
abbrev Ob.lv (o : Ob) : Prop := o.st = 1 ∨ o.st = 2
structure EntOk (D : Int → List UInt8) (e : Entr) (o : Ob) : Prop where
  st : e.state = o.st
  fr : o.st = 0 → e = Entr.zero ∧ o = Ob.free
  nf : o.st ≠ 0 → 1 ≤ o.st ∧ o.st ≤ 3 ∧ 1 ≤ o.kind ∧ o.kind ≤ 4 ∧ o.data.length ≤ 180 ∧ e.kind = o.kind ∧ e.size = o.data.length ∧ e.hash = hashV o.kind o.data ∧ Chn D o.kind e.first (chunks o.data) o.bl ∧ o.bl.Nodup
def ids : List Int := (List.range 48).map fun (k : Nat) => (k : Int) + 1
theorem mem_ids {i : Int} : i ∈ ids ↔ 1 ≤ i ∧ i ≤ 48 := by
  simp only [ids, List.mem_map, List.mem_range]
  constructor
  · rintro ⟨k, hk, rfl⟩; omega
  · rintro ⟨h1, h2⟩; exact ⟨(i - 1).toNat, by omega, by omega⟩
/-- the blocks in use -/
def usedB (A : Int → Ob) (b : Int) : Bool := ids.any fun i => (A i).bl.contains b
theorem usedB_iff {A : Int → Ob} {b : Int} : usedB A b = true ↔ ∃ i, 1 ≤ i ∧ i ≤ 48 ∧ b ∈ (A i).bl := by
  simp only [usedB, List.any_eq_true, List.contains_iff_mem]
  constructor
  · rintro ⟨i, h1, h2⟩; have := mem_ids.1 h1; exact ⟨i, this.1, this.2, h2⟩
  · rintro ⟨i, h1, h2, h3⟩; exact ⟨i, mem_ids.2 ⟨h1, h2⟩, h3⟩
def nfr (A : Int → Ob) : Nat := (ids.filter fun i => decide ((A i).st = 0)).length
/-- a row of ids in a bucket -/
def Hng (tab : Int → Entr) : Int → List Int → Prop
  | b, [] => b = 0
  | b, i :: r => b = i ∧ 1 ≤ i ∧ i ≤ 48 ∧ Hng tab (tab i).nxt r
def supB (A : Int → Ob) (root : Int) : List UInt8 := u8 root :: (List.range 63).map fun (k : Nat) => if k < 48 ∧ ((A (k + 1)).st = 2 ∨ (A (k + 1)).st = 3) then u8 ((A (k + 1)).bl.headD 0) else 0
structure Sto (s : Store) (D : Int → List UInt8) (A : Int → Ob) (root : Int) : Prop where
  ent : ∀ i : Int, 1 ≤ i → i ≤ 48 → EntOk D (s.tab i) (A i)
  dis : ∀ i j b, 1 ≤ i → i ≤ 48 → 1 ≤ j → j ≤ 48 → b ∈ (A i).bl → b ∈ (A j).bl → i = j
  um : Marks s.used (usedB A)
  rd : s.root = root
  sup : D 0 = supB A root
  rt : root = 0 ∨ (1 ≤ root ∧ root ≤ 48 ∧ ((A root).st = 2 ∨ (A root).st = 3))
  nf : s.nfree = nfr A
  hg : ∃ L : Int → List Int, ∀ b, 0 ≤ b → b < 8 → Hng s.tab (s.heads b) (L b) ∧ (L b).Nodup ∧ ∀ i, i ∈ L b ↔ (1 ≤ i ∧ i ≤ 48 ∧ (A i).lv ∧ hashV (A i).kind (A i).data % 8 = b)
  tw : ∀ i j, 1 ≤ i → i ≤ 48 → 1 ≤ j → j ≤ 48 → (A i).lv → (A j).lv → (A i).kind = (A j).kind → (A i).data = (A j).data → i = j
theorem EntOk.first {D : Int → List UInt8} {e : Entr} {o : Ob} (h : EntOk D e o) (hs : o.st ≠ 0) : e.first = o.bl.headD 0 ∧ 1 ≤ e.first ∧ e.first < 145 := by
  obtain ⟨h1, h2, h3, h4, h5, h6, h7, h8, h9, h10⟩ := h.nf hs
  unfold chunks at h9
  have hp := nbk_pos o.data.length
  cases hk : nbk o.data.length with
  | zero => omega
  | succ k =>
    rw [hk] at h9
    obtain ⟨f, bl', e1, e2, e3, e4, e5, e6⟩ := h9
    rw [e1]; exact ⟨rfl, e2, e3⟩

section
variable {n : Nat} {s : Store} {d : Dev} {A : Int → Ob} {root : Int}
theorem live_ok {D : Int → List UInt8} (h : Sto s D A root) (i : Int) : m190 n s i = some (decide (1 ≤ i ∧ i ≤ 48 ∧ (A i).lv)) := by
  refine Ok.eq ?_
  unfold m190
  refine Ok_iteO (fun hc => Ok.some' ?_) (fun h1 h2 => ?_)
  · exact (decide_eq_false (by omega)).symm
  · refine Ok_ob1 (Ok_ck (by omega) (by omega) ?_)
    have he := (h.ent i (by omega) (by omega)).st
    rw [he]
    refine Ok_ite (fun h3 => Ok.some' (Ok.some' ?_)) (fun h3 => Ok_ck (by omega) (by omega) (Ok.some' (Ok.some' ?_)))
    · exact (decide_eq_true ⟨by omega, by omega, .inl h3⟩).symm
    · by_cases h4 : (A i).st = 2
      · simp only [h4, decide_true]; exact (decide_eq_true ⟨by omega, by omega, .inr h4⟩).symm
      · simp only [h4, decide_false]; exact (decide_eq_false (by rintro ⟨_, _, h5 | h5⟩; exact h3 h5; exact h4 h5)).symm
theorem lowestFree_ok {D : Int → List UInt8} (hn : 100000 ≤ n) (h : Sto s D A root) : Ok (m299 n s) (fun i => (i = 0 ∧ ∀ j, 1 ≤ j → j ≤ 48 → (A j).st ≠ 0) ∨ (1 ≤ i ∧ i ≤ 48 ∧ (A i).st = 0 ∧ ∀ j, 1 ≤ j → j < i → (A j).st ≠ 0)) := by
  unfold m299
  refine Ok_flow ?_
  unfold m299_w1
  refine Ok_it1 (fun (i : Int) => 1 ≤ i ∧ i ≤ 49 ∧ ∀ j, 1 ≤ j → j < i → (A j).st ≠ 0) (fun (i : Int) => (49 - i).toNat) ?_ n 1 ⟨by omega, by omega, fun j h1 h2 => by omega⟩ (by show (49 - 1 : Int).toNat < n; omega)
  rintro Q lp i hQ ⟨i0, i1, i2⟩ ih
  refine Ok_ite (fun hi => ?_) (fun hi => ?_)
  · refine Ok_ck (by omega) (by omega) ?_
    have he := (h.ent i (by omega) (by omega)).st
    rw [he]
    refine Ok_ite (fun h0 => ?_) (fun h0 => ?_)
    · exact Ok_bs (Ok.some' (hQ _ (Ok.some' (.inr ⟨by omega, by omega, h0, i2⟩))))
    · simp (disch := omega) only [wi_of]
      refine ih _ ⟨by omega, by omega, fun j h1 h2 => ?_⟩ (by omega)
      rcases Classical.em (j = i) with rfl | hne
      · exact h0
      · exact i2 j h1 (by omega)
  · exact Ok.some' (hQ _ (Ok.some' (.inl ⟨rfl, fun j h1 h2 => i2 j h1 (by omega)⟩)))
theorem nodup_sub_le {α : Type} [DecidableEq α] : ∀ {R U : List α}, R.Nodup → (∀ x, x ∈ R → x ∈ U) → R.length ≤ U.length
  | [], U, _, _ => Nat.zero_le _
  | a :: R, U, h, hs => by
    have ha := hs a (by simp)
    have h2 := nodup_sub_le (R := R) (U := U.erase a) (List.nodup_cons.1 h).2 (fun x hx => (List.mem_erase_of_ne (fun e => (List.nodup_cons.1 h).1 (by rw [← e]; exact hx))).2 (hs x (List.mem_cons_of_mem _ hx)))
    rw [List.length_erase_of_mem ha] at h2
    have := List.length_pos_of_mem ha
    simp; omega
theorem pick_ok {k : Int} (hn : 100000 ≤ n) (h : Marks s.used (usedB A)) (hk0 : 1 ≤ k) (hk : k ≤ 3) : Ok (m300 n s k) (fun r => ∃ P : List Int, r.2 = P.length ∧ (P.length : Int) ≤ k ∧ P.Nodup ∧ (∀ x, x ∈ P → 1 ≤ x ∧ x < 145 ∧ usedB A x = false) ∧
    (∀ i : Nat, i < P.length → some (r.1 i) = P[i]?) ∧ ((P.length : Int) < k → ∀ x, 1 ≤ x → x < 145 → usedB A x = false → x ∈ P)) := by
  unfold m300
  refine Ok_ob3 ?_
  unfold m300_w1
  refine Ok_it3 (fun (g b : Int) (z : Int → Int) => 1 ≤ b ∧ b ≤ 145 ∧ ∃ P : List Int, g = P.length ∧ (P.length : Int) ≤ k ∧ P.Nodup ∧ (∀ x, x ∈ P → 1 ≤ x ∧ x < b ∧ usedB A x = false) ∧
    (∀ i : Nat, i < P.length → some (z i) = P[i]?) ∧ (∀ x, 1 ≤ x → x < b → usedB A x = false → x ∈ P)) (fun _ (b : Int) _ => (145 - b).toNat) ?_ n 0 1 _
    ⟨by omega, by omega, [], rfl, by simp; omega, List.nodup_nil, (fun x hx => by cases hx), (fun i hi => absurd hi (Nat.not_lt_zero _)), fun x h1 h2 => by omega⟩ (by show (145 - 1 : Int).toNat < n; omega)
  rintro Q lp g b z hQ ⟨i0, i1, P, rfl, p1, p2, p3, p4, p5⟩ ih
  refine Ok_ite2 (fun h1 h2 => ?_) (fun hc => ?_)
  · refine Ok_cl1 (isUsed_ok h (by omega) h1) ?_
    refine Ok_iteN (fun hu => ?_) (fun hu => ?_)
    · refine Ok_ck (by omega) (by omega) (Ok_nm ?_)
      simp (disch := omega) only [wi_of]
      refine ih _ _ _ ⟨by omega, by omega, P ++ [b], by simp, by simp; omega, ?_, ?_, ?_, ?_⟩ (by omega)
      · rw [List.nodup_append]
        exact ⟨p2, by simp, fun x hx y hy => by rw [List.mem_singleton.1 hy]; have := (p3 x hx).2.1; omega⟩
      · intro x hx
        rcases List.mem_append.1 hx with hx | hx
        · have := p3 x hx; exact ⟨this.1, by omega, this.2.2⟩
        · rw [List.mem_singleton.1 hx]; exact ⟨by omega, by omega, hu⟩
      · intro i hi
        unfold upI
        by_cases hiP : i < P.length
        · rw [if_neg (by omega), List.getElem?_append_left hiP]; exact p4 i hiP
        · have : i = P.length := by simp at hi; omega
          subst this
          rw [if_pos rfl]; simp
      · intro x h3 h4 h5
        rcases Classical.em (x = b) with rfl | hne
        · simp
        · exact List.mem_append_left _ (p5 x h3 (by omega) h5)
    · simp (disch := omega) only [wi_of]
      refine ih _ _ _ ⟨by omega, by omega, P, rfl, p1, p2, fun x hx => ⟨(p3 x hx).1, by have := (p3 x hx).2.1; omega, (p3 x hx).2.2⟩, p4, fun x h3 h4 h5 => ?_⟩ (by omega)
      rcases Classical.em (x = b) with rfl | hne
      · rw [hu] at h5; cases h5
      · exact p5 x h3 (by omega) h5
  · refine Ok.some' (hQ _ (Ok_nm (Ok.some' ⟨P, rfl, p1, p2, fun x hx => ⟨(p3 x hx).1, by have := (p3 x hx).2.1; omega, (p3 x hx).2.2⟩, p4, fun hlt x h3 h4 h5 => ?_⟩)))
    have hb : b = 145 := by
      rcases Classical.em (b < 145) with h6 | h6
      · exact absurd hlt (hc h6)
      · omega
    exact p5 x h3 (by omega) h5
/-- walking a bucket finds the twin -/
theorem find_ok {k : Int} {x : List UInt8} (hn : 100000 ≤ n) (hw : d.Wf) (h : Sto s d.B A root) (hx : x.length ≤ 180) : Ok (m298 n s d k x (hashV k x)) (fun i => (i = 0 ∧ ∀ j, 1 ≤ j → j ≤ 48 → (A j).lv → ¬ ((A j).kind = k ∧ (A j).data = x)) ∨
    (1 ≤ i ∧ i ≤ 48 ∧ (A i).lv ∧ (A i).kind = k ∧ (A i).data = x)) := by
  obtain ⟨L, hL⟩ := h.hg
  have hr := hashV_rng k x
  unfold m298
  refine Ok_cl1 (bucketOf_ok hr.1 hr.2) (Ok_ck (by omega) (by omega) (Ok_flow ?_))
  obtain ⟨h1, h2, h3⟩ := hL (hashV k x % 8) (by omega) (by omega)
  unfold m298_w1
  have hlen : (L (hashV k x % 8)).length ≤ 48 := by
    have := nodup_sub_le (U := ids) h2 (fun i hi => mem_ids.2 ⟨((h3 i).1 hi).1, ((h3 i).1 hi).2.1⟩)
    simpa [ids] using this
  refine Ok_it2 (fun (c m : Int) => 0 ≤ m ∧ ∃ r : List Int, Hng s.tab c r ∧ (r.length : Int) + m ≤ 48 ∧ (∀ i, i ∈ r → (1 ≤ i ∧ i ≤ 48 ∧ (A i).lv)) ∧
    ∀ j, 1 ≤ j → j ≤ 48 → (A j).lv → (A j).kind = k → (A j).data = x → j ∈ r) (fun _ (m : Int) => (48 - m).toNat) ?_ n (s.heads (hashV k x % 8)) 0 ⟨by omega, _, h1, by omega, fun i hi => ⟨((h3 i).1 hi).1, ((h3 i).1 hi).2.1, ((h3 i).1 hi).2.2.1⟩, fun j j1 j2 j3 j4 j5 => (h3 j).2 ⟨j1, j2, j3, by rw [j4, j5]⟩⟩ (by show (48 - 0 : Int).toNat < n; omega)
  rintro Q lp c m hQ ⟨i0, r, r1, r2, r3, r4⟩ ih
  refine Ok_ite2 (fun hm hc => ?_) (fun hc => ?_)
  · cases r with
    | nil => exact absurd r1 hc
    | cons i r =>
      obtain ⟨rfl, e1, e2, e3⟩ := r1
      have hl := r3 c (by simp)
      have he := h.ent c e1 e2
      obtain ⟨f1, f2, f3, f4, f5, f6, f7, f8, f9, f10⟩ := he.nf (by rcases hl.2.2 with h | h <;> omega)
      refine Ok_ck (by omega) (by omega) (Ok_nm ?_)
      have next : ¬ ((A c).kind = k ∧ (A c).data = x) → Ok (lp (s.tab c).nxt (wi (m + 1))) Q := by
        intro hne
        simp (disch := omega) only [wi_of]
        refine ih _ _ ⟨by omega, r, e3, by simp only [List.length_cons] at r2; omega, fun i hi => r3 i (List.mem_cons_of_mem _ hi), fun j j1 j2 j3 j4 j5 => ?_⟩ (by omega)
        rcases List.mem_cons.1 (r4 j j1 j2 j3 j4 j5) with rfl | hj
        · exact absurd ⟨j4, j5⟩ hne
        · exact hj
      refine Ok_cond (fun ht => ?_) (fun ht => ?_)
      · simp only [Bool.and_eq_true, decide_eq_true_eq, f6, f7, f8] at ht
        obtain ⟨⟨t1, t2⟩, t3⟩ := ht
        refine Ok_cl1 (holds_ok (x := (A c).data) hn hw (by omega) (by omega) (by omega) f5 f9) ?_
        refine Ok_ite (fun hxx => ?_) (fun hxx => ?_)
        · exact Ok_bs (Ok.some' (hQ _ (Ok.some' (.inr ⟨e1, e2, hl.2.2, t1, hxx⟩))))
        · exact next (fun hh => hxx hh.2)
      · refine next ?_
        rintro ⟨t1, t2⟩
        subst t1 t2
        simp [f6, f7, f8] at ht
  · have hr0 : r = [] := by
      cases r with
      | nil => rfl
      | cons i r =>
        obtain ⟨rfl, e1, e2, e3⟩ := r1
        simp only [List.length_cons] at r2
        exact absurd (show c = 0 from Classical.not_not.1 (hc (by omega))) (by omega)
    subst hr0
    exact Ok.some' (hQ _ (Ok.some' (.inl ⟨rfl, fun j j1 j2 j3 j4 => by have := r4 j j1 j2 j3 j4.1 j4.2; cases this⟩)))
end
end Go.Proofs.Qxb6500350aGreat
