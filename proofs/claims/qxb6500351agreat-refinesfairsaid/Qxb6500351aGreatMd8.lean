/- THE PLAIN FUNCTIONS of the packet layer. No Go in sight. -/
import Derived.Test.Qxb6500351aGreatMd7
set_option linter.unusedVariables false
set_option linter.unusedSimpArgs false
namespace Go.Proofs.Qxb6500351aGreat
open Go.Eng
def keyOf (src proto id : Int) : Int := src * 65536 + proto * 256 + id
def Ipt.hit (p : Ipt) (key : Int) (i : Nat) : Prop := (p.tab i).used = true ∧ (p.tab i).key = key
/-- the first i below 3 with P, or -1 -/
structure First (P : Nat → Prop) (r : Int) : Prop where
  some : ∀ k : Nat, k < 3 → P k → (∀ j, j < k → ¬ P j) → r = k
  none : (∀ j, j < 3 → ¬ P j) → r = -1
def Ipt.find (p : Ipt) (key : Int) : Int := if (p.tab 0).used = true ∧ (p.tab 0).key = key then 0 else if (p.tab 1).used = true ∧ (p.tab 1).key = key then 1 else if (p.tab 2).used = true ∧ (p.tab 2).key = key then 2 else -1
def Ipt.vacant (p : Ipt) : Int := if (p.tab 0).used = false then 0 else if (p.tab 1).used = false then 1 else if (p.tab 2).used = false then 2 else -1
theorem Ipt.find_hit {p : Ipt} {key : Int} {k : Nat} (hk : k < 3) (h1 : (p.tab k).used = true) (h2 : (p.tab k).key = key) (h : ∀ j, j < k → ¬ ((p.tab j).used = true ∧ (p.tab j).key = key)) : p.find key = k := by
  have : k = 0 ∨ k = 1 ∨ k = 2 := by omega
  unfold Ipt.find
  rcases this with rfl | rfl | rfl
  · rw [if_pos ⟨h1, h2⟩]; rfl
  · rw [if_neg (h 0 (by omega)), if_pos ⟨h1, h2⟩]; rfl
  · rw [if_neg (h 0 (by omega)), if_neg (h 1 (by omega)), if_pos ⟨h1, h2⟩]; rfl
theorem Ipt.find_no {p : Ipt} {key : Int} (h : ∀ j, j < 3 → ¬ ((p.tab j).used = true ∧ (p.tab j).key = key)) : p.find key = -1 := by
  unfold Ipt.find
  rw [if_neg (h 0 (by omega)), if_neg (h 1 (by omega)), if_neg (h 2 (by omega))]
theorem Ipt.vac_hit {p : Ipt} {k : Nat} (hk : k < 3) (h1 : (p.tab k).used = false) (h : ∀ j, j < k → ¬ (p.tab j).used = false) : p.vacant = k := by
  have : k = 0 ∨ k = 1 ∨ k = 2 := by omega
  unfold Ipt.vacant
  rcases this with rfl | rfl | rfl
  · rw [if_pos h1]; rfl
  · rw [if_neg (h 0 (by omega)), if_pos h1]; rfl
  · rw [if_neg (h 0 (by omega)), if_neg (h 1 (by omega)), if_pos h1]; rfl
theorem Ipt.vac_no {p : Ipt} (h : ∀ j, j < 3 → ¬ (p.tab j).used = false) : p.vacant = -1 := by
  unfold Ipt.vacant
  rw [if_neg (h 0 (by omega)), if_neg (h 1 (by omega)), if_neg (h 2 (by omega))]
theorem below_sub {n : Nat} (h : n < 64) : IntKind.u64.wrap (((2 ^ n : Nat) : Int) - 1) = ((2 ^ n - 1 : Nat) : Int) := by
  have h1 : 0 < 2 ^ n := Nat.two_pow_pos n
  have h2 := Nat.pow_lt_pow_right (a := 2) (by omega) h
  have e : ((2 ^ n : Nat) : Int) - 1 = ((2 ^ n - 1 : Nat) : Int) := by omega
  rw [e]
  exact wrap_nat _ (by simp [IntKind.bits]; omega) (by simp [IntKind.signed])
theorem all_step {P : Nat → Prop} {k : Nat} (h : ∀ j, j < k → ¬ P j) (hk : ¬ P k) : ∀ j, j < k + 1 → ¬ P j := fun j hj => by
  rcases Nat.lt_or_ge j k with h1 | h1
  · exact h j h1
  · obtain rfl : j = k := by omega
    exact hk
def sum8 (l : List Int) : Int := l.foldl (fun s b => (s + b) % 256) 0
theorem sum8_take (l : List Int) (k : Nat) (h : k < l.length) : sum8 (l.take (k + 1)) = (sum8 (l.take k) + l.getD k 0) % 256 := by
  rw [List.take_add_one, sum8, List.foldl_append]
  simp [sum8, List.getD_eq_getElem?_getD, h]
def ipSum (l : List Int) : Int := (255 - sum8 (l.take 7)) % 256
theorem key_or1 {src proto : Int} (h1 : 0 ≤ src ∧ src < 256) (h2 : 0 ≤ proto ∧ proto < 256) : bOr .i64 (src * 65536) (proto * 256) = src * 65536 + proto * 256 := by
  rw [bOr_nat (f64 (by omega)) (f64 (by omega))]
  have e1 : (src * 65536).toNat = 2 ^ 16 * src.toNat := by omega
  have e2 : (proto * 256).toNat < 2 ^ 16 := by omega
  rw [e1, ← Nat.two_pow_add_eq_or_of_lt e2]
  omega
theorem key_or2 {src proto id : Int} (h1 : 0 ≤ src ∧ src < 256) (h2 : 0 ≤ proto ∧ proto < 256) (h3 : 0 ≤ id ∧ id < 256) : bOr .i64 (src * 65536 + proto * 256) id = keyOf src proto id := by
  rw [bOr_nat (f64 (by omega)) (f64 (by omega))]
  have e1 : (src * 65536 + proto * 256).toNat = 2 ^ 8 * (src.toNat * 256 + proto.toNat) := by omega
  have e2 : id.toNat < 2 ^ 8 := by omega
  rw [e1, ← Nat.two_pow_add_eq_or_of_lt e2]
  unfold keyOf
  omega
theorem shl_key {a : Int} (n : Nat) (m : Int) (hm : m = 2 ^ n) (hn : n < 64) (h : 0 ≤ a ∧ a * m < 9223372036854775808) (h0 : 0 ≤ a * m) : IntKind.i64.wrap (a * 2 ^ (min ((n : Int)).toNat IntKind.i64.bits)) = a * m := by
  subst hm
  have e : min ((n : Int)).toNat IntKind.i64.bits = n := by simp [IntKind.bits]; omega
  rw [e]
  exact w64 ⟨by omega, h.2⟩
structure Slt.Ok (s : Slt) : Prop where
  left : 0 ≤ s.left ∧ s.left ≤ 4
  total : -1 ≤ s.total ∧ s.total ≤ 40
  held : 0 ≤ s.held ∧ s.held < 1099511627776
  buf : ∀ j, 0 ≤ s.buf j ∧ s.buf j < 256
structure Ipt.Ok (p : Ipt) : Prop where
  addr : 0 ≤ p.addr ∧ p.addr < 256
  nxt : 0 ≤ p.nxt_ ∧ p.nxt_ < 256
  credit : 0 ≤ p.credit ∧ p.credit ≤ 24
  slot : ∀ i, (p.tab i).Ok
def tickSlt (s : Slt) : Slt := if s.used = true then (if s.left - 1 ≤ 0 then { s with left := s.left - 1, used := false } else { s with left := s.left - 1 }) else s
def Ipt.tickTo (p : Ipt) (k : Nat) : Ipt := { p with credit := 24, tab := fun i => if i < k then tickSlt (p.tab i) else p.tab i }
def Ipt.tick (p : Ipt) : Ipt := p.tickTo 3
theorem Ipt.tickTo_at (p : Ipt) (k : Nat) : (p.tickTo k).tab k = p.tab k := by simp [Ipt.tickTo]
theorem Ipt.tickTo_succ (p : Ipt) (k : Nat) : p.tickTo (k + 1) = { p.tickTo k with tab := upA (p.tickTo k).tab k (tickSlt (p.tab k)) } := by
  simp only [Ipt.tickTo]
  congr 1
  funext i
  simp only [upA]
  by_cases hi : i = k
  · subst hi; rw [if_pos (by omega), if_pos rfl]
  · rw [if_neg hi]
    by_cases h2 : i < k
    · rw [if_pos (by omega), if_pos h2]
    · rw [if_neg (by omega), if_neg h2]
theorem upA_same {α : Type} (f : Nat → α) (k : Nat) (x : α) (h : x = f k) : upA f k x = f := by
  funext i; simp only [upA]; split
  · rename_i e; rw [e, h]
  · rfl
theorem upA_upA {α : Type} (f : Nat → α) (k : Nat) (x y : α) : upA (upA f k x) k y = upA f k y := by
  funext i; simp only [upA]; split <;> rfl
theorem upA_at {α : Type} (f : Nat → α) (k : Nat) (x : α) : upA f k x k = x := by simp [upA]
theorem Ipt.tickTo_no {p : Ipt} {k : Nat} (h : ((p.tickTo k).tab k).used = false) : p.tickTo (k + 1) = p.tickTo k := by
  rw [Ipt.tickTo_at] at h
  rw [Ipt.tickTo_succ, upA_same]
  unfold tickSlt; rw [if_neg (by rw [h]; decide), Ipt.tickTo_at]
theorem Ipt.tickTo_keep {p : Ipt} {k : Nat} (h : ((p.tickTo k).tab k).used = true) (h2 : ¬ ((p.tickTo k).tab k).left - 1 ≤ 0) :
    p.tickTo (k + 1) = { p.tickTo k with tab := upA (p.tickTo k).tab k { ((p.tickTo k).tab k) with left := ((p.tickTo k).tab k).left - 1 } } := by
  rw [Ipt.tickTo_succ]
  rw [Ipt.tickTo_at] at *
  unfold tickSlt; rw [if_pos h, if_neg h2]
theorem Ipt.tickTo_drop {p : Ipt} {k : Nat} (h : ((p.tickTo k).tab k).used = true) (h2 : ((p.tickTo k).tab k).left - 1 ≤ 0) {X : Ipt}
    (hX : X = { p.tickTo k with tab := upA (p.tickTo k).tab k { ((p.tickTo k).tab k) with left := ((p.tickTo k).tab k).left - 1 } }) :
    p.tickTo (k + 1) = { X with tab := upA X.tab k { (X.tab k) with used := false } } := by
  subst hX
  rw [Ipt.tickTo_succ]
  dsimp only
  rw [upA_upA, upA_at]
  rw [Ipt.tickTo_at] at *
  unfold tickSlt; rw [if_pos h, if_pos h2]
theorem shr_nat {p q : Int} (n : Nat) (hp : 0 ≤ p) (hq : q = (n : Int)) (hn : n < 64) : p.fdiv (2 ^ (min q.toNat IntKind.u64.bits)) = ((p.toNat >>> n : Nat) : Int) := by
  subst hq
  have e : min ((n : Int)).toNat IntKind.u64.bits = n := by simp [IntKind.bits]; omega
  rw [e, Nat.shiftRight_eq_div_pow]
  have e2 : p = (p.toNat : Int) := by omega
  conv => lhs; rw [e2]
  rw [Int.fdiv_eq_ediv_of_nonneg _ (by exact Int.le_of_lt (Int.pow_pos (by omega)))]
  simp
def Ipt.clash (p : Ipt) (i : Nat) (en : Int) (more : Bool) : Bool :=
  if more = true then decide (0 ≤ (p.tab i).total ∧ (p.tab i).total < en) else if 0 ≤ (p.tab i).total ∧ ¬ (p.tab i).total = en then true else decide (¬ (p.tab i).held.toNat >>> en.toNat = 0)
def Ipt.whole (p : Ipt) (i : Nat) : Bool := if (p.tab i).total < 0 then false else decide ((p.tab i).held.toNat &&& (2 ^ (p.tab i).total.toNat - 1) = 2 ^ (p.tab i).total.toNat - 1)
theorem whole_and {h t : Int} (hs : 0 ≤ h ∧ h < 1099511627776) (ht : -1 ≤ t ∧ t ≤ 40) (h0 : 0 ≤ t) : bAnd .u64 h ((2 ^ t.toNat - 1 : Nat) : Int) = ((h.toNat &&& (2 ^ t.toNat - 1) : Nat) : Int) := by
  have h1 : 2 ^ t.toNat ≤ 2 ^ 40 := Nat.pow_le_pow_right (by omega) (by omega)
  rw [bAnd_nat (f64u (by omega)) (f64u (by omega)), Int.toNat_natCast]
def ipHd (proto src dst id om : Int) (l : List Int) : List Int := [proto, 8, src, dst, id, om, (l.length : Int)]
def ipPkt (proto src dst id om : Int) (l : List Int) : List Int := ipHd proto src dst id om l ++ [(255 - sum8 (ipHd proto src dst id om l)) % 256] ++ l
def pkL (proto src dst id om : Int) (l : List Int) : List Int := ipHd proto src dst id om l ++ List.replicate (l.length + 1) 0
theorem pkRow {proto src dst id om a0 a2 a3 a4 a5 a6 : Int} {l : List Int} {n : Nat} (hn : l.length = n) (h0 : a0 = proto) (h2 : a2 = src) (h3 : a3 = dst) (h4 : a4 = id) (h5 : a5 = om) (h6 : a6 = n) :
    (((((((List.replicate (8 + n) (0 : Int)).set 0 a0).set 1 8).set 2 a2).set 3 a3).set 4 a4).set 5 a5).set 6 a6 = pkL proto src dst id om l := by
  subst hn h0 h2 h3 h4 h5 h6
  have hr : List.replicate (8 + l.length) (0 : Int) = 0 :: 0 :: 0 :: 0 :: 0 :: 0 :: 0 :: List.replicate (l.length + 1) 0 := by
    have : 8 + l.length = (l.length + 1) + 7 := by omega
    rw [this]; rfl
  rw [hr]
  simp [pkL, ipHd]
theorem pkL_len {proto src dst id om : Int} {l : List Int} : (pkL proto src dst id om l).length = 8 + l.length := by simp [pkL, ipHd]; omega
theorem ipPkt_len {proto src dst id om : Int} {l : List Int} : (ipPkt proto src dst id om l).length = 8 + l.length := by simp [ipPkt, ipHd]; omega
theorem pkL_b {proto src dst id om : Int} {l : List Int} (h1 : 0 ≤ proto ∧ proto ≤ 255) (h2 : 0 ≤ src ∧ src ≤ 255) (h3 : 0 ≤ dst ∧ dst ≤ 255) (h4 : 0 ≤ id ∧ id ≤ 255) (h5 : 0 ≤ om ∧ om ≤ 255) (h6 : l.length ≤ 255) : Bytes (pkL proto src dst id om l) := by
  refine Bytes.append ?_ ?_
  · intro x hx
    simp only [ipHd, List.mem_cons, List.not_mem_nil, or_false] at hx
    rcases hx with rfl | rfl | rfl | rfl | rfl | rfl | rfl <;> omega
  · intro x hx
    obtain ⟨_, rfl⟩ := List.mem_replicate.1 hx
    omega
theorem pkEnd {proto src dst id om s : Int} {l : List Int} {n m od : Nat} (hn : l.length = n) (hm : m = n) (hs : s = ipSum (pkL proto src dst id om l)) (ho : od = if 8 + n = 8 then 0 else 0 + 8 * 1) :
    ((pkL proto src dst id om l).set 7 s).take od ++ l.take m ++ ((pkL proto src dst id om l).set 7 s).drop (od + m) = ipPkt proto src dst id om l := by
  subst hn hm
  have e7 : ipSum (pkL proto src dst id om l) = (255 - sum8 (ipHd proto src dst id om l)) % 256 := rfl
  have e : (pkL proto src dst id om l).set 7 s = ipHd proto src dst id om l ++ s :: List.replicate l.length 0 := by
    simp [pkL, ipHd, List.replicate_succ]
  rw [e, hs, e7]
  split at ho
  · have h6 : l = [] := List.eq_nil_of_length_eq_zero (by omega)
    subst ho h6
    simp [ipPkt, ipHd]
  · subst ho
    simp [ipPkt, ipHd, Nat.add_comm, Nat.add_left_comm]
def Ipt.layTo (p : Ipt) (i off : Nat) (l : List Int) (k : Nat) : Ipt := { p with tab := upA p.tab i { (p.tab i) with buf := layA (p.tab i).buf off (l.take k) } }
theorem layA_nil (r : Nat → Int) (a : Nat) : layA r a [] = r := by
  funext i; unfold layA; rw [if_neg (by simp <;> omega)]
theorem Ipt.layTo_zero (p : Ipt) (i off : Nat) (l : List Int) : p.layTo i off l 0 = p := by
  unfold Ipt.layTo
  rw [List.take_zero, layA_nil, upA_same _ _ _ rfl]
theorem layA_succ (r : Nat → Int) (a : Nat) (l : List Int) (k : Nat) (h : k < l.length) : upA (layA r a (l.take k)) (a + k) (l.getD k 0) = layA r a (l.take (k + 1)) := by
  funext j
  have e1 : (l.take k).length = k := by simp; omega
  have e2 : (l.take (k + 1)).length = k + 1 := by simp; omega
  unfold upA layA
  rw [e1, e2]
  by_cases hj : j = a + k
  · subst hj
    rw [if_pos rfl, if_pos (by omega), getD_take' _ _ _ (by omega)]
    congr 1; omega
  · rw [if_neg hj]
    by_cases h2 : a ≤ j ∧ j < a + k
    · rw [if_pos h2, if_pos (by omega), getD_take' _ _ _ (by omega), getD_take' _ _ _ (by omega)]
    · rw [if_neg h2, if_neg (by omega)]
theorem Ipt.layTo_succ (p : Ipt) (i off : Nat) (l : List Int) (k : Nat) (h : k < l.length) :
    p.layTo i off l (k + 1) = { p.layTo i off l k with tab := upA (p.layTo i off l k).tab i { ((p.layTo i off l k).tab i) with buf := upA ((p.layTo i off l k).tab i).buf (off + k) (l.getD k 0) } } := by
  simp only [Ipt.layTo, upA_upA, upA_at, layA_succ _ _ _ _ h]
def Ipt.lay (p : Ipt) (i off : Nat) (l : List Int) : Ipt :=
  { p with tab := upA p.tab i { (p.tab i) with buf := layA (p.tab i).buf off l, held := (((p.tab i).held.toNat ||| ((2 ^ l.length - 1) * 2 ^ off) : Nat) : Int) } }
theorem mask_lt {n off : Nat} (h : off + n ≤ 40) : (2 ^ n - 1) * 2 ^ off < 1099511627776 := by
  have h1 : (2 ^ n - 1) * 2 ^ off < 2 ^ n * 2 ^ off := Nat.mul_lt_mul_of_pos_right (by have := Nat.two_pow_pos n; omega) (Nat.two_pow_pos off)
  rw [← Nat.pow_add] at h1
  have h2 : 2 ^ (n + off) ≤ 2 ^ 40 := Nat.pow_le_pow_right (by omega) (by omega)
  omega
theorem shl_mask {n : Nat} {q : Int} (off : Nat) (hq : q = (off : Int)) (h : off + n ≤ 40) : IntKind.u64.wrap (((2 ^ n - 1 : Nat) : Int) * 2 ^ (min q.toNat IntKind.u64.bits)) = (((2 ^ n - 1) * 2 ^ off : Nat) : Int) := by
  subst hq
  have e : min ((off : Int)).toNat IntKind.u64.bits = off := by simp [IntKind.bits]; omega
  have hm := mask_lt h
  have e2 : (((2 ^ n - 1 : Nat) : Int) * 2 ^ off) = (((2 ^ n - 1) * 2 ^ off : Nat) : Int) := by simp
  rw [e, e2]
  exact wrap_nat _ (by simp only [IntKind.bits]; omega) (fun z => nomatch z)
theorem or_mask {h : Int} {m : Nat} (hs : 0 ≤ h ∧ h < 1099511627776) (hm : m < 1099511627776) : bOr .u64 h (m : Int) = ((h.toNat ||| m : Nat) : Int) := by
  rw [bOr_nat (f64u (by omega)) (f64u (by omega)), Int.toNat_natCast]
end Go.Proofs.Qxb6500351aGreat
