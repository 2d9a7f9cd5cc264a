/- PLAIN LAW: THE BYTES OF COMMITS AND REFS (1). -/
import Derived.Test.Qxb6500350aGreatK33
import Derived.Test.Qxb6500350aGreatT213
import Derived.Test.Qxb6500350aGreatT220
import Derived.Test.Qxb6500350aGreatT234
import Derived.Test.Qxb6500350aGreatT249
set_option linter.unusedVariables false
set_option linter.unusedSimpArgs false
set_option maxHeartbeats 1000000
namespace Go.Proofs.Qxb6500350aGreat
open Go.Eng Go
/-- k bytes, low first -/
def leN : Nat → Int → List UInt8
  | 0, _ => []
  | k + 1, v => u8 v :: leN k (v / 256)
theorem leN_len : ∀ (k : Nat) (v : Int), (leN k v).length = k
  | 0, _ => rfl
  | k + 1, v => by simp [leN, leN_len k]
theorem u8_mod {i : Int} (h : 0 ≤ i) : ((u8 i).toNat : Int) = i % 256 := by
  have h1 : u8 i = u8 (i % 256) := by unfold u8; rw [Int.emod_emod_of_dvd _ (Int.dvd_refl 256)]
  rw [h1, u8_nat (by omega) (by omega)]
theorem leN_get : ∀ (k j : Nat) (v : Int), j < k → (leN k v)[j]? = some (u8 (v / 256 ^ j))
  | 0, _, _, h => absurd h (Nat.not_lt_zero _)
  | k + 1, 0, v, _ => by simp [leN]
  | k + 1, j + 1, v, h => by
    simp only [leN, List.getElem?_cons_succ]
    rw [leN_get k j _ (by omega), Int.ediv_ediv_of_nonneg (by decide), ← Int.pow_succ']
theorem leN_take : ∀ (k j : Nat) (v : Int), j ≤ k → (leN k v).take j = leN j v
  | _, 0, _, _ => by simp [leN]
  | 0, j + 1, _, h => absurd h (by omega)
  | k + 1, j + 1, v, h => by simp only [leN, List.take_succ_cons]; rw [leN_take k j _ (by omega)]
theorem leN_snoc (j : Nat) (v : Int) : leN (j + 1) v = leN j v ++ [u8 (v / 256 ^ j)] := by
  have h1 := leN_get (j + 1) j v (by omega)
  have h2 := leN_take (j + 1) j v (by omega)
  have h3 := leN_len (j + 1) v
  rw [← h2]
  have := List.take_append_drop j (leN (j + 1) v)
  rw [List.drop_eq_getElem_cons (by omega), List.drop_eq_nil_of_le (by omega)] at this
  rw [List.getElem?_eq_getElem (by omega)] at h1
  rw [Option.some.inj h1] at this
  exact this.symm
theorem p256 : (2 : Int) ^ (min (Int.toNat 8) (IntKind.bits .u64)) = 256 := by decide
theorem wu_e {x : Int} (h1 : 0 ≤ x) (h2 : x < 18446744073709551616) : wu x = x := by
  show IntKind.u64.wrap x = x
  rw [wu_eq, Int.emod_eq_of_lt h1 h2]
theorem pow256_pos (j : Nat) : (0 : Int) < 256 ^ j := Int.pow_pos (by decide)
theorem putSeq_ok {n : Nat} {out : List UInt8} {v : Int} (hn : 100000 ≤ n) (ho : out.length ≤ 10000) (h0 : 0 ≤ v) (h1 : v < 9223372036854775808) : m273 n out v = some (out ++ leN 8 v) := by
  refine Ok.eq ?_
  unfold m273
  rw [wu_e h0 (by omega)]
  refine Ok_ob3 ?_
  unfold m273_w1
  refine Ok_it3 (fun (z : List UInt8) (w i : Int) => 0 ≤ i ∧ i ≤ 8 ∧ z = out ++ leN i.toNat v ∧ w = v / 256 ^ i.toNat) (fun _ (_ i : Int) => (8 - i).toNat) ?_ n out v 0 ⟨by omega, by omega, by simp [leN], by simp⟩ (by show ((8 : Int) - 0).toNat < n; omega)
  rintro Q lp z w i hQ ⟨i0, i1, rfl, rfl⟩ ih
  refine Ok_ite (fun hi => ?_) (fun hi => ?_)
  · have hp := pow256_pos i.toNat
    have hv0 : 0 ≤ v / 256 ^ i.toNat := Int.ediv_nonneg h0 (by omega)
    refine Ok_apd (by rw [List.length_append, leN_len]; omega) ?_
    rw [p256, wi_e (by omega) (by omega), Int.fdiv_eq_ediv_of_nonneg _ (by decide)]
    refine ih _ _ _ ⟨by omega, by omega, ?_, ?_⟩ (by omega)
    · rw [show (i + 1).toNat = i.toNat + 1 by omega, leN_snoc, List.append_assoc]
    · rw [show (i + 1).toNat = i.toNat + 1 by omega, Int.ediv_ediv_of_nonneg (by omega), Int.pow_succ]
  · obtain rfl : i = 8 := by omega
    exact Ok.some' (hQ _ (Ok.some' rfl))
theorem bor_low {a b : Int} (ha : 0 ≤ a) (ha1 : a < 72057594037927936) (hb : 0 ≤ b) (hb1 : b < 256) : bOr .u64 (a * 256) b = a * 256 + b := by
  rw [bOr_u (by omega) (by omega) hb (by omega)]
  have h := Nat.shiftLeft_add_eq_or_of_lt (b := b.toNat) (i := 8) (by omega) a.toNat
  rw [Nat.shiftLeft_eq] at h
  rw [show (a * 256).toNat = a.toNat * 2 ^ 8 by omega, ← h]
  omega
theorem seqAt_ok {n : Nat} {d : List UInt8} {v : Int} {r : List UInt8} (hn : 100000 ≤ n) (hd : d = leN 8 v ++ r) (h0 : 0 ≤ v) (h1 : v < 9223372036854775808) : m278 n d = some v := by
  refine Ok.eq ?_
  subst hd
  unfold m278
  refine Ok_ob2 ?_
  unfold m278_w1
  refine Ok_it2 (fun (w i : Int) => -1 ≤ i ∧ i ≤ 7 ∧ w = v / 256 ^ (i + 1).toNat) (fun (_ i : Int) => (i + 1).toNat) ?_ n 0 7 ⟨by omega, by omega, ?_⟩ (by show ((7 : Int) + 1).toNat < n; omega)
  rotate_left
  · show 0 = v / 256 ^ 8
    rw [show (256 : Int) ^ 8 = 18446744073709551616 by decide]; omega
  rintro Q lp w i hQ ⟨i0, i1, rfl⟩ ih
  have hp := pow256_pos (i + 1).toNat
  have hv0 : 0 ≤ v / 256 ^ (i + 1).toNat := Int.ediv_nonneg h0 (by omega)
  refine Ok_ite (fun hi => ?_) (fun hi => ?_)
  · refine Ok_ix (by omega) (by rw [List.length_append, leN_len]; omega) (fun x hx => ?_)
    rw [List.getElem?_append_left (by rw [leN_len]; omega), leN_get 8 _ _ (by omega)] at hx
    obtain rfl := Option.some.inj hx
    have hp2 := pow256_pos i.toNat
    have hw0 : 0 ≤ v / 256 ^ i.toNat := Int.ediv_nonneg h0 (by omega)
    have hdd : v / 256 ^ (i + 1).toNat = (v / 256 ^ i.toNat) / 256 := by
      rw [show (i + 1).toNat = i.toNat + 1 by omega, Int.pow_succ, Int.ediv_ediv_of_nonneg (by omega)]
    have hwle : v / 256 ^ i.toNat ≤ v := Int.ediv_le_self _ h0
    rw [hdd, p256, u8_mod hw0]
    have hq0 : 0 ≤ (v / 256 ^ i.toNat) / 256 := by omega
    have hq1 : (v / 256 ^ i.toNat) / 256 < 72057594037927936 := by omega
    rw [wu_e (by omega) (by omega), bor_low hq0 hq1 (by omega) (by omega), wi_e (by omega) (by omega)]
    refine ih _ _ ⟨by omega, by omega, ?_⟩ (by omega)
    rw [show (i - 1 + 1).toNat = i.toNat by omega]
    omega
  · obtain rfl : i = -1 := by omega
    refine Ok.some' (hQ _ (Ok.some' ?_))
    show wi (v / 256 ^ 0) = v
    rw [Int.pow_zero, Int.ediv_one, wi_e (by omega) (by omega)]
/-- append byte by byte -/
theorem putName_ok {n : Nat} {out : List UInt8} {p : Str} (hn : 100000 ≤ n) (ho : out.length ≤ 10000) (hp : p.length ≤ 255) : m283 n out p = some (out ++ (u8 p.length :: p)) := by
  refine Ok.eq ?_
  unfold m283
  refine Ok_apd (by omega) (Ok_ob2 ?_)
  unfold m283_w1
  refine Ok_it2 (fun (z : List UInt8) (i : Int) => 0 ≤ i ∧ i ≤ p.length ∧ z = out ++ (u8 p.length :: p.take i.toNat)) (fun _ (i : Int) => ((p.length : Int) - i).toNat) ?_ n _ 0 ⟨by omega, by omega, by simp⟩ (by show ((p.length : Int) - 0).toNat < n; omega)
  rintro Q lp z i hQ ⟨i0, i1, rfl⟩ ih
  refine Ok_ite (fun hi => Ok_sIx (by omega) hi (fun x hx => Ok_apd (by simp; omega) ?_)) (fun hi => ?_)
  · rw [wi_e (by omega) (by omega)]
    refine ih _ _ ⟨by omega, by omega, ?_⟩ (by omega)
    rw [show (i + 1).toNat = i.toNat + 1 by omega, List.take_add_one, hx]; simp
  · obtain rfl : i = p.length := by omega
    refine Ok.some' (hQ _ (Ok.some' ?_))
    rw [Int.toNat_natCast, List.take_length]
theorem nameAt_ok {n : Nat} {a r : List UInt8} {p : Str} (ha : a.length ≤ 10000) (hp : p.length ≤ 6) (hr : r.length ≤ 10000) : m289 n (a ++ (u8 p.length :: (p ++ r))) a.length = some (p, (a.length : Int) + 1 + p.length, true) := by
  refine Ok.eq ?_
  unfold m289
  have hl : ((a ++ (u8 (p.length : Int) :: (p ++ r))).length : Int) = a.length + (p.length + r.length + 1) := by simp
  refine Ok_iteO (fun h => by omega) (fun _ _ => Ok_ix (by omega) (by omega) (fun x hx => ?_))
  rw [Int.toNat_natCast, List.getElem?_append_right (Nat.le_refl _), Nat.sub_self] at hx
  obtain rfl := Option.some.inj hx
  rw [u8_nat (by omega) (by omega), hl]
  have w1 : wi ((a.length : Int) + (p.length + r.length + 1) - a.length) = p.length + r.length + 1 := by rw [wi_e (by omega) (by omega)]; omega
  have w2 : wi ((p.length : Int) + r.length + 1 - 1) = p.length + r.length := by rw [wi_e (by omega) (by omega)]; omega
  have w3 : wi ((a.length : Int) + 1) = a.length + 1 := wi_e (by omega) (by omega)
  have w4 : wi ((a.length : Int) + 1 + p.length) = a.length + 1 + p.length := wi_e (by omega) (by omega)
  rw [w1, w2, w3, w4]
  refine Ok_iteO (fun h => by omega) (fun _ _ => Ok_sl (by omega) (by omega) (by rw [hl]; omega) (Ok.some' ?_))
  have : ((a ++ (u8 (p.length : Int) :: (p ++ r))).drop ((a.length : Int) + 1).toNat).take (((a.length : Int) + 1 + p.length).toNat - ((a.length : Int) + 1).toNat) = p := by
    rw [show ((a.length : Int) + 1).toNat = a.length + 1 by omega, show ((a.length : Int) + 1 + p.length).toNat - (a.length + 1) = p.length by omega]
    rw [← List.drop_drop, List.drop_left' rfl]
    show (p ++ r).take p.length = p
    exact List.take_left' rfl
  rw [this]

/-- a row of the table of commits -/
def mkCom (seq tree : Int) (ps : List Int) : Com := { used := true, seq := seq, tree := tree, np := ps.length, par := fun k => if 0 ≤ k then ps.getD k.toNat 0 else 0 }
/-- the bytes of a commit -/
def cbytes (seq tree : Int) (ps : List Int) (msg : Str) : List UInt8 := leN 8 seq ++ (u8 tree :: u8 ps.length :: (ps.map u8 ++ msg))
theorem cbytes_len (seq tree : Int) (ps : List Int) (msg : Str) : (cbytes seq tree ps msg).length = 10 + ps.length + msg.length := by simp [cbytes, leN_len]; omega
theorem par_get {ps : List Int} {k : Int} (h0 : 0 ≤ k) (h1 : k < ps.length) : some ((mkCom 0 0 ps).par k) = ps[k.toNat]? := by
  show some (if 0 ≤ k then ps.getD k.toNat 0 else 0) = _
  rw [if_pos h0, List.getD_eq_getElem?_getD, List.getElem?_eq_getElem (by omega)]; rfl
theorem commitBytes_ok {n : Nat} {seq tree : Int} {ps : List Int} {msg : Str} (hn : 100000 ≤ n) (h0 : 0 ≤ seq) (h1 : seq < 9223372036854775808) (hp : ps.length ≤ 2) (hm : msg.length ≤ 1000) : m213 n (mkCom seq tree ps) msg = some (cbytes seq tree ps msg) := by
  refine Ok.eq ?_
  unfold m213
  refine Ok_cl1 (putSeq_ok (out := []) hn (by simp) h0 h1) (Ok_apds (by simp [leN_len]) (by simp) (Ok_ob2 ?_))
  rw [List.nil_append]
  unfold m213_w1
  refine Ok_it2 (fun (z : List UInt8) (i : Int) => 0 ≤ i ∧ i ≤ ps.length ∧ z = leN 8 seq ++ (u8 tree :: u8 ps.length :: (ps.take i.toNat).map u8)) (fun _ (i : Int) => ((ps.length : Int) - i).toNat) ?_ n _ 0 ⟨by omega, by omega, by simp [mkCom]⟩ (by show ((ps.length : Int) - 0).toNat < n; omega)
  rintro Q lp z i hQ ⟨i0, i1, rfl⟩ ih
  refine Ok_ite (fun hi => ?_) (fun hi => ?_)
  · have hi : i < ps.length := hi
    have hg := par_get i0 hi
    refine Ok_ck (by omega) (by omega) (Ok_apd (by simp [leN_len]; omega) ?_)
    rw [wi_e (by omega) (by omega)]
    refine ih _ _ ⟨by omega, by omega, ?_⟩ (by omega)
    rw [show (i + 1).toNat = i.toNat + 1 by omega, List.take_add_one, ← hg]
    simp only [Option.toList_some, List.map_append, List.append_assoc, List.cons_append]; rfl
  · have hi : ¬ i < ps.length := hi
    obtain rfl : i = ps.length := by omega
    refine Ok.some' (hQ _ (Ok_ob2 ?_))
    rw [Int.toNat_natCast, List.take_length]
    clear ih hQ
    unfold m213_w2
    refine Ok_it2 (fun (z : List UInt8) (i : Int) => 0 ≤ i ∧ i ≤ msg.length ∧ z = leN 8 seq ++ (u8 tree :: u8 ps.length :: (ps.map u8 ++ msg.take i.toNat))) (fun _ (i : Int) => ((msg.length : Int) - i).toNat) ?_ n _ 0 ⟨by omega, by omega, by simp⟩ (by show ((msg.length : Int) - 0).toNat < n; omega)
    rintro Q lp z i hQ ⟨i0, i1, rfl⟩ ih
    refine Ok_ite (fun hi => Ok_sIx (by omega) hi (fun x hx => Ok_apd (by simp [leN_len]; omega) ?_)) (fun hi => ?_)
    · rw [wi_e (by omega) (by omega)]
      refine ih _ _ ⟨by omega, by omega, ?_⟩ (by omega)
      rw [show (i + 1).toNat = i.toNat + 1 by omega, List.take_add_one, hx]; simp
    · obtain rfl : i = msg.length := by omega
      refine Ok.some' (hQ _ (Ok.some' ?_))
      rw [Int.toNat_natCast, List.take_length]; rfl
theorem decodeCommit_ok {n : Nat} {seq tree : Int} {ps : List Int} {msg : Str} (hn : 100000 ≤ n) (h0 : 0 ≤ seq) (h1 : seq < 9223372036854775808) (ht0 : 0 ≤ tree) (ht1 : tree < 256) (hp : ps.length ≤ 2) (hpr : ∀ p, p ∈ ps → 0 ≤ p ∧ p < 256) (hm : msg.length ≤ 1000) :
    m220 n (cbytes seq tree ps msg) = some (mkCom seq tree ps, msg, true) := by
  refine Ok.eq ?_
  have hl := cbytes_len seq tree ps msg
  have hget : ∀ j : Nat, 8 ≤ j → (cbytes seq tree ps msg)[j]? = (u8 tree :: u8 (ps.length : Int) :: (ps.map u8 ++ msg))[j - 8]? := by
    intro j hj
    unfold cbytes
    rw [List.getElem?_append_right (by rw [leN_len]; omega), leN_len]
  unfold m220
  refine Ok_ite (fun h => by omega) (fun _ => Ok_ix (by omega) (by omega) (fun x hx => ?_))
  rw [hget _ (by decide)] at hx
  obtain rfl := Option.some.inj hx
  have hnp : ((u8 (ps.length : Int)).toNat : Int) = ps.length := u8_nat (by omega) (by omega)
  rw [hnp, wi_e (x := ((cbytes seq tree ps msg).length : Int) - 10) (by omega) (by omega)]
  refine Ok_iteO (fun h => by omega) (fun _ _ => Ok_ix (by omega) (by omega) (fun x2 hx2 => ?_))
  rw [hget _ (by decide)] at hx2
  obtain rfl := Option.some.inj hx2
  have htr : ((u8 tree).toNat : Int) = tree := u8_nat ht0 ht1
  rw [htr]
  refine Ok_nm (Ok_cl1 (seqAt_ok hn rfl h0 h1) (Ok_nm (Ok_ob2 ?_)))
  unfold m220_w1
  rw [hnp]
  refine Ok_it2 (fun (i : Int) (z : Com) => 0 ≤ i ∧ i ≤ ps.length ∧ z = { mkCom seq tree ps with par := (mkCom seq tree (ps.take i.toNat)).par }) (fun (i : Int) _ => ((ps.length : Int) - i).toNat) ?_ n 0 _ ⟨by omega, by omega, ?_⟩ (by show ((ps.length : Int) - 0).toNat < n; omega)
  rotate_left
  · show _ = _
    unfold mkCom Com.zero
    congr 1
    funext k
    simp
  rintro Q lp i z hQ ⟨i0, i1, rfl⟩ ih
  refine Ok_ite (fun hi => ?_) (fun hi => ?_)
  · rw [wi_e (x := 10 + i) (by omega) (by omega)]
    refine Ok_ix (by omega) (by omega) (fun x3 hx3 => ?_)
    rw [hget _ (by omega), show (10 + i).toNat - 8 = i.toNat + 1 + 1 by omega, List.getElem?_cons_succ, List.getElem?_cons_succ, List.getElem?_append_left (by simp; omega), List.getElem?_map] at hx3
    obtain ⟨p, hp2, hp3⟩ := Option.map_eq_some_iff.1 hx3
    subst hp3
    have hpp := hpr p (List.mem_of_getElem? hp2)
    refine Ok_ck (by omega) (by omega) (Ok_nm ?_)
    rw [u8_nat hpp.1 hpp.2, wi_e (x := i + 1) (by omega) (by omega)]
    refine ih _ _ ⟨by omega, by omega, ?_⟩ (by omega)
    congr 1
    funext k
    unfold upI
    show (if k = i then p else if 0 ≤ k then (ps.take i.toNat).getD k.toNat 0 else 0) = if 0 ≤ k then (ps.take (i + 1).toNat).getD k.toNat 0 else 0
    rw [show (i + 1).toNat = i.toNat + 1 by omega]
    by_cases hk : 0 ≤ k
    · rw [if_pos hk, if_pos hk, List.getD_eq_getElem?_getD, List.getD_eq_getElem?_getD, List.getElem?_take, List.getElem?_take]
      by_cases e : k = i
      · subst e; rw [if_pos rfl, if_pos (by omega), hp2]; rfl
      · rw [if_neg e]
        by_cases e2 : k < i
        · rw [if_pos (by omega), if_pos (by omega)]
        · rw [if_neg (by omega), if_neg (by omega)]
    · rw [if_neg hk, if_neg hk, if_neg (by omega)]
  · obtain rfl : i = ps.length := by omega
    refine Ok.some' (hQ _ ?_)
    rw [Int.toNat_natCast, List.take_length, wi_e (by omega) (by omega)]
    refine Ok_sl (by omega) (by omega) (by omega) (Ok_nm (Ok.some' ?_))
    have : ((cbytes seq tree ps msg).drop (10 + (ps.length : Int)).toNat).take (((cbytes seq tree ps msg).length : Int).toNat - (10 + (ps.length : Int)).toNat) = msg := by
      have e : cbytes seq tree ps msg = (leN 8 seq ++ (u8 tree :: u8 (ps.length : Int) :: ps.map u8)) ++ msg := by unfold cbytes; simp
      rw [hl, e, List.drop_left' (by simp [leN_len]; omega), List.take_of_length_le (by omega)]
    rw [this]
end Go.Proofs.Qxb6500350aGreat
