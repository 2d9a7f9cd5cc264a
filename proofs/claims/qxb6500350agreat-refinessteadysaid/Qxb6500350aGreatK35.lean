/- PLAIN LAW: THE BYTES OF THE REFS OBJECT. -/
import Derived.Test.Qxb6500350aGreatK34
set_option linter.unusedVariables false
set_option linter.unusedSimpArgs false
set_option maxHeartbeats 1000000
namespace Go.Proofs.Qxb6500350aGreat
open Go.Eng Go
def brF (bs : List Brn) : Int → Brn := fun k => if 0 ≤ k then bs.getD k.toNat Brn.zero else Brn.zero
theorem brF_get {bs : List Brn} {k : Int} (h0 : 0 ≤ k) (h1 : k < bs.length) : bs[k.toNat]? = some (brF bs k) := by
  unfold brF
  rw [if_pos h0, List.getD_eq_getElem?_getD, List.getElem?_eq_getElem (by omega)]; rfl
def bBrn (b : Brn) : List UInt8 := u8 b.name.length :: (b.name ++ [u8 b.id])
theorem bBrn_len (b : Brn) : (bBrn b).length = b.name.length + 2 := by simp [bBrn]
def rbytes (nxt aux : Int) (name : Str) (at_ merge : Int) (bs : List Brn) : List UInt8 :=
  leN 8 nxt ++ (u8 aux :: (u8 name.length :: (name ++ (u8 at_ :: u8 merge :: u8 bs.length :: bs.flatMap bBrn))))
theorem brs_len {bs : List Brn} (h : ∀ b, b ∈ bs → b.name.length ≤ 6) : (bs.flatMap bBrn).length ≤ 8 * bs.length := by
  induction bs with
  | nil => simp
  | cons b bs ih =>
    have h1 := h b (by simp)
    have h2 := ih (fun x hx => h x (List.mem_cons_of_mem _ hx))
    rw [List.flatMap_cons, List.length_append, bBrn_len, List.length_cons]; omega
theorem rbytes_len {nxt aux : Int} {name : Str} {at_ merge : Int} {bs : List Brn} (hn : name.length ≤ 6) (hb : bs.length ≤ 4) (h : ∀ b, b ∈ bs → b.name.length ≤ 6) : (rbytes nxt aux name at_ merge bs).length ≤ 51 := by
  have := brs_len h
  unfold rbytes
  simp only [List.length_append, List.length_cons, leN_len]
  omega
theorem refsBytes_ok {n : Nat} {g : Graph} {bs : List Brn} (hn : 100000 ≤ n) (h0 : 0 ≤ g.nxt) (h1 : g.nxt < 9223372036854775808) (hnm : g.name.length ≤ 6) (hb : bs.length ≤ 4) (h : ∀ b, b ∈ bs → b.name.length ≤ 6) (hnb : g.nb = bs.length) (hbr : g.br = brF bs) :
    m234 n g = some (rbytes g.nxt g.aux g.name g.at_ g.merge bs) := by
  refine Ok.eq ?_
  unfold m234
  refine Ok_cl1 (putSeq_ok (out := []) hn (by simp) h0 h1) (Ok_apd (by simp [leN_len]) (Ok_cl1 (putName_ok hn (by simp [leN_len]) (by omega)) (Ok_apds (by simp [leN_len]; omega) (by simp) (Ok_ob2 ?_))))
  unfold m234_w1
  generalize hP : (([] ++ leN 8 g.nxt ++ [u8 g.aux]) ++ (u8 g.name.length :: g.name)) ++ [u8 g.at_, u8 g.merge, u8 g.nb] = P
  have hPl : P.length ≤ 20 := by rw [← hP]; simp [leN_len]; omega
  have htl : ∀ c : Nat, ((bs.take c).flatMap bBrn).length ≤ 8 * 4 := fun c => by
    have h2 := brs_len (bs := bs.take c) (fun b hb => h b (List.mem_of_mem_take hb))
    rw [List.length_take] at h2; omega
  refine Ok_it2 (fun (z : List UInt8) (i : Int) => 0 ≤ i ∧ i ≤ bs.length ∧ z = P ++ (bs.take i.toNat).flatMap bBrn) (fun _ (i : Int) => ((bs.length : Int) - i).toNat) ?_ n P 0 ⟨by omega, by omega, by simp⟩ (by show ((bs.length : Int) - 0).toNat < n; omega)
  rintro Q lp z i hQ ⟨i0, i1, rfl⟩ ih
  have ht := htl i.toNat
  refine Ok_ite (fun hi => ?_) (fun hi => ?_)
  · rw [hnb] at hi
    have hg := brF_get i0 hi
    have hbm := h _ (List.mem_of_getElem? hg)
    rw [hbr]
    refine Ok_ck (by omega) (by omega) (Ok_cl1 (putName_ok hn (by rw [List.length_append]; omega) (by omega)) (Ok_ck (by omega) (by omega) (Ok_apd (by simp only [List.length_append, List.length_cons]; omega) ?_)))
    rw [wi_e (by omega) (by omega)]
    refine ih _ _ ⟨by omega, by omega, ?_⟩ (by omega)
    rw [show (i + 1).toNat = i.toNat + 1 by omega, flatMap_take_succ hg]
    simp [bBrn]
  · rw [hnb] at hi
    obtain rfl : i = bs.length := by omega
    refine Ok.some' (hQ _ (Ok.some' ?_))
    rw [Int.toNat_natCast, List.take_length, ← hP, hnb]
    unfold rbytes
    simp
theorem readRefs_ok {n : Nat} {g : Graph} {nxt aux at_ merge : Int} {name : Str} {bs : List Brn} (hn : 100000 ≤ n) (h0 : 0 ≤ nxt) (h1 : nxt < 9223372036854775808) (hnm : name.length ≤ 6) (hb : bs.length ≤ 4) (h : ∀ b, b ∈ bs → b.name.length ≤ 6 ∧ 0 ≤ b.id ∧ b.id ≤ 48)
    (ha0 : 0 ≤ aux) (ha1 : aux ≤ 48) (ht0 : 0 ≤ at_) (ht1 : at_ ≤ 48) (hm0 : 0 ≤ merge) (hm1 : merge ≤ 48) :
    m249 n g (rbytes nxt aux name at_ merge bs) = some { g with nxt := nxt, aux := aux, name := name, at_ := at_, merge := merge, br := brF bs, nb := bs.length } := by
  refine Ok.eq ?_
  have hbl := brs_len (fun b hb => (h b hb).1)
  generalize hT : bs.flatMap bBrn = T at hbl
  have hlen : (rbytes nxt aux name at_ merge bs).length = 13 + name.length + T.length := by
    unfold rbytes; rw [hT]; simp only [List.length_append, List.length_cons, leN_len]; omega
  have e1 : rbytes nxt aux name at_ merge bs = (leN 8 nxt ++ [u8 aux]) ++ (u8 name.length :: (name ++ (u8 at_ :: u8 merge :: u8 bs.length :: T))) := by unfold rbytes; rw [hT]; simp
  have e2 : rbytes nxt aux name at_ merge bs = (leN 8 nxt ++ (u8 aux :: (u8 name.length :: name))) ++ (u8 at_ :: u8 merge :: u8 bs.length :: T) := by unfold rbytes; rw [hT]; simp
  have hpl : ((leN 8 nxt ++ (u8 aux :: (u8 (name.length : Int) :: name))).length : Int) = 10 + name.length := by simp only [List.length_append, List.length_cons, leN_len]; omega
  have hget : ∀ j : Nat, (rbytes nxt aux name at_ merge bs)[10 + name.length + j]? = (u8 at_ :: u8 merge :: u8 (bs.length : Int) :: T)[j]? := by
    intro j
    rw [e2, List.getElem?_append_right (by omega)]
    congr 1; omega
  unfold m249
  refine Ok_ite (fun hh => by omega) (fun _ => ?_)
  have hna := nameAt_ok (n := n) (a := leN 8 nxt ++ [u8 aux]) (p := name) (r := u8 at_ :: u8 merge :: u8 bs.length :: T) (by simp [leN_len]) hnm (by simp; omega)
  rw [← e1, show ((leN 8 nxt ++ [u8 aux]).length : Int) = 9 by simp [leN_len]] at hna
  refine Ok_cl3 hna ?_
  rw [hlen, wi_e (x := ((13 + name.length + T.length : Nat) : Int) - (9 + 1 + name.length)) (by omega) (by omega)]
  have hcc : (!true || decide (((13 + name.length + T.length : Nat) : Int) - (9 + 1 + name.length) < 3)) = false := by rw [decide_eq_false (by omega)]; rfl
  rw [hcc]
  refine Ok_cond (fun hh => nomatch hh) (fun _ => ?_)
  rw [wi_e (x := (9 : Int) + 1 + name.length + 1) (by omega) (by omega), wi_e (x := (9 : Int) + 1 + name.length + 2) (by omega) (by omega), wi_e (x := (9 : Int) + 1 + name.length + 3) (by omega) (by omega)]
  refine Ok_ix (by omega) (by omega) (fun x1 hx1 => ?_)
  rw [show ((9 : Int) + 1 + name.length).toNat = 10 + name.length + 0 by omega, hget] at hx1
  obtain rfl := Option.some.inj hx1
  refine Ok_ix (by omega) (by omega) (fun x2 hx2 => ?_)
  rw [show ((9 : Int) + 1 + name.length + 1).toNat = 10 + name.length + 1 by omega, hget] at hx2
  obtain rfl := Option.some.inj hx2
  refine Ok_ix (by omega) (by omega) (fun x3 hx3 => ?_)
  rw [show ((9 : Int) + 1 + name.length + 2).toNat = 10 + name.length + 2 by omega, hget] at hx3
  obtain rfl := Option.some.inj hx3
  have u1 : ((u8 at_).toNat : Int) = at_ := u8_nat (by omega) (by omega)
  have u2 : ((u8 merge).toNat : Int) = merge := u8_nat (by omega) (by omega)
  have u3 : ((u8 (bs.length : Int)).toNat : Int) = bs.length := u8_nat (by omega) (by omega)
  rw [u1, u2, u3]
  have hc : (((decide ((48 : Int) < at_)) || (decide ((48 : Int) < merge))) || (decide ((4 : Int) < (bs.length : Int)))) = false := by
    rw [decide_eq_false (by omega), decide_eq_false (by omega), decide_eq_false (by omega)]; rfl
  rw [hc]
  refine Ok_cond (fun hh => nomatch hh) (fun _ => Ok_flow ?_)
  unfold m249_w1
  rw [u3]
  generalize hH : leN 8 nxt ++ (u8 aux :: (u8 (name.length : Int) :: (name ++ [u8 at_, u8 merge, u8 (bs.length : Int)]))) = H
  have e3 : rbytes nxt aux name at_ merge bs = H ++ bs.flatMap bBrn := by rw [← hH]; unfold rbytes; simp
  have hHl : (H.length : Int) = 13 + name.length := by rw [← hH]; simp only [List.length_append, List.length_cons, leN_len]; simp; omega
  refine Ok_it3 (fun (p i : Int) (z : Int → Brn) => ∃ b1 b2, bs = b1 ++ b2 ∧ i = b1.length ∧ p = (H ++ b1.flatMap bBrn).length ∧ z = brF b1) (fun (_ i : Int) _ => ((bs.length : Int) - i).toNat) ?_ n _ 0 _ ⟨[], bs, rfl, rfl, by simp; omega, by funext k; simp [brF]⟩ (by show ((bs.length : Int) - 0).toNat < n; omega)
  rintro Q lp p i z hQ ⟨b1, b2, hbb, rfl, rfl, rfl⟩ ih
  have hbl2 : (bs.length : Int) = b1.length + b2.length := by rw [hbb]; simp
  cases b2 with
  | nil =>
    refine Ok_ite (fun hh => by simp at hbl2; omega) (fun _ => ?_)
    refine Ok.some' (hQ _ ?_)
    rw [List.append_nil] at hbb
    subst hbb
    refine Ok_cl1 (seqAt_ok hn (v := nxt) (r := u8 aux :: (u8 name.length :: (name ++ (u8 at_ :: u8 merge :: u8 bs.length :: T)))) (by rw [e1]; simp) h0 h1) (Ok_nm (Ok_ix (by omega) (by omega) (fun x6 hx6 => ?_)))
    rw [e1, List.append_assoc, List.getElem?_append_right (by simp [leN_len]), leN_len] at hx6
    obtain rfl := Option.some.inj hx6
    rw [u8_nat (by omega) (by omega)]
    exact Ok_nm (Ok_nm (Ok_nm (Ok_nm (Ok_nm (Ok_nm (Ok.some' rfl))))))
  | cons b b2 =>
    rw [List.length_cons] at hbl2
    have hbm := h b (by rw [hbb]; simp)
    have hTb : T = b1.flatMap bBrn ++ (bBrn b ++ b2.flatMap bBrn) := by rw [← hT, hbb]; simp
    have hTl := congrArg List.length hTb
    simp only [List.length_append, bBrn_len] at hTl
    have hHn : H.length = 13 + name.length := by omega
    refine Ok_ite (fun _ => ?_) (fun hh => by omega)
    have e4 : rbytes nxt aux name at_ merge bs = (H ++ b1.flatMap bBrn) ++ (u8 b.name.length :: (b.name ++ (u8 b.id :: b2.flatMap bBrn))) := by
      rw [e3, hbb]; simp [bBrn]
    have hPl : (H ++ b1.flatMap bBrn).length = 13 + name.length + (b1.flatMap bBrn).length := by rw [List.length_append]; omega
    have hna2 := nameAt_ok (n := n) (a := H ++ b1.flatMap bBrn) (p := b.name) (r := u8 b.id :: b2.flatMap bBrn) (by omega) hbm.1 (by simp only [List.length_cons]; omega)
    rw [← e4] at hna2
    refine Ok_cl3 hna2 ?_
    generalize hPP : H ++ b1.flatMap bBrn = PP at hPl e4 ⊢
    have hgb : (rbytes nxt aux name at_ merge bs)[((PP.length : Int) + 1 + b.name.length).toNat]? = some (u8 b.id) := by
      rw [e4, show ((PP.length : Int) + 1 + b.name.length).toNat = (PP ++ (u8 (b.name.length : Int) :: b.name)).length by simp; omega,
        show PP ++ (u8 (b.name.length : Int) :: (b.name ++ (u8 b.id :: b2.flatMap bBrn))) = (PP ++ (u8 (b.name.length : Int) :: b.name)) ++ (u8 b.id :: b2.flatMap bBrn) by simp, List.getElem?_append_right (Nat.le_refl _), Nat.sub_self]
      rfl
    have ub : ((u8 b.id).toNat : Int) = b.id := u8_nat (by omega) (by omega)
    have hval : Ok (cond (!true) (some (true)) (cond (decide (((rbytes nxt aux name at_ merge bs).length : Int) ≤ (PP.length : Int) + 1 + b.name.length)) (some (true)) (Option.bind (ixL (rbytes nxt aux name at_ merge bs) ((PP.length : Int) + 1 + b.name.length)) fun x4 => some ((decide ((48 : Int) < (x4.toNat : Int))))))) (fun v => v = false) := by
      refine Ok_cond (fun hh => nomatch hh) (fun _ => Ok_ite (fun hh => by omega) (fun _ => Ok_ix (by omega) (by omega) (fun x4 hx4 => Ok.some' ?_)))
      obtain rfl := Option.some.inj (hgb.symm.trans hx4)
      rw [ub]; exact decide_eq_false (by omega)
    refine Ok_ob1 (Ok.mono hval (fun v hv => ?_))
    subst hv
    refine Ok_cond (fun hh => nomatch hh) (fun _ => Ok_ix (by omega) (by omega) (fun x5 hx5 => ?_))
    obtain rfl := Option.some.inj (hgb.symm.trans hx5)
    rw [ub]
    refine Ok_ck (by omega) (by omega) (Ok_nm ?_)
    rw [wi_e (x := (PP.length : Int) + 1 + b.name.length + 1) (by omega) (by omega), wi_e (x := (b1.length : Int) + 1) (by omega) (by omega)]
    refine ih _ _ _ ⟨b1 ++ [b], b2, by rw [hbb]; simp, by simp, ?_, ?_⟩ (by omega)
    · rw [List.flatMap_append, ← List.append_assoc, hPP, List.length_append, List.flatMap_singleton, bBrn_len]; omega
    · funext k
      unfold upI brF
      by_cases e : k = b1.length
      · subst e
        rw [if_pos rfl, if_pos (by omega)]
        simp
      · rw [if_neg e]
        by_cases e2 : 0 ≤ k
        · rw [if_pos e2, if_pos e2, List.getD_eq_getElem?_getD, List.getD_eq_getElem?_getD, List.getElem?_append]
          split
          · rfl
          · rw [List.getElem?_eq_none (l := b1) (by omega), List.getElem?_eq_none (l := [b]) (by rw [List.length_singleton]; omega)]
        · rw [if_neg e2, if_neg e2]
end Go.Proofs.Qxb6500350aGreat
