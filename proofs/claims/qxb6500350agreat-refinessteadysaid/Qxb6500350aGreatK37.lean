/- PLAIN LAW: BRANCHES AND HEAD. -/
import Derived.Test.Qxb6500350aGreatK36
import Derived.Test.Qxb6500350aGreatT139
import Derived.Test.Qxb6500350aGreatT142
import Derived.Test.Qxb6500350aGreatT137
import Derived.Test.Qxb6500350aGreatT153
import Derived.Test.Qxb6500350aGreatT126
set_option linter.unusedVariables false
set_option linter.unusedSimpArgs false
set_option maxHeartbeats 1000000
namespace Go.Proofs.Qxb6500350aGreat
open Go.Eng Go
def okN (c : UInt8) : Bool := ((decide ((97 : Int) ≤ (c.toNat : Int))) && (decide ((c.toNat : Int) ≤ 122))) || ((decide ((48 : Int) ≤ (c.toNat : Int))) && (decide ((c.toNat : Int) ≤ 57)))
def goodN (p : Str) : Bool := decide (1 ≤ p.length ∧ p.length ≤ 6) && p.all okN
theorem goodN_len {p : Str} (h : goodN p = true) : 1 ≤ p.length ∧ p.length ≤ 6 := by
  unfold goodN at h
  rw [Bool.and_eq_true, decide_eq_true_eq] at h
  exact h.1
theorem goodName_ok {n : Nat} {p : Str} (hn : 100000 ≤ n) : m136 n p = some (goodN p) := by
  refine Ok.eq ?_
  unfold m136
  refine Ok_iteO (fun h => Ok.some' ?_) (fun h0 h1 => Ok_flow ?_)
  · unfold goodN; rw [decide_eq_false (by omega)]; rfl
  · have hg : goodN p = p.all okN := by unfold goodN; rw [decide_eq_true ⟨by omega, by omega⟩]; rfl
    rw [hg]
    unfold m136_w1
    refine Ok_it1 (fun (c : Int) => 0 ≤ c ∧ c ≤ p.length ∧ (p.take c.toNat).all okN = true) (fun (c : Int) => ((p.length : Int) - c).toNat) ?_ n 0 ⟨by omega, by omega, by simp⟩ (by show ((p.length : Int) - 0).toNat < n; omega)
    rintro Q lp c hQ ⟨i0, i1, i2⟩ ih
    refine Ok_ite (fun hc => Ok_sIx (by omega) hc (fun x hx => ?_)) (fun hc => ?_)
    · refine Ok_iteN (fun hb => Ok_bs (Ok.some' (hQ _ (Ok.some' ?_)))) (fun hb => ?_)
      · rw [eq_comm, ← Bool.not_eq_true]
        intro h
        have : okN x = true := List.all_eq_true.1 h x (List.mem_of_getElem? hx)
        unfold okN at this
        rw [hb] at this; cases this
      · rw [wi_e (by omega) (by omega)]
        refine ih _ ⟨by omega, by omega, ?_⟩ (by omega)
        rw [show (c + 1).toNat = c.toNat + 1 by omega, List.take_add_one, hx, List.all_append, i2]
        simp only [Option.toList_some, List.all_cons, List.all_nil, Bool.and_true, Bool.true_and]
        exact hb
    · obtain rfl : c = p.length := by omega
      rw [Int.toNat_natCast, List.take_length] at i2
      exact Ok.some' (hQ _ (Ok.some' i2.symm))
theorem brF_out {bs : List Brn} {k : Int} (h : (bs.length : Int) ≤ k) : brF bs k = Brn.zero := by
  unfold brF
  rw [if_pos (by omega), List.getD_eq_getElem?_getD, List.getElem?_eq_none (by omega)]; rfl
theorem brF_neg {bs : List Brn} {k : Int} (h : k < 0) : brF bs k = Brn.zero := by unfold brF; rw [if_neg (by omega)]
theorem brF_app {a b : List Brn} {k : Int} : brF (a ++ b) k = if k < a.length then brF a k else brF b (k - a.length) := by
  by_cases h0 : 0 ≤ k
  · by_cases h : k < a.length
    · rw [if_pos h]
      unfold brF
      rw [if_pos h0, if_pos h0, List.getD_eq_getElem?_getD, List.getD_eq_getElem?_getD, List.getElem?_append_left (by omega)]
    · rw [if_neg h]
      unfold brF
      rw [if_pos h0, if_pos (by omega), List.getD_eq_getElem?_getD, List.getD_eq_getElem?_getD, List.getElem?_append_right (by omega), show k.toNat - a.length = (k - a.length).toNat by omega]
  · rw [if_pos (by omega), brF_neg (by omega), brF_neg (by omega)]
theorem brF_cons {x : Brn} {b : List Brn} {k : Int} : brF (x :: b) k = if k = 0 then x else brF b (k - 1) := by
  by_cases h0 : 0 < k
  · rw [if_neg (by omega)]
    unfold brF
    rw [if_pos (by omega), if_pos (by omega), List.getD_eq_getElem?_getD, List.getD_eq_getElem?_getD, show k.toNat = (k - 1).toNat + 1 by omega, List.getElem?_cons_succ]
  · by_cases h1 : k = 0
    · subst h1; rfl
    · rw [if_neg h1, brF_neg (by omega), brF_neg (by omega)]
/-- where a name stands among sorted rows -/
structure Where (bs : List Brn) (name : Str) (b1 b2 : List Brn) : Prop where
  eq : bs = b1 ++ b2
  lo : ∀ b, b ∈ b1 → sLt b.name name = true
  hi : ∀ b r, b2 = b :: r → sLt b.name name = false
/-- the running branches of g are bs -/
structure Brs (g : Graph) (bs : List Brn) : Prop where
  nb : g.nb = bs.length
  br : g.br = brF bs
  le : bs.length ≤ 4
section
variable {n : Nat} {g : Graph} {bs : List Brn}
theorem where_ok {name : Str} (hn : 100000 ≤ n) (h : Brs g bs) : Ok (m218 n g name) (fun r => ∃ b1 b2, Where bs name b1 b2 ∧ r.1 = b1.length ∧ (r.2 = true ↔ ∃ b t, b2 = b :: t ∧ b.name = name)) := by
  have hnb := h.nb
  have hle := h.le
  unfold m218
  refine Ok_ob1 ?_
  unfold m218_w1
  refine Ok_it1 (fun (c : Int) => ∃ b1 b2, bs = b1 ++ b2 ∧ c = b1.length ∧ ∀ b, b ∈ b1 → sLt b.name name = true) (fun (c : Int) => ((bs.length : Int) - c).toNat) ?_ n 0 ⟨[], bs, rfl, rfl, by simp⟩ (by show ((bs.length : Int) - 0).toNat < n; omega)
  rintro Q lp c hQ ⟨b1, b2, hb, rfl, i2⟩ ih
  have hlen : (bs.length : Int) = b1.length + b2.length := by rw [hb]; simp
  cases b2 with
  | nil =>
    simp only [List.length_nil] at hlen
    refine Ok_ob1 (Ok_ite (fun hc => by omega) (fun _ => Ok.some' (Ok_cond (fun e => nomatch e) (fun _ => Ok.some' (hQ _ ?_)))))
    refine Ok_ob2 (Ok_ite (fun hc => by omega) (fun _ => Ok.some' (Ok.some' ⟨b1, [], ⟨hb, i2, fun b r e => nomatch e⟩, rfl, ?_⟩)))
    exact ⟨(fun e => nomatch e), (fun ⟨b, t, e, _⟩ => nomatch e)⟩
  | cons b b2 =>
    rw [List.length_cons] at hlen
    have hbr : g.br b1.length = b := by
      rw [h.br, hb, brF_app, if_neg (by omega), brF_cons, if_pos (by omega)]
    refine Ok_ob1 (Ok_ite (fun hc => Ok_ck (by omega) (by omega) (Ok.some' ?_)) (fun hc => by omega))
    rw [hbr]
    refine Ok_cond (fun hlt => ?_) (fun hlt => Ok.some' (hQ _ ?_))
    · rw [wi_e (by omega) (by omega)]
      refine ih _ ⟨b1 ++ [b], b2, by rw [hb]; simp, by simp, fun x hx => ?_⟩ (by omega)
      rcases List.mem_append.1 hx with hx | hx
      · exact i2 x hx
      · rw [List.mem_singleton.1 hx]; exact hlt
    · refine Ok_ob2 (Ok_ite (fun hc => Ok_ck (by omega) (by show (b1.length : Int) < 4; omega) (Ok.some' (Ok.some' ⟨b1, b :: b2, ⟨hb, i2, fun x r e => by rw [← (List.cons.inj e).1]; exact hlt⟩, rfl, ?_⟩))) (fun hc => absurd (show (b1.length : Int) < g.nb by omega) hc))
      show decide ((g.br b1.length).name = name) = true ↔ _
      rw [hbr, decide_eq_true_eq]
      exact ⟨fun e => ⟨b, b2, rfl, e⟩, fun ⟨x, t, e, e2⟩ => by rw [(List.cons.inj e).1]; exact e2⟩
/-- the rows with name at id -/
def insB (b1 b2 : List Brn) (name : Str) (id : Int) : List Brn := b1 ++ { name := name, id := id } :: (match b2 with | b :: t => if b.name = name then t else b :: t | [] => [])
theorem setBranch_ok {ord : List Int} {name : Str} {seq : Int} (hn : 100000 ≤ n) (h : Brs g bs) (ho : Ordr g ord) :
    Ok (m139 n g name seq) (fun r => (goodN name = false ∧ r = (14, g)) ∨ (goodN name = true ∧ (∀ i, i ∈ ord → (g.com i).seq ≠ seq) ∧ r = (17, g)) ∨
      (goodN name = true ∧ ∃ id b1 b2, id ∈ ord ∧ (g.com id).seq = seq ∧ Where bs name b1 b2 ∧ ((4 ≤ bs.length ∧ (∀ b t, b2 = b :: t → b.name ≠ name) ∧ r = (8, g)) ∨
        (r = (0, { g with br := brF (insB b1 b2 name id), nb := (insB b1 b2 name id).length }) ∧ (insB b1 b2 name id).length ≤ 4)))) := by
  have hnb := h.nb
  have hle := h.le
  unfold m139
  refine Ok_cl1 (goodName_ok hn) (Ok_iteN (fun hg => Ok.some' (.inl ⟨hg, rfl⟩)) (fun hg => ?_))
  refine Ok_ob1 (Ok.mono (find_ok' hn ho seq) (fun id hid => ?_))
  rcases hid with ⟨rfl, hno⟩ | ⟨hid, hsq⟩
  · exact Ok_ite (fun _ => Ok.some' (.inr (.inl ⟨hg, hno, rfl⟩))) (fun e => absurd rfl e)
  · have hrg := ho.rng id hid
    refine Ok_ite (fun e => by omega) (fun _ => Ok_ob2 (Ok.mono (where_ok hn h) (fun r hr => ?_)))
    obtain ⟨b1, b2, hw, hr1, hr2⟩ := hr
    obtain ⟨c3, hit⟩ := r
    simp only at hr1 hr2
    subst hr1
    have hlen : (bs.length : Int) = b1.length + b2.length := by rw [hw.eq]; simp
    refine Ok_cond (fun hh => ?_) (fun hh => ?_)
    · obtain ⟨b, t, rfl, hbn⟩ := hr2.1 hh
      rw [List.length_cons] at hlen
      refine Ok_ck (by omega) (by show (b1.length : Int) < 4; omega) (Ok_nm (Ok.some' (.inr (.inr ⟨hg, id, b1, b :: t, hid, hsq, hw, .inr ?_⟩))))
      have hins : insB b1 (b :: t) name id = b1 ++ { name := name, id := id } :: t := by unfold insB; simp only [if_pos hbn]
      rw [hins]
      have hl2 : (b1 ++ ({ name := name, id := id } : Brn) :: t).length = bs.length := by rw [hw.eq]; simp
      refine ⟨?_, by rw [hl2]; exact hle⟩
      rw [hl2]
      show ((0 : Int), { g with br := upI g.br b1.length { (g.br b1.length) with id := id } }) = _
      have : upI g.br b1.length { (g.br b1.length) with id := id } = brF (b1 ++ { name := name, id := id } :: t) := by
        have hgb : g.br b1.length = b := by rw [h.br, hw.eq, brF_app, if_neg (by omega), brF_cons, if_pos (by omega)]
        funext k
        unfold upI
        rw [hgb, brF_app (b := ({ name := name, id := id } : Brn) :: t)]
        by_cases e : k = b1.length
        · rw [if_pos e, if_neg (by omega), brF_cons, if_pos (by omega)]
          show ({ name := b.name, id := id } : Brn) = _
          rw [hbn]
        · rw [if_neg e, h.br, hw.eq, brF_app]
          by_cases e2 : k < b1.length
          · rw [if_pos e2, if_pos e2]
          · rw [if_neg e2, if_neg e2, brF_cons, brF_cons, if_neg (by omega), if_neg (by omega)]
      rw [this, ← hnb]
    · have hno : ∀ b t, b2 = b :: t → b.name ≠ name := fun b t e e2 => by rw [hr2.2 ⟨b, t, e, e2⟩] at hh; cases hh
      have hins : insB b1 b2 name id = b1 ++ { name := name, id := id } :: b2 := by
        unfold insB
        cases b2 with
        | nil => rfl
        | cons b t => simp only [if_neg (hno b t rfl)]
      refine Ok_ite (fun h4 => Ok.some' (.inr (.inr ⟨hg, id, b1, b2, hid, hsq, hw, .inl ⟨by omega, hno, rfl⟩⟩))) (fun h4 => Ok_ob2 ?_)
      unfold m139_w1
      refine Ok_it2 (fun (c : Int) (z : Graph) => (b1.length : Int) ≤ c ∧ c ≤ bs.length ∧ ∃ br, z = { g with br := br } ∧ (∀ k, k < c → br k = brF bs k) ∧ ∀ k, c < k → br k = brF bs (k - 1)) (fun (c : Int) _ => c.toNat) ?_ n g.nb g
        ⟨by omega, by omega, g.br, rfl, fun k _ => by rw [h.br], fun k hk => by rw [h.br, brF_out (by omega), brF_out (by omega)]⟩ (by show g.nb.toNat < n; omega)
      rintro Q lp c z hQ ⟨i0, i1, br, rfl, i2, i3⟩ ih
      refine Ok_ite (fun hc => ?_) (fun hc => ?_)
      · have hc : (b1.length : Int) < c := hc
        rw [wi_e (by omega) (by omega)]
        refine Ok_ck (by omega) (by omega) (Ok_ck (by omega) (by omega) (Ok_nm ?_))
        refine ih _ _ ⟨by omega, by omega, upI br c (br (c - 1)), rfl, fun k hk => ?_, fun k hk => ?_⟩ (by omega)
        · unfold upI; rw [if_neg (by omega)]; exact i2 k (by omega)
        · unfold upI
          by_cases e : k = c
          · subst e; rw [if_pos rfl]; exact i2 _ (by omega)
          · rw [if_neg e]; exact i3 k (by omega)
      · have hc : ¬ (b1.length : Int) < c := hc
        obtain rfl : c = b1.length := by omega
        refine Ok.some' (hQ _ (Ok_ck (by omega) (by show (b1.length : Int) < 4; omega) (Ok_nm (Ok_nm (Ok.some' (.inr (.inr ⟨hg, id, b1, b2, hid, hsq, hw, .inr ?_⟩)))))))
        rw [hins]
        have hl2 : ((b1 ++ ({ name := name, id := id } : Brn) :: b2).length : Int) = bs.length + 1 := by simp; omega
        refine ⟨?_, by omega⟩
        show ((0 : Int), { g with br := upI br b1.length { name := name, id := id }, nb := wi (g.nb + 1) }) = _
        have : upI br b1.length { name := name, id := id } = brF (b1 ++ { name := name, id := id } :: b2) := by
          funext k
          unfold upI
          rw [brF_app, brF_cons]
          by_cases e : k = b1.length
          · subst e; rw [if_pos rfl, if_neg (by omega), if_pos (by omega)]
          · rw [if_neg e]
            by_cases e2 : k < b1.length
            · rw [if_pos e2, i2 k e2, hw.eq, brF_app, if_pos e2]
            · rw [if_neg e2, if_neg (by omega), i3 k (by omega), hw.eq, brF_app, if_neg (by omega)]
              congr 1; omega
        rw [this, wi_e (by omega) (by omega), hnb, hl2]
theorem delBranch_ok {name : Str} (hn : 100000 ≤ n) (h : Brs g bs) :
    Ok (m142 n g name) (fun r => (goodN name = false ∧ r = (14, g)) ∨ (goodN name = true ∧ ∃ b1 b2, Where bs name b1 b2 ∧ (((∀ b t, b2 = b :: t → b.name ≠ name) ∧ r = (16, g)) ∨
      ∃ b t, b2 = b :: t ∧ b.name = name ∧ r = (0, { g with br := brF (b1 ++ t), nb := (b1 ++ t).length })))) := by
  have hnb := h.nb
  have hle := h.le
  unfold m142
  refine Ok_cl1 (goodName_ok hn) (Ok_iteN (fun hg => Ok.some' (.inl ⟨hg, rfl⟩)) (fun hg => ?_))
  refine Ok_ob2 (Ok.mono (where_ok hn h) (fun r hr => ?_))
  obtain ⟨b1, b2, hw, hr1, hr2⟩ := hr
  obtain ⟨c3, hit⟩ := r
  simp only at hr1 hr2
  subst hr1
  have hlen : (bs.length : Int) = b1.length + b2.length := by rw [hw.eq]; simp
  refine Ok_iteN (fun hh => Ok.some' (.inr ⟨hg, b1, b2, hw, .inl ⟨fun b t e e2 => ?_, rfl⟩⟩)) (fun hh => ?_)
  · have hh : hit = false := hh
    rw [hr2.2 ⟨b, t, e, e2⟩] at hh; cases hh
  · obtain ⟨b, t, rfl, hbn⟩ := hr2.1 hh
    rw [List.length_cons] at hlen
    refine Ok_ob2 ?_
    unfold m142_w1
    refine Ok_it2 (fun (c : Int) (z : Graph) => (b1.length : Int) ≤ c ∧ c + 1 ≤ bs.length ∧ ∃ br, z = { g with br := br } ∧ (∀ k : Int, k < b1.length → br k = brF bs k) ∧ (∀ k : Int, (b1.length : Int) ≤ k → k < c → br k = brF bs (k + 1)) ∧ ∀ k : Int, c ≤ k → br k = brF bs k) (fun (c : Int) _ => ((bs.length : Int) - c).toNat) ?_ n _ g
      ⟨by omega, by omega, g.br, rfl, fun k _ => by rw [h.br], fun k h1 h2 => absurd h2 (by show ¬ k < (b1.length : Int); omega), fun k _ => by rw [h.br]⟩ (by show ((bs.length : Int) - b1.length).toNat < n; omega)
    rintro Q lp c z hQ ⟨i0, i1, br, rfl, i2, i3, i4⟩ ih
    rw [wi_e (x := c + 1) (by omega) (by omega)]
    refine Ok_ite (fun hc => ?_) (fun hc => ?_)
    · have hc : c + 1 < g.nb := hc
      refine Ok_ck (by omega) (by omega) (Ok_ck (by omega) (by omega) (Ok_nm ?_))
      refine ih _ _ ⟨by omega, by omega, upI br c (br (c + 1)), rfl, fun k hk => ?_, fun k h1 h2 => ?_, fun k hk => ?_⟩ (by omega)
      · unfold upI; rw [if_neg (by omega)]; exact i2 k hk
      · unfold upI
        by_cases e : k = c
        · subst e; rw [if_pos rfl]; exact i4 _ (by omega)
        · rw [if_neg e]; exact i3 k h1 (by omega)
      · unfold upI; rw [if_neg (by omega)]; exact i4 k (by omega)
    · have hc : ¬ c + 1 < g.nb := hc
      refine Ok.some' (hQ _ (Ok_nm ?_))
      have hnw : wi (g.nb - 1) = (bs.length : Int) - 1 := by rw [wi_e (by omega) (by omega), hnb]
      show Ok (Option.bind (ckA (wi (g.nb - 1)) 4) fun _ => nm ({ g with br := upI br (wi (g.nb - 1)) Brn.zero, nb := wi (g.nb - 1) } : Graph) fun z5 => some (0, z5)) _
      rw [hnw]
      refine Ok_ck (by omega) (by omega) (Ok_nm (Ok.some' (.inr ⟨hg, b1, b :: t, hw, .inr ⟨b, t, rfl, hbn, ?_⟩⟩)))
      have hl2 : ((b1 ++ t).length : Int) = bs.length - 1 := by simp; omega
      have : upI br ((bs.length : Int) - 1) Brn.zero = brF (b1 ++ t) := by
        funext k
        unfold upI
        by_cases e : k = bs.length - 1
        · rw [if_pos e, brF_out (by omega)]
        · rw [if_neg e]
          by_cases e2 : k < b1.length
          · rw [i2 k e2, hw.eq, brF_app, brF_app, if_pos e2, if_pos e2]
          · by_cases e3 : k < c
            · rw [i3 k (by omega) e3, hw.eq, brF_app, brF_app, if_neg (by omega), if_neg e2, brF_cons, if_neg (by omega)]
              congr 1; omega
            · rw [i4 k (by omega), brF_out (by omega), brF_out (by omega)]
      rw [this, hl2]
/-- a branch as shown -/
def toRef (sq : Int → Int) (b : Brn) : Ref_ := { name := b.name, seq := sq b.id }
theorem branches_ok (hn : 100000 ≤ n) (h : Brs g bs) (hr : ∀ b, b ∈ bs → 1 ≤ b.id ∧ b.id ≤ 48) : m137 n g = some (bs.map (toRef fun i => (g.com i).seq)) := by
  have hnb := h.nb
  have hle := h.le
  refine Ok.eq ?_
  unfold m137
  refine Ok_ob2 ?_
  unfold m137_w1
  refine Ok_it2 (fun (l : List Ref_) (c : Int) => 0 ≤ c ∧ c ≤ bs.length ∧ l = (bs.take c.toNat).map (toRef fun i => (g.com i).seq)) (fun _ (c : Int) => ((bs.length : Int) - c).toNat) ?_ n [] 0 ⟨by omega, by omega, by simp⟩ (by show ((bs.length : Int) - 0).toNat < n; omega)
  rintro Q lp l c hQ ⟨i0, i1, rfl⟩ ih
  refine Ok_ite (fun hc => ?_) (fun hc => ?_)
  · have hg := brF_get (bs := bs) i0 (by omega)
    have hm := hr _ (List.mem_of_getElem? hg)
    refine Ok_ck (by omega) (by omega) (Ok_cl1 (seqOf_ok _) (Ok_ck (by omega) (by omega) (Ok_apd (by rw [List.length_map, List.length_take]; omega) ?_)))
    rw [h.br, if_pos hm, wi_e (by omega) (by omega)]
    refine ih _ _ ⟨by omega, by omega, ?_⟩ (by omega)
    rw [show (c + 1).toNat = c.toNat + 1 by omega, List.take_add_one, hg, List.map_append]; rfl
  · obtain rfl : c = bs.length := by omega
    refine Ok.some' (hQ _ (Ok.some' ?_))
    rw [Int.toNat_natCast, List.take_length]
def sqo (g : Graph) (i : Int) : Int := if 1 ≤ i ∧ i ≤ 48 then (g.com i).seq else 0
theorem head_ok : m126 n g = some { name := g.name, seq := sqo g g.at_, merge := sqo g g.merge } := by
  refine Ok.eq ?_
  unfold m126
  exact Ok_cl1 (seqOf_ok _) (Ok_cl1 (seqOf_ok _) (Ok_nm (Ok.some' rfl)))
/-- SetHead, where its arguments are lawful -/
theorem setHead_ok {ord : List Int} {hd : Head} (hn : 100000 ≤ n) (ho : Ordr g ord) (h1 : hd.name ≠ [] → goodN hd.name = true) (h2 : hd.name = [] → ∃ i, i ∈ ord ∧ (g.com i).seq = hd.seq) (h3 : hd.merge ≠ 0 → ∃ i, i ∈ ord ∧ (g.com i).seq = hd.merge) :
    Ok (m153 n g hd) (fun r => ∃ a m, r = (0, { g with name := hd.name, at_ := a, merge := m }) ∧ (hd.name ≠ [] ∧ a = 0 ∨ hd.name = [] ∧ a ∈ ord ∧ (g.com a).seq = hd.seq) ∧ (hd.merge = 0 ∧ m = 0 ∨ hd.merge ≠ 0 ∧ m ∈ ord ∧ (g.com m).seq = hd.merge)) := by
  unfold m153
  refine Ok_flow ?_
  have fin : ∀ a, (hd.name ≠ [] ∧ a = 0 ∨ hd.name = [] ∧ a ∈ ord ∧ (g.com a).seq = hd.seq) → Ok (un1 (fun c1 => flow (cond (decide (¬ (hd.merge = 0))) (ob1 (m211 n g hd.merge) fun c5 => cond (decide (c5 = 0)) (Option.bind (some (17, g)) fun q4 => some (.ret q4)) (some (.nx c5))) (some (.nx 0))) some (un1 fun c4 =>
      nm ({ g with name := hd.name } : Graph) fun z1 => nm ({ z1 with at_ := c1 } : Graph) fun z2 => nm ({ z2 with merge := c4 } : Graph) fun z3 => some ((0 : Int), z3))) a) (fun r => ∃ a m, r = (0, { g with name := hd.name, at_ := a, merge := m }) ∧ (hd.name ≠ [] ∧ a = 0 ∨ hd.name = [] ∧ a ∈ ord ∧ (g.com a).seq = hd.seq) ∧ (hd.merge = 0 ∧ m = 0 ∨ hd.merge ≠ 0 ∧ m ∈ ord ∧ (g.com m).seq = hd.merge)) := by
    intro a ha
    refine Ok_flow (Ok_ite (fun hm => ?_) (fun hm => Ok.some' ?_))
    · refine Ok_ob1 (Ok.mono (find_ok' hn ho hd.merge) (fun m hmm => ?_))
      rcases hmm with ⟨rfl, hno⟩ | ⟨hmo, hsq⟩
      · obtain ⟨i, i1, i2⟩ := h3 hm; exact absurd i2 (hno i i1)
      · have := ho.rng m hmo
        refine Ok_ite (fun e => by omega) (fun _ => Ok.some' ?_)
        exact Ok_nm (Ok_nm (Ok_nm (Ok.some' ⟨a, m, rfl, ha, .inr ⟨hm, hmo, hsq⟩⟩)))
    · exact Ok_nm (Ok_nm (Ok_nm (Ok.some' ⟨a, 0, rfl, ha, .inl ⟨Classical.not_not.1 hm, rfl⟩⟩)))
  refine Ok_iteN (fun hnm => ?_) (fun hnm => ?_)
  · have hnm : hd.name ≠ [] := of_decide_eq_false hnm
    refine Ok_cl1 (goodName_ok hn) ?_
    rw [h1 hnm]
    exact Ok_iteN (fun e => nomatch e) (fun _ => Ok.some' (fin 0 (.inl ⟨hnm, rfl⟩)))
  · have hnm : hd.name = [] := of_decide_eq_true hnm
    refine Ok_ob1 (Ok.mono (find_ok' hn ho hd.seq) (fun a haa => ?_))
    rcases haa with ⟨rfl, hno⟩ | ⟨hao, hsq⟩
    · obtain ⟨i, i1, i2⟩ := h2 hnm; exact absurd i2 (hno i i1)
    · have := ho.rng a hao
      exact Ok_ite (fun e => by omega) (fun _ => Ok.some' (fin a (.inr ⟨hnm, hao, hsq⟩)))
end
end Go.Proofs.Qxb6500350aGreat
