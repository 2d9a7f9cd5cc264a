/- PLAIN LAW: LAWFUL PATHS AND LISTS. -/
import Derived.Test.Qxb6500350aGreatK28
import Derived.Test.Qxb6500350aGreatT287
import Derived.Test.Qxb6500350aGreatT152
set_option linter.unusedVariables false
set_option linter.unusedSimpArgs false
set_option maxHeartbeats 1000000
namespace Go.Proofs.Qxb6500350aGreat
open Go.Eng Go
def okPart (p : Str) : Bool := !(((decide (p = [])) || (decide (p = [46]))) || (decide (p = [46, 46])))
/-- the rest r of a path, behind the bytes cur of the part under way -/
def gp : Str → Str → Bool
  | cur, [] => okPart cur
  | cur, c :: r => if c = 47 then okPart cur && gp [] r else !(decide ((c.toNat : Int) ≤ 32) || decide ((127 : Int) ≤ (c.toNat : Int))) && gp (cur ++ [c]) r
def goodP (p : Str) : Bool := decide (1 ≤ p.length ∧ p.length ≤ 12) && gp [] p
theorem okPart_ne {p : Str} (h : okPart p = true) : p ≠ [] := by rintro rfl; exact absurd h (by decide)
theorem goodPath_ok {n : Nat} {p : Str} (hn : 100000 ≤ n) : m113 n p = some (goodP p) := by
  refine Ok.eq ?_
  unfold m113
  refine Ok_iteO (fun h => Ok.some' ?_) (fun h0 h1 => ?_)
  · unfold goodP; rw [decide_eq_false (by omega)]; rfl
  · have hg : goodP p = gp [] p := by unfold goodP; rw [decide_eq_true ⟨by omega, by omega⟩]; rfl
    rw [hg]
    refine Ok_flow ?_
    unfold m113_w1
    refine Ok_it2 (fun (s i : Int) => 0 ≤ s ∧ s ≤ i ∧ i ≤ p.length + 1 ∧ (i ≤ p.length → gp [] p = gp ((p.take i.toNat).drop s.toNat) (p.drop i.toNat)) ∧ (i = p.length + 1 → gp [] p = true)) (fun (_ i : Int) => (p.length + 1 - i).toNat) ?_ n 0 0
      ⟨by omega, by omega, by omega, fun _ => by simp, fun e => by omega⟩ (by show ((p.length : Int) + 1 - 0).toNat < n; omega)
    rintro Q lp s i hQ ⟨i0, i1, i2, i3, i4⟩ ih
    refine Ok_ite (fun hi => ?_) (fun hi => ?_)
    · have i3 := i3 hi
      have hw : wi (i + 1) = i + 1 := wi_e (by omega) (by omega)
      -- the end of a part
      have fin : ∀ r : Str, p.drop i.toNat = r → (r = [] ∧ i = p.length ∨ ∃ r', r = 47 :: r' ∧ i < p.length) → Ok (Option.bind (sSl p s i) fun s1 => cond (((decide (s1 = [])) || (decide (s1 = [46]))) || (decide (s1 = [46, 46]))) (Option.bind (some false) fun q1 => some (.ret q1)) (lp (wi (i + 1)) (wi (i + 1)))) Q := by
        intro r hr hr2
        refine Ok_sSl (by omega) i1 hi ?_
        generalize hcur : (p.take i.toNat).drop s.toNat = cur at i3 ⊢
        rw [hr] at i3
        refine Ok_cond (fun hb => Ok_bs (Ok.some' (hQ _ (Ok.some' ?_)))) (fun hb => ?_)
        · have hk : okPart cur = false := by unfold okPart; rw [hb]; rfl
          rw [i3]
          rcases hr2 with ⟨rfl, _⟩ | ⟨r', rfl, _⟩
          · exact hk.symm
          · show false = (if (47 : UInt8) = 47 then okPart cur && gp [] r' else _)
            rw [if_pos rfl, hk]; rfl
        · have hk : okPart cur = true := by unfold okPart; rw [hb]; rfl
          rw [hw]
          refine ih _ _ ⟨by omega, by omega, by omega, fun h => ?_, fun h => ?_⟩ (by omega)
          · rcases hr2 with ⟨_, e⟩ | ⟨r', rfl, _⟩
            · omega
            · rw [i3]
              have e1 : p.drop (i + 1).toNat = r' := by rw [show (i + 1).toNat = i.toNat + 1 by omega, ← List.drop_drop, hr]; rfl
              have e2 : (p.take (i + 1).toNat).drop (i + 1).toNat = [] := List.drop_eq_nil_of_le (by rw [List.length_take]; omega)
              rw [e1, e2]
              show (if (47 : UInt8) = 47 then okPart cur && gp [] r' else _) = _
              rw [if_pos rfl, hk]; rfl
          · rcases hr2 with ⟨rfl, e⟩ | ⟨r', rfl, e⟩
            · rw [i3]; exact hk
            · omega
      refine Ok_ob1 (Ok_ite (fun he => Ok.some' ?_) (fun he => ?_))
      · refine Ok_cond (fun _ => fin [] (List.drop_eq_nil_of_le (by omega)) (.inl ⟨rfl, he⟩)) (fun h => nomatch h)
      · refine Ok_sIx (by omega) (by omega) (fun c hc => Ok.some' ?_)
        have hd : p.drop i.toNat = c :: p.drop (i.toNat + 1) := by
          have hlt : i.toNat < p.length := by omega
          rw [List.drop_eq_getElem_cons hlt]
          congr 1
          rw [List.getElem?_eq_getElem hlt] at hc; exact Option.some.inj hc
        refine Ok_ite (fun h47 => ?_) (fun h47 => ?_)
        · have : c = 47 := UInt8.toNat_inj.1 (by show c.toNat = 47; omega)
          subst this
          exact fin _ hd (.inr ⟨_, rfl, by omega⟩)
        · have hne : c ≠ 47 := by rintro rfl; exact h47 rfl
          refine Ok_ob1 (Ok_sIx (by omega) (by omega) (fun c8 hc8 => ?_))
          obtain rfl : c = c8 := Option.some.inj (hc.symm.trans hc8)
          have hval : Ok (cond (decide ((c.toNat : Int) ≤ 32)) (some true) (Option.bind (sIx p i) fun c9 => some ((decide ((127 : Int) ≤ (c9.toNat : Int)))))) (fun b => b = (decide ((c.toNat : Int) ≤ 32) || decide ((127 : Int) ≤ (c.toNat : Int)))) := by
            refine Ok_ite (fun h => Ok.some' (by rw [decide_eq_true h]; rfl)) (fun h => Ok_sIx (by omega) (by omega) (fun c9 hc9 => Ok.some' ?_))
            obtain rfl : c = c9 := Option.some.inj (hc.symm.trans hc9)
            rw [decide_eq_false h]; rfl
          rw [hd] at i3
          have i3' : gp [] p = (!(decide ((c.toNat : Int) ≤ 32) || decide ((127 : Int) ≤ (c.toNat : Int))) && gp (((p.take i.toNat).drop s.toNat) ++ [c]) (p.drop (i.toNat + 1))) := by
            rw [i3]
            show (if c = 47 then _ else _) = _
            rw [if_neg hne]
          refine Ok.mono hval (fun b hb => ?_)
          subst hb
          refine Ok_cond (fun hb => Ok_bs (Ok.some' (hQ _ (Ok.some' ?_)))) (fun hb => ?_)
          · rw [i3', hb]; rfl
          · rw [hw]
            refine ih _ _ ⟨i0, by omega, by omega, fun h => ?_, fun h => by omega⟩ (by omega)
            rw [i3', hb, show (i + 1).toNat = i.toNat + 1 by omega, List.take_add_one, hc, List.drop_append_of_le_length (by rw [List.length_take]; omega)]
            rfl
    · have : i = p.length + 1 := by omega
      exact Ok.some' (hQ _ (Ok.some' (i4 this).symm))
theorem gp_rel : ∀ (r : Str) (m : Nat) (cur : Str), gp cur r = true → (47 : UInt8) ∉ cur → (cur ++ r).length ≤ 2 * m → Rel m (cur ++ r)
  | [], m, cur, h, hc, hm => by
    have hne := okPart_ne h
    rw [List.append_nil] at hm ⊢
    cases m with
    | zero => cases cur with | nil => exact absurd rfl hne | cons a b => simp at hm
    | succ m => exact ⟨hne, .inl hc⟩
  | c :: r, m, cur, h, hc, hm => by
    unfold gp at h
    by_cases h47 : c = 47
    · subst h47
      rw [if_pos rfl, Bool.and_eq_true] at h
      have hne := okPart_ne h.1
      have hlen : 1 ≤ cur.length := by cases cur with | nil => exact absurd rfl hne | cons a b => simp
      simp only [List.length_append, List.length_cons] at hm
      cases m with
      | zero => omega
      | succ m => exact ⟨by simp, .inr ⟨cur, r, rfl, hne, hc, by simpa using gp_rel r m [] h.2 (by simp) (by simp; omega)⟩⟩
    · rw [if_neg h47, Bool.and_eq_true] at h
      have := gp_rel r m (cur ++ [c]) h.2 (by simp [hc]; exact fun e => h47 e.symm) (by simpa using hm)
      simpa using this
theorem goodP_rel {p : Str} (h : goodP p = true) : Rel 6 p := by
  unfold goodP at h
  rw [Bool.and_eq_true, decide_eq_true_eq] at h
  simpa using gp_rel p 6 [] h.2 (by simp) (by simp; omega)
theorem goodP_len {p : Str} (h : goodP p = true) : 1 ≤ p.length ∧ p.length ≤ 12 := by
  unfold goodP at h
  rw [Bool.and_eq_true, decide_eq_true_eq] at h
  exact h.1
def clashP (p q : Str) : Bool := (p ++ [47]).isPrefixOf q || (q ++ [47]).isPrefixOf p
theorem clash_ok {n : Nat} {p q : Str} (hp : p.length ≤ 1000000) (hq : q.length ≤ 1000000) : m114 n p q = some (clashP p q) := by
  refine Ok.eq ?_
  unfold m114 clashP
  refine Ok_sAdd (by simp; omega) (Ok_cl1 hasPrefix_ok (Ok_cond (fun h => Ok.some' (by rw [h]; rfl)) (fun h => Ok_sAdd (by simp; omega) (Ok_cl1 hasPrefix_ok (Ok.some' (by rw [h]; rfl))))))
theorem clashP_comm (p q : Str) : clashP p q = clashP q p := by unfold clashP; rw [Bool.or_comm]
/-- the last of prev is below p -/
def lastLt (prev : List Str) (p : Str) : Bool := match prev.getLast? with | none => true | some q => sLt q p
def chkRow (path : Str) (mode size : Int) (prev : List Str) : Int :=
  if goodP path = false then 9 else if mode < 0 ∨ 3 < mode then 10 else if 180 < size then 4 else if lastLt prev path = false then 11 else if prev.any (fun q => clashP q path) = true then 12 else 0
theorem checkRow_ok {n : Nat} {path : Str} {mode size : Int} {prev : List Str} (hn : 100000 ≤ n) (hp : prev.length ≤ 1000) (hl : ∀ q, q ∈ prev → q.length ≤ 1000000) : m229 n path mode size prev = some (chkRow path mode size prev) := by
  refine Ok.eq ?_
  unfold m229 chkRow
  refine Ok_cl1 (goodPath_ok hn) (Ok_iteN (fun h => Ok.some' (by rw [if_pos h])) (fun h => ?_))
  have hgl := goodP_len h
  rw [if_neg (by rw [h]; decide)]
  refine Ok_iteO (fun h1 => Ok.some' (by rw [if_pos h1])) (fun h1 h2 => ?_)
  rw [if_neg (by omega)]
  refine Ok_ite (fun h3 => Ok.some' (by rw [if_pos h3])) (fun h3 => ?_)
  rw [if_neg h3]
  have hlast : Ok (cond (decide ((0 : Int) < (prev.length : Int))) (Option.bind (ixL prev (wi ((prev.length : Int) - 1))) fun x1 => some ((!(sLt x1 path)))) (some (false))) (fun b => b = !lastLt prev path) := by
    refine Ok_ite (fun h4 => ?_) (fun h4 => Ok.some' ?_)
    · rw [wi_e (by omega) (by omega)]
      refine Ok_ix (by omega) (by omega) (fun x hx => Ok.some' ?_)
      unfold lastLt
      rw [List.getLast?_eq_getElem?, show prev.length - 1 = ((prev.length : Int) - 1).toNat by omega, hx]
    · have : prev = [] := List.eq_nil_of_length_eq_zero (by omega)
      subst this; rfl
  refine Ok_ob1 (Ok.mono hlast (fun b hb => ?_))
  subst hb
  refine Ok_cond (fun h5 => Ok.some' ?_) (fun h5 => ?_)
  · rw [if_pos (by simpa using h5)]
  · rw [if_neg (by simpa using h5)]
    refine Ok_flow ?_
    unfold m229_w1
    refine Ok_it1 (fun (j : Int) => 0 ≤ j ∧ j ≤ prev.length ∧ (prev.take j.toNat).any (fun q => clashP q path) = false) (fun (j : Int) => (prev.length - j).toNat) ?_ n 0 ⟨by omega, by omega, by simp⟩ (by show ((prev.length : Int) - 0).toNat < n; omega)
    rintro Q lp j hQ ⟨i0, i1, i2⟩ ih
    refine Ok_ite (fun hj => ?_) (fun hj => ?_)
    · refine Ok_ix (by omega) (by omega) (fun x hx => ?_)
      have hxm := List.mem_of_getElem? hx
      refine Ok_cl1 (clash_ok (hl x hxm) (by omega)) (Ok_cond (fun hc => Ok_bs (Ok.some' (hQ _ (Ok.some' ?_)))) (fun hc => ?_))
      · rw [if_pos (List.any_eq_true.2 ⟨x, hxm, hc⟩)]
      · rw [wi_e (by omega) (by omega)]
        refine ih _ ⟨by omega, by omega, ?_⟩ (by omega)
        rw [show (j + 1).toNat = j.toNat + 1 by omega, List.take_add_one, hx, List.any_append, i2]
        simp [hc]
    · obtain rfl : j = prev.length := by omega
      rw [Int.toNat_natCast, List.take_length] at i2
      exact Ok.some' (hQ _ (Ok.some' (by rw [if_neg (by rw [i2]; decide)])))
def chkG : List Str → List File → Int
  | _, [] => 0
  | prev, f :: r => if chkRow f.path f.mode f.data.length prev = 0 then chkG (prev ++ [f.path]) r else chkRow f.path f.mode f.data.length prev
def chkF (l : List File) : Int := if 8 < l.length then 8 else chkG [] l
theorem chkRow_good {path : Str} {mode size : Int} {prev : List Str} (h : chkRow path mode size prev = 0) : goodP path = true ∧ 0 ≤ mode ∧ mode ≤ 3 ∧ size ≤ 180 ∧ lastLt prev path = true ∧ ∀ q, q ∈ prev → clashP q path = false := by
  unfold chkRow at h
  split at h
  · omega
  · rename_i h1
    split at h
    · omega
    · rename_i h2
      split at h
      · omega
      · rename_i h3
        split at h
        · omega
        · rename_i h4
          split at h
          · omega
          · rename_i h5
            refine ⟨by simpa using h1, by omega, by omega, by omega, by simpa using h4, fun q hq => ?_⟩
            rw [← Bool.not_eq_true]
            exact fun e => h5 (List.any_eq_true.2 ⟨q, hq, e⟩)
theorem chkRow_of {path : Str} {mode size : Int} {prev : List Str} (h1 : goodP path = true) (h2 : 0 ≤ mode) (h3 : mode ≤ 3) (h4 : size ≤ 180) (h5 : lastLt prev path = true) (h6 : ∀ q, q ∈ prev → clashP q path = false) : chkRow path mode size prev = 0 := by
  unfold chkRow
  rw [if_neg (by rw [h1]; decide), if_neg (by omega), if_neg (by omega), if_neg (by rw [h5]; decide), if_neg]
  intro h
  obtain ⟨q, hq, e⟩ := List.any_eq_true.1 h
  rw [h6 q hq] at e; cases e
theorem checkFiles_ok {n : Nat} {l : List File} (hn : 100000 ≤ n) : m152 n l = some (chkF l) := by
  refine Ok.eq ?_
  unfold m152 chkF
  refine Ok_ite (fun h => Ok.some' (by rw [if_pos (by omega)])) (fun h => ?_)
  rw [if_neg (by omega)]
  refine Ok_flow ?_
  unfold m152_w1
  refine Ok_it2 (fun (prev : List Str) (c : Int) => ∃ l1 l2, l = l1 ++ l2 ∧ c = l1.length ∧ prev = l1.map (·.path) ∧ chkG [] l = chkG prev l2 ∧ ∀ q, q ∈ prev → q.length ≤ 1000000) (fun _ (c : Int) => ((l.length : Int) - c).toNat) ?_ n [] 0 ⟨[], l, rfl, rfl, rfl, rfl, by simp⟩ (by show ((l.length : Int) - 0).toNat < n; omega)
  rintro Q lp prev c hQ ⟨l1, l2, rfl, rfl, rfl, i4, i5⟩ ih
  cases l2 with
  | nil => exact Ok_ite (fun hc => by simp at hc) (fun _ => Ok.some' (hQ _ (Ok.some' i4.symm)))
  | cons f r =>
    have hln : ((l1 ++ f :: r).length : Int) = l1.length + (r.length + 1) := by simp
    have hget : ∀ x, (l1 ++ f :: r)[(l1.length : Int).toNat]? = some x → x = f := by
      intro x hx; rw [Int.toNat_natCast, List.getElem?_append_right (Nat.le_refl _)] at hx; simpa using hx.symm
    refine Ok_ite (fun hc => ?_) (fun hc => by omega)
    refine Ok_ix (by omega) hc (fun x hx => ?_)
    obtain rfl := hget x hx
    refine Ok_ix (by omega) hc (fun x2 hx2 => ?_)
    obtain rfl := hget x2 hx2
    refine Ok_ix (by omega) hc (fun x3 hx3 => ?_)
    obtain rfl := hget x3 hx3
    refine Ok_cl1 (checkRow_ok hn (by rw [List.length_map]; omega) i5) ?_
    have hG : chkG (l1.map (·.path)) (x3 :: r) = if chkRow x3.path x3.mode x3.data.length (l1.map (·.path)) = 0 then chkG (l1.map (·.path) ++ [x3.path]) r else chkRow x3.path x3.mode x3.data.length (l1.map (·.path)) := rfl
    refine Ok_ite (fun he => Ok_bs (Ok.some' (hQ _ (Ok.some' ?_)))) (fun he => ?_)
    · rw [i4, hG, if_neg he]
    · have he := Classical.not_not.1 he
      have hgd := chkRow_good he
      have hgl := goodP_len hgd.1
      refine Ok_ix (by omega) hc (fun x4 hx4 => ?_)
      obtain rfl := hget x4 hx4
      refine Ok_apd (by rw [List.length_map]; omega) ?_
      rw [wi_e (by omega) (by omega)]
      refine ih _ _ ⟨l1 ++ [x4], r, by simp, by simp, by simp, by rw [i4, hG, if_pos he], fun q hq => ?_⟩ (by omega)
      rcases List.mem_append.1 hq with hq | hq
      · exact i5 q hq
      · rw [List.mem_singleton.1 hq]; omega
/-- a lawful snapshot -/
structure Law (l : List File) : Prop where
  num : l.length ≤ 8
  good : ∀ f, f ∈ l → goodP f.path = true
  mode : ∀ f, f ∈ l → 0 ≤ f.mode ∧ f.mode ≤ 3
  size : ∀ f, f ∈ l → f.data.length ≤ 180
  srt : l.Pairwise fun a b => sLt a.path b.path = true
  ncl : l.Pairwise fun a b => clashP a.path b.path = false
theorem chkG_iff : ∀ (l : List File) (prev : List Str), prev.Pairwise (fun a b => sLt a b = true) → (chkG prev l = 0 ↔ (∀ f, f ∈ l → goodP f.path = true ∧ (0 ≤ f.mode ∧ f.mode ≤ 3) ∧ f.data.length ≤ 180) ∧ (l.Pairwise fun a b => sLt a.path b.path = true) ∧ (l.Pairwise fun a b => clashP a.path b.path = false) ∧ ∀ q, q ∈ prev → ∀ f, f ∈ l → sLt q f.path = true ∧ clashP q f.path = false)
  | [], prev, _ => by simp [chkG]
  | f :: r, prev, hp => by
    have last : lastLt prev f.path = true ↔ ∀ q, q ∈ prev → sLt q f.path = true := by
      unfold lastLt
      cases hg : prev.getLast? with
      | none => rw [List.getLast?_eq_none_iff.1 hg]; simp
      | some z =>
        obtain ⟨ys, rfl⟩ := List.getLast?_eq_some_iff.1 hg
        constructor
        · intro h q hq
          rcases List.mem_append.1 hq with hq | hq
          · exact sLt_trans ((List.pairwise_append.1 hp).2.2 q hq z (by simp)) h
          · rw [List.mem_singleton.1 hq]; exact h
        · intro h; exact h z (by simp)
    show (if chkRow f.path f.mode f.data.length prev = 0 then chkG (prev ++ [f.path]) r else chkRow f.path f.mode f.data.length prev) = 0 ↔ _
    constructor
    · intro h
      split at h
      · rename_i h1
        obtain ⟨g1, g2, g3, g4, g5, g6⟩ := chkRow_good h1
        have hp2 : (prev ++ [f.path]).Pairwise (fun a b => sLt a b = true) := List.pairwise_append.2 ⟨hp, by simp, fun a ha b hb => by rw [List.mem_singleton.1 hb]; exact last.1 g5 a ha⟩
        obtain ⟨k1, k2, k3, k4⟩ := (chkG_iff r _ hp2).1 h
        refine ⟨fun x hx => ?_, List.pairwise_cons.2 ⟨fun x hx => (k4 f.path (by simp) x hx).1, k2⟩, List.pairwise_cons.2 ⟨fun x hx => (k4 f.path (by simp) x hx).2, k3⟩, fun q hq x hx => ?_⟩
        · rcases List.mem_cons.1 hx with rfl | hx
          · exact ⟨g1, ⟨g2, g3⟩, by omega⟩
          · exact k1 x hx
        · rcases List.mem_cons.1 hx with rfl | hx
          · exact ⟨last.1 g5 q hq, g6 q hq⟩
          · exact k4 q (List.mem_append_left _ hq) x hx
      · rename_i h1; exact absurd h h1
    · rintro ⟨k1, k2, k3, k4⟩
      have hf := k1 f (by simp)
      have h1 : chkRow f.path f.mode f.data.length prev = 0 := chkRow_of hf.1 hf.2.1.1 hf.2.1.2 (by omega) (last.2 fun q hq => (k4 q hq f (by simp)).1) (fun q hq => (k4 q hq f (by simp)).2)
      rw [if_pos h1]
      have hp2 : (prev ++ [f.path]).Pairwise (fun a b => sLt a b = true) := List.pairwise_append.2 ⟨hp, by simp, fun a ha b hb => by rw [List.mem_singleton.1 hb]; exact (k4 a ha f (by simp)).1⟩
      refine (chkG_iff r _ hp2).2 ⟨fun x hx => k1 x (List.mem_cons_of_mem _ hx), (List.pairwise_cons.1 k2).2, (List.pairwise_cons.1 k3).2, fun q hq x hx => ?_⟩
      rcases List.mem_append.1 hq with hq | hq
      · exact k4 q hq x (List.mem_cons_of_mem _ hx)
      · rw [List.mem_singleton.1 hq]
        exact ⟨(List.pairwise_cons.1 k2).1 x hx, (List.pairwise_cons.1 k3).1 x hx⟩
theorem chkF_iff {l : List File} : chkF l = 0 ↔ Law l := by
  unfold chkF
  constructor
  · intro h
    split at h
    · omega
    · obtain ⟨k1, k2, k3, _⟩ := (chkG_iff l [] .nil).1 h
      exact ⟨by omega, fun f hf => (k1 f hf).1, fun f hf => (k1 f hf).2.1, fun f hf => (k1 f hf).2.2, k2, k3⟩
  · intro h
    have := h.num
    rw [if_neg (by omega)]
    exact (chkG_iff l [] .nil).2 ⟨fun f hf => ⟨h.good f hf, h.mode f hf, h.size f hf⟩, h.srt, h.ncl, by simp⟩
end Go.Proofs.Qxb6500350aGreat
