/- PLAIN LAW: DIFF (4): NUMBERS FOR LINES. -/
import Derived.Test.Qxb6500350aGreatK61
import Derived.Test.Qxb6500350aGreatT253
import Derived.Test.Qxb6500350aGreatT254
set_option linter.unusedVariables false
set_option linter.unusedSimpArgs false
set_option maxHeartbeats 2000000
namespace Go.Proofs.Qxb6500350aGreat
open Go.Eng Go
theorem and7b (h : Int) : 0 ≤ bAnd .i64 h 7 ∧ bAnd .i64 h 7 < 8 := by
  unfold bAnd
  have h1 : (BitVec.ofInt IntKind.i64.bits h &&& BitVec.ofInt IntKind.i64.bits 7).toNat ≤ 7 := by
    rw [BitVec.toNat_and]
    exact Nat.and_le_right
  have h2 := wi_e (x := ((BitVec.ofInt IntKind.i64.bits h &&& BitVec.ofInt IntKind.i64.bits 7).toNat : Int)) (by omega) (by omega)
  unfold wi at h2
  rw [h2]
  omega
theorem hash_ex {n : Nat} {s : Str} (hn : 100000 ≤ n) (hs : s.length ≤ 1024) : Ok (m316 n s) (fun _ => True) := by
  unfold m316
  refine Ok_ob2 ?_
  unfold m316_w1
  refine Ok_it2 (fun (_ c2 : Int) => 0 ≤ c2 ∧ c2 ≤ s.length) (fun (_ c2 : Int) => ((s.length : Int) - c2).toNat) ?_ n 0 0 ⟨by omega, by omega⟩ (by show ((s.length : Int) - 0).toNat < n; omega)
  rintro Q lp c1 c2 hQ ⟨h1, h2⟩ ih
  refine Ok_ite (fun hlt => Ok_sIx (by omega) hlt (fun x hx => ?_)) (fun hge => Ok.some' (hQ _ (Ok.some' trivial)))
  rw [wi_e (x := c2 + 1) (by omega) (by omega)]
  exact ih _ _ ⟨by omega, by omega⟩ (by omega)
/-- the hash -/
def hvD (n : Nat) (s : Str) : Int := (m316 n s).getD 0
theorem hvD_ok {n : Nat} {s : Str} (hn : 100000 ≤ n) (hs : s.length ≤ 1024) : m316 n s = some (hvD n s) := by
  obtain ⟨l, h, _⟩ := hash_ex hn hs
  unfold hvD; rw [h]; rfl
/-- the bucket -/
def bk (n : Nat) (s : Str) : Int := bAnd .i64 (hvD n s) 7
structure EI (n : Nat) (e : Engine) : Prop where
  ls : e.sum.length = e.line_.length
  lx : e.nxt.length = e.line_.length
  sm : ∀ (k : Nat) s, e.line_[k]? = some s → e.sum[k]? = some (hvD n s)
  nd : ∀ (j k : Nat) s, e.line_[j]? = some s → e.line_[k]? = some s → j = k
  hd : ∀ b, 0 ≤ b → b < 8 → 0 ≤ e.head b ∧ e.head b ≤ e.line_.length ∧ (∀ (k : Nat) s, e.line_[k]? = some s → bk n s = b → (k : Int) < e.head b) ∧ ∀ (k : Nat) s, e.head b = k + 1 → e.line_[k]? = some s → bk n s = b
  nx : ∀ (k : Nat) s v, e.line_[k]? = some s → e.nxt[k]? = some v → 0 ≤ v ∧ v ≤ k ∧ (∀ (j : Nat) t, j < k → e.line_[j]? = some t → bk n t = bk n s → (j : Int) < v) ∧ ∀ (j : Nat) t, v = j + 1 → e.line_[j]? = some t → bk n t = bk n s
theorem snoc_get {α : Type} {l : List α} {x y : α} {k : Nat} (h : (l ++ [x])[k]? = some y) : l[k]? = some y ∧ k < l.length ∨ k = l.length ∧ y = x := by
  rcases Nat.lt_trichotomy k l.length with hk | hk | hk
  · rw [List.getElem?_append_left hk] at h; exact .inl ⟨h, hk⟩
  · subst hk; rw [List.getElem?_append_right (Nat.le_refl _), Nat.sub_self] at h; exact .inr ⟨rfl, by simpa using h.symm⟩
  · rw [List.getElem?_eq_none (by simp; omega)] at h; cases h
theorem get_snoc {α : Type} {l : List α} {x : α} : (l ++ [x])[l.length]? = some x := by simp
theorem get_left {α : Type} {l m : List α} {x : α} {k : Nat} (h : l[k]? = some x) : (l ++ m)[k]? = some x := by
  rw [List.getElem?_append_left (List.getElem?_eq_some_iff.1 h).1]; exact h
theorem intern_ok {n : Nat} {e : Engine} {s : Str} (hn : 100000 ≤ n) (h : EI n e) (hl : e.line_.length ≤ 10000) (hs : s.length ≤ 1024) :
    ∃ (k : Nat) (e' : Engine), m290 n e s = some ((k : Int), e') ∧ EI n e' ∧ e'.line_[k]? = some s ∧ ∃ ext : List Str, e'.line_ = e.line_ ++ ext ∧ ext.length ≤ 1 := by
  suffices Ok (m290 n e s) (fun r => ∃ k : Nat, r.1 = k ∧ EI n r.2 ∧ r.2.line_[k]? = some s ∧ ∃ ext : List Str, r.2.line_ = e.line_ ++ ext ∧ ext.length ≤ 1) by
    obtain ⟨⟨k', e'⟩, h1, k, rfl, h2⟩ := this
    exact ⟨k, e', h1, h2⟩
  unfold m290
  refine Ok_cl1 (hvD_ok hn hs) ?_
  have hb := and7b (hvD n s)
  have hbk : bk n s = bAnd .i64 (hvD n s) 7 := rfl
  rw [← hbk] at hb ⊢
  have hh := h.hd (bk n s) hb.1 hb.2
  refine Ok_ck hb.1 hb.2 (Ok_flow ?_)
  unfold m290_w1
  refine Ok_it1 (fun (c : Int) => 0 ≤ c ∧ c ≤ e.line_.length ∧ (∀ (k : Nat) t, e.line_[k]? = some t → bk n t = bk n s → c ≤ k → t ≠ s) ∧ ∀ (k : Nat) t, c = k + 1 → e.line_[k]? = some t → bk n t = bk n s) (fun (c : Int) => c.toNat) ?_ n _
    ⟨hh.1, hh.2.1, fun k t h1 h2 h3 => by have := hh.2.2.1 k t h1 h2; omega, hh.2.2.2⟩ (by show (e.head (bk n s)).toNat < n; omega)
  rintro Q lp c hQ ⟨h1, h2, h3, h4⟩ ih
  refine Ok_ite (fun hc => Ok_ob1 ?_) (fun hc => ?_)
  · obtain ⟨k, rfl⟩ : ∃ k : Nat, c = k + 1 := ⟨(c - 1).toNat, by omega⟩
    rw [show (k : Int) + 1 - 1 = k by omega, wi_e (x := (k : Int)) (by omega) (by omega)]
    obtain ⟨t, ht⟩ : ∃ t, e.line_[k]? = some t := ⟨_, List.getElem?_eq_getElem (by omega)⟩
    have hbt := h4 k t rfl ht
    have next : t ≠ s → Ok (Option.bind (ixL e.nxt (k : Int)) fun x3 => lp x3) Q := by
      intro hts
      refine Ok_ix (by omega) (by rw [h.lx]; omega) (fun v hv => ?_)
      rw [Int.toNat_natCast] at hv
      obtain ⟨g1, g2, g3, g4⟩ := h.nx k t v ht hv
      refine ih _ ⟨g1, by omega, fun j u hj hbu hvj => ?_, fun j u hvj hj => by rw [g4 j u hvj hj, hbt]⟩ (by omega)
      rcases Nat.lt_trichotomy j k with hjk | hjk | hjk
      · have := g3 j u hjk hj (by rw [hbu, hbt]); omega
      · subst hjk; rw [ht] at hj; obtain rfl := Option.some.inj hj; exact hts
      · exact h3 j u hj hbu (by omega)
    refine Ok_ix (by omega) (by rw [h.ls]; omega) (fun v hv => ?_)
    rw [Int.toNat_natCast, h.sm k t ht] at hv
    obtain rfl := Option.some.inj hv
    refine Ok_ite (fun e1 => Ok_ix (by omega) (by omega) (fun u hu => Ok.some' ?_)) (fun e1 => Ok.some' ?_)
    · rw [Int.toNat_natCast, ht] at hu
      obtain rfl := Option.some.inj hu
      refine Ok_ite (fun e2 => ?_) (fun e2 => next e2)
      subst e2
      exact Ok_bs (Ok.some' (hQ _ (Ok.some' ⟨k, rfl, h, ht, [], by simp, by simp⟩)))
    · exact Ok_cond (fun e2 => nomatch e2) (fun _ => next (fun e2 => e1 (by rw [e2])))
  · refine Ok.some' (hQ _ ?_)
    have hc0 : c = 0 := by omega
    subst hc0
    show Ok (Option.bind _ _) _
    refine Ok_apd (by omega) (Ok_nmz fun z4 hz4 => ?_)
    subst hz4
    refine Ok_apd (by show e.sum.length < _; rw [h.ls]; omega) (Ok_nmz fun z5 hz5 => ?_)
    subst hz5
    refine Ok_ck hb.1 hb.2 (Ok_apd (by show e.nxt.length < _; rw [h.lx]; omega) (Ok_nmz fun z6 hz6 => ?_))
    subst hz6
    refine Ok_ck hb.1 hb.2 (Ok_nmz fun z7 hz7 => ?_)
    subst hz7
    have hlen : (e.line_ ++ [s]).length = e.line_.length + 1 := by simp
    refine Ok.some' ⟨e.line_.length, ?_, ⟨?_, ?_, ?_, ?_, ?_, ?_⟩, get_snoc, [s], rfl, by simp⟩
    · show wi (((e.line_ ++ [s]).length : Int) - 1) = _
      rw [hlen, wi_e (by omega) (by omega)]; omega
    · show (e.sum ++ [_]).length = (e.line_ ++ [s]).length
      simp [h.ls]
    · show (e.nxt ++ [_]).length = (e.line_ ++ [s]).length
      simp [h.lx]
    · intro k t ht
      show (e.sum ++ [_])[k]? = _
      rcases snoc_get ht with ⟨g1, g2⟩ | ⟨rfl, rfl⟩
      · exact get_left (h.sm k t g1)
      · rw [← h.ls]; exact get_snoc
    · intro j k t hj hk
      rcases snoc_get hj with ⟨g1, g2⟩ | ⟨rfl, rfl⟩
      · rcases snoc_get hk with ⟨g3, g4⟩ | ⟨rfl, rfl⟩
        · exact h.nd j k t g1 g3
        · exact absurd rfl (h3 j t g1 rfl (by omega))
      · rcases snoc_get hk with ⟨g3, g4⟩ | ⟨rfl, _⟩
        · exact absurd rfl (h3 k t g3 rfl (by omega))
        · rfl
    · intro b hb0 hb8
      show 0 ≤ upI e.head (bk n s) ((e.line_ ++ [s]).length : Int) b ∧ upI e.head (bk n s) ((e.line_ ++ [s]).length : Int) b ≤ ((e.line_ ++ [s]).length : Int) ∧ (∀ (k : Nat) t, (e.line_ ++ [s])[k]? = some t → bk n t = b → (k : Int) < upI e.head (bk n s) ((e.line_ ++ [s]).length : Int) b) ∧ ∀ (k : Nat) t, upI e.head (bk n s) ((e.line_ ++ [s]).length : Int) b = k + 1 → (e.line_ ++ [s])[k]? = some t → bk n t = b
      rw [hlen]
      have hh' := h.hd b hb0 hb8
      unfold upI
      by_cases eb : b = bk n s
      · subst eb
        rw [if_pos rfl]
        refine ⟨by omega, by omega, fun k t ht hbt => ?_, fun k t hk ht => ?_⟩
        · have := (List.getElem?_eq_some_iff.1 ht).1
          rw [hlen] at this; omega
        · rcases snoc_get ht with ⟨g1, g2⟩ | ⟨rfl, rfl⟩
          · omega
          · rfl
      · rw [if_neg eb]
        refine ⟨hh'.1, by omega, fun k t ht hbt => ?_, fun k t hk ht => ?_⟩
        · rcases snoc_get ht with ⟨g1, g2⟩ | ⟨rfl, rfl⟩
          · exact hh'.2.2.1 k t g1 hbt
          · exact absurd hbt.symm eb
        · rcases snoc_get ht with ⟨g1, g2⟩ | ⟨rfl, rfl⟩
          · exact hh'.2.2.2 k t hk g1
          · omega
    · intro k t v ht hv
      have hv' : (e.nxt ++ [e.head (bk n s)])[k]? = some v := hv
      have old : ∀ {j : Nat} {u : Str}, (e.line_ ++ [s])[j]? = some u → j < e.line_.length → e.line_[j]? = some u := by
        intro j u hj hlt
        rcases snoc_get hj with ⟨g1, _⟩ | ⟨rfl, _⟩
        · exact g1
        · omega
      rcases snoc_get ht with ⟨g1, g2⟩ | ⟨rfl, rfl⟩
      · have hv2 : e.nxt[k]? = some v := by
          rcases snoc_get hv' with ⟨g3, _⟩ | ⟨g3, _⟩
          · exact g3
          · rw [h.lx] at g3; omega
        obtain ⟨a1, a2, a3, a4⟩ := h.nx k t v g1 hv2
        exact ⟨a1, a2, fun j u hjk hj hbu => a3 j u hjk (old hj (by omega)) hbu, fun j u hvj hj => a4 j u hvj (old hj (by omega))⟩
      · have hv2 : v = e.head (bk n t) := by
          rcases snoc_get hv' with ⟨_, g4⟩ | ⟨_, g4⟩
          · rw [h.lx] at g4; omega
          · exact g4
        subst hv2
        exact ⟨hh.1, hh.2.1, fun j u hjk hj hbu => hh.2.2.1 j u (old hj hjk) hbu, fun j u hvj hj => hh.2.2.2 j u hvj (old hj (by omega))⟩
theorem ereset_ok {n : Nat} {e : Engine} (hn : 100000 ≤ n) : ∃ e', m253 n e = some e' ∧ EI n e' ∧ e'.line_ = [] := by
  suffices Ok (m253 n e) (fun e' => EI n e' ∧ e'.line_ = []) from this
  unfold m253
  refine Ok_ob2 ?_
  unfold m253_w1
  refine Ok_it2 (fun (c : Int) (z : Engine) => 0 ≤ c ∧ c ≤ 8 ∧ ∀ b, 0 ≤ b → b < c → z.head b = 0) (fun (c : Int) _ => (8 - c).toNat) ?_ n 0 e ⟨by omega, by omega, fun b _ _ => by omega⟩ (by show (8 - 0 : Int).toNat < n; omega)
  rintro Q lp c z hQ ⟨h1, h2, h3⟩ ih
  refine Ok_ite (fun hlt => Ok_ck (by omega) (by omega) (Ok_nm ?_)) (fun hge => Ok.some' (hQ _ ?_))
  · rw [wi_e (x := c + 1) (by omega) (by omega)]
    refine ih _ _ ⟨by omega, by omega, fun b hb0 hb1 => ?_⟩ (by omega)
    show upI z.head c 0 b = 0
    unfold upI
    by_cases eb : b = c
    · rw [if_pos eb]
    · rw [if_neg eb]; exact h3 b hb0 (by omega)
  · refine Ok_nmz fun z4 e4 => Ok_nmz fun z5 e5 => Ok_nmz fun z6 e6 => Ok.some' ?_
    subst e6; subst e5; subst e4
    have hz : ∀ b, 0 ≤ b → b < 8 → z.head b = 0 := fun b hb0 hb1 => h3 b hb0 (by omega)
    exact ⟨⟨rfl, rfl, fun k s hk => by simp at hk, fun j k s hj => by simp at hj, fun b hb0 hb1 => ⟨by show 0 ≤ z.head b; rw [hz b hb0 hb1]; omega, by show z.head b ≤ 0; rw [hz b hb0 hb1]; omega, fun k s hk => by simp at hk, fun k s _ hk => by simp at hk⟩, fun k s v hk => by simp at hk⟩, rfl⟩
/-- the numbers of the lines l -/
structure NumOf (L l : List Str) (x : List Int) : Prop where
  len : x.length = l.length
  get : ∀ (i : Nat) s, l[i]? = some s → ∃ k : Nat, x[i]? = some (k : Int) ∧ L[k]? = some s
theorem NumOf.ext {L l ex : List Str} {x : List Int} (h : NumOf L l x) : NumOf (L ++ ex) l x :=
  ⟨h.len, fun i s hi => by obtain ⟨k, h1, h2⟩ := h.get i s hi; exact ⟨k, h1, get_left h2⟩⟩
theorem NumOf.eqE {L a b : List Str} {x y : List Int} (hL : ∀ (j k : Nat) s, L[j]? = some s → L[k]? = some s → j = k) (h : NumOf L a x) (k : NumOf L b y) : eqE x y = eqE a b := by
  funext i j
  unfold Qxb6500350aGreat.eqE
  congr 1
  apply propext
  cases hi : a[i]? with
  | none =>
    have : x[i]? = none := List.getElem?_eq_none (by rw [h.len]; exact List.getElem?_eq_none_iff.1 hi)
    rw [this]
    cases hj : b[j]? with
    | none =>
      have : y[j]? = none := List.getElem?_eq_none (by rw [k.len]; exact List.getElem?_eq_none_iff.1 hj)
      rw [this]; simp
    | some t => obtain ⟨q, h1, _⟩ := k.get j t hj; rw [h1]; simp
  | some s =>
    obtain ⟨p, h1, h2⟩ := h.get i s hi
    rw [h1]
    cases hj : b[j]? with
    | none =>
      have : y[j]? = none := List.getElem?_eq_none (by rw [k.len]; exact List.getElem?_eq_none_iff.1 hj)
      rw [this]; simp
    | some t =>
      obtain ⟨q, h3, h4⟩ := k.get j t hj
      rw [h3]
      constructor
      · intro e
        have : p = q := by have := Option.some.inj e; omega
        subst this
        rw [← h2, h4]
      · intro e
        obtain rfl := Option.some.inj e
        rw [hL p q s h2 h4]
theorem numbers_ok {n : Nat} {e : Engine} {l : List Str} (hn : 100000 ≤ n) (h : EI n e) (hl : e.line_.length + l.length ≤ 10000) (hs : ∀ s, s ∈ l → s.length ≤ 1024) :
    ∃ x e', m254 n e l = some (x, e') ∧ EI n e' ∧ NumOf e'.line_ l x ∧ ∃ ext : List Str, e'.line_ = e.line_ ++ ext ∧ ext.length ≤ l.length := by
  suffices Ok (m254 n e l) (fun r => EI n r.2 ∧ NumOf r.2.line_ l r.1 ∧ ∃ ext : List Str, r.2.line_ = e.line_ ++ ext ∧ ext.length ≤ l.length) by
    obtain ⟨⟨x, e'⟩, h1, h2⟩ := this
    exact ⟨x, e', h1, h2⟩
  unfold m254
  refine Ok_mk (by omega) (by omega) (by omega) (Ok_ob3 ?_)
  unfold m254_w1
  refine Ok_it3 (fun (c : Int) (x : List Int) (z : Engine) => ∃ i : Nat, c = i ∧ i ≤ l.length ∧ x.length = l.length ∧ EI n z ∧ (∀ (j : Nat) s, j < i → l[j]? = some s → ∃ k : Nat, x[j]? = some (k : Int) ∧ z.line_[k]? = some s) ∧ ∃ ext : List Str, z.line_ = e.line_ ++ ext ∧ ext.length ≤ i) (fun (c : Int) _ _ => ((l.length : Int) - c).toNat) ?_ n 0 _ e
    ⟨0, rfl, by omega, by rw [List.length_replicate]; omega, h, fun j s hj => by omega, [], by simp, by simp⟩ (by show ((l.length : Int) - 0).toNat < n; omega)
  rintro Q lp c x z hQ ⟨i, rfl, h1, h2, h3, h4, ext, h5, h6⟩ ih
  refine Ok_ite (fun hlt => Ok_ix (by omega) hlt (fun s hsx => ?_)) (fun hge => Ok.some' (hQ _ (Ok.some' ?_)))
  · rw [Int.toNat_natCast] at hsx
    have hzl : z.line_.length = e.line_.length + ext.length := by rw [h5, List.length_append]
    obtain ⟨k, e', g1, g2, g3, ex2, g4, g5⟩ := intern_ok hn h3 (by omega) (hs s (List.mem_of_getElem? hsx))
    refine Ok_cl2 g1 (Ok_ck (by omega) (by omega) (Ok_st (by omega) (by omega) ?_))
    rw [wi_e (x := (i : Int) + 1) (by omega) (by omega), Int.toNat_natCast]
    refine ih _ _ _ ⟨i + 1, by omega, by omega, by rw [List.length_set, h2], g2, fun j t hj ht => ?_, ext ++ ex2, by rw [g4, h5, List.append_assoc], by rw [List.length_append]; omega⟩ (by omega)
    by_cases ej : j = i
    · subst ej
      rw [hsx] at ht
      obtain rfl := Option.some.inj ht
      exact ⟨k, by rw [List.getElem?_set_self (by omega)], g3⟩
    · obtain ⟨k', a1, a2⟩ := h4 j t (by omega) ht
      exact ⟨k', by rw [List.getElem?_set_ne (fun x => ej x.symm)]; exact a1, by rw [g4]; exact get_left a2⟩
  · have : i = l.length := by omega
    subst this
    exact ⟨h3, ⟨h2, fun j s hj => h4 j s (List.getElem?_eq_some_iff.1 hj).1 hj⟩, ext, h5, h6⟩
end Go.Proofs.Qxb6500350aGreat
