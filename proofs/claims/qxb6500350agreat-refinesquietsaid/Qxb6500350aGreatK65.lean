/- PLAIN LAW: DIFF (7): MERGE OF THREE TEXTS. -/
import Derived.Test.Qxb6500350aGreatK64
set_option linter.unusedVariables false
set_option linter.unusedSimpArgs false
set_option maxHeartbeats 2000000
namespace Go.Proofs.Qxb6500350aGreat
open Go.Eng Go
theorem piece_ok' {n : Nat} {b o t : List Str} (hn : 100000 ≤ n) (hb : b.length < 100000) (ho : o.length < 100000) (ht : t.length < 100000) (hfo : o.flatten.length < 1000000) (hft : t.flatten.length < 1000000) : m282 n b o t = some ((pieceP b o t).1, (pieceP b o t).2) := piece_ok hn hb ho ht hfo hft
/-- the merge from line i of the base on -/
def mgR (B O T : List Str) (m1 m2 : List Int) : Nat → Nat → Nat → Nat → Nat → Str × Int
  | 0, bs, os, ts, _ => pieceP (cutL B bs B.length) (cutL O os O.length) (cutL T ts T.length)
  | r + 1, bs, os, ts, i =>
    if 0 ≤ (m1[i]?).getD (-1) ∧ 0 ≤ (m2[i]?).getD (-1) then
      ((pieceP (cutL B bs i) (cutL O os ((m1[i]?).getD (-1)).toNat) (cutL T ts ((m2[i]?).getD (-1)).toNat)).1 ++ (B[i]?).getD [] ++ (mgR B O T m1 m2 r (i + 1) (((m1[i]?).getD (-1)).toNat + 1) (((m2[i]?).getD (-1)).toNat + 1) (i + 1)).1,
       (pieceP (cutL B bs i) (cutL O os ((m1[i]?).getD (-1)).toNat) (cutL T ts ((m2[i]?).getD (-1)).toNat)).2 + (mgR B O T m1 m2 r (i + 1) (((m1[i]?).getD (-1)).toNat + 1) (((m2[i]?).getD (-1)).toNat + 1) (i + 1)).2)
    else mgR B O T m1 m2 r bs os ts (i + 1)
theorem mgR_hit {B O T : List Str} {m1 m2 : List Int} {r bs os ts i u v : Nat} {x : Str} (h1 : m1[i]? = some (u : Int)) (h2 : m2[i]? = some (v : Int)) (hx : B[i]? = some x) :
    mgR B O T m1 m2 (r + 1) bs os ts i = ((pieceP (cutL B bs i) (cutL O os u) (cutL T ts v)).1 ++ x ++ (mgR B O T m1 m2 r (i + 1) (u + 1) (v + 1) (i + 1)).1, (pieceP (cutL B bs i) (cutL O os u) (cutL T ts v)).2 + (mgR B O T m1 m2 r (i + 1) (u + 1) (v + 1) (i + 1)).2) := by
  rw [mgR, h1, h2, hx]
  simp only [Option.getD_some, Int.toNat_natCast]
  rw [if_pos ⟨by omega, by omega⟩]
theorem mgR_miss {B O T : List Str} {m1 m2 : List Int} {r bs os ts i : Nat} {u v : Int} (h1 : m1[i]? = some u) (h2 : m2[i]? = some v) (h : ¬ (0 ≤ u ∧ 0 ≤ v)) : mgR B O T m1 m2 (r + 1) bs os ts i = mgR B O T m1 m2 r bs os ts (i + 1) := by
  rw [mgR, h1, h2]
  simp only [Option.getD_some]
  rw [if_neg h]
/-- where the merge stands -/
structure MgS (B O T : List Str) (m1 m2 : List Int) (bs os ts i : Nat) : Prop where
  hi : i ≤ B.length
  hb : bs ≤ i
  ho : os ≤ O.length
  ht : ts ≤ T.length
  uo : ∀ (j : Nat) v, i ≤ j → m1[j]? = some v → 0 ≤ v → (os : Int) ≤ v
  ut : ∀ (j : Nat) v, i ≤ j → m2[j]? = some v → 0 ≤ v → (ts : Int) ≤ v
section
variable {n : Nat} {B O T : List Str} {m1 m2 : List Int} {bs os ts i : Nat}
theorem MgS.miss (h : MgS B O T m1 m2 bs os ts i) (hi : i < B.length) : MgS B O T m1 m2 bs os ts (i + 1) :=
  ⟨hi, by have := h.hb; omega, h.ho, h.ht, fun j v hj => h.uo j v (by omega), fun j v hj => h.ut j v (by omega)⟩
theorem MgS.hit (h : MgS B O T m1 m2 bs os ts i) (hi : i < B.length) (k1 : MOk m1 B.length O.length) (k2 : MOk m2 B.length T.length) {u v : Nat} (h1 : m1[i]? = some (u : Int)) (h2 : m2[i]? = some (v : Int)) :
    MgS B O T m1 m2 (i + 1) (u + 1) (v + 1) (i + 1) :=
  ⟨hi, Nat.le_refl _, by have := k1.rng i u h1; omega, by have := k2.rng i v h2; omega,
   fun j w hj hw h0 => by have := k1.up i j u w (by omega) h1 hw (by omega) h0; omega, fun j w hj hw h0 => by have := k2.up i j v w (by omega) h2 hw (by omega) h0; omega⟩
theorem mgR_len (k1 : MOk m1 B.length O.length) (k2 : MOk m2 B.length T.length) (hB : B.flatten.length ≤ 1024) (hO : O.flatten.length ≤ 1024) (hT : T.flatten.length ≤ 1024) :
    ∀ (r : Nat) (bs os ts i : Nat), i + r = B.length → (mgR B O T m1 m2 r bs os ts i).1.length ≤ 4000 * (r + 1) ∧ 0 ≤ (mgR B O T m1 m2 r bs os ts i).2 ∧ (mgR B O T m1 m2 r bs os ts i).2 ≤ r + 1
  | 0, bs, os, ts, i, _ => by
    rw [mgR]
    have := pieceP_len (cutL B bs B.length) (cutL O os O.length) (cutL T ts T.length)
    have c1 := flatten_cut_le (l := O) (p := os) (q := O.length)
    have c2 := flatten_cut_le (l := T) (p := ts) (q := T.length)
    omega
  | r + 1, bs, os, ts, i, hi => by
    obtain ⟨u, hu⟩ : ∃ u, m1[i]? = some u := ⟨_, List.getElem?_eq_getElem (by rw [k1.len]; omega)⟩
    obtain ⟨v, hv⟩ : ∃ v, m2[i]? = some v := ⟨_, List.getElem?_eq_getElem (by rw [k2.len]; omega)⟩
    by_cases h : 0 ≤ u ∧ 0 ≤ v
    · obtain ⟨x, hx⟩ : ∃ x, B[i]? = some x := ⟨_, List.getElem?_eq_getElem (by omega)⟩
      obtain ⟨u, rfl⟩ : ∃ k : Nat, u = k := ⟨u.toNat, by omega⟩
      obtain ⟨v, rfl⟩ : ∃ k : Nat, v = k := ⟨v.toNat, by omega⟩
      rw [mgR_hit hu hv hx]
      have g := pieceP_len (cutL B bs i) (cutL O os u) (cutL T ts v)
      have c1 := flatten_cut_le (l := O) (p := os) (q := u)
      have c2 := flatten_cut_le (l := T) (p := ts) (q := v)
      have hxl : x.length ≤ B.flatten.length := List.Sublist.length_le (List.sublist_flatten_of_mem (List.mem_of_getElem? hx))
      have ih := mgR_len k1 k2 hB hO hT r (i + 1) (u + 1) (v + 1) (i + 1) (by omega)
      dsimp only
      rw [List.length_append, List.length_append]
      omega
    · rw [mgR_miss hu hv h]
      have ih := mgR_len k1 k2 hB hO hT r bs os ts (i + 1) (by omega)
      omega
end
/-- the merge of three texts -/
def merge3 (n : Nat) (b o t : Str) : Str × Int :=
  mgR (lin n b) (lin n o) (lin n t) (walkM (eqE (lin n b) (lin n o)) (lin n b).length (lin n o).length 0 0) (walkM (eqE (lin n b) (lin n t)) (lin n b).length (lin n t).length 0 0) (lin n b).length 0 0 0 0
theorem merge3_len {n : Nat} {b o t : Str} (hn : 100000 ≤ n) (hb : b.length ≤ 1024) (ho : o.length ≤ 1024) (ht : t.length ≤ 1024) : (merge3 n b o t).1.length ≤ 5000000 ∧ 0 ≤ (merge3 n b o t).2 ∧ (merge3 n b o t).2 ≤ 2000 := by
  have lb := (lin_of hn hb).len
  have fb := (lin_of hn hb).flat
  have fo := (lin_of hn ho).flat
  have ft := (lin_of hn ht).flat
  have := mgR_len (B := lin n b) (O := lin n o) (T := lin n t) walkM_ok walkM_ok (m1 := walkM (eqE (lin n b) (lin n o)) (lin n b).length (lin n o).length 0 0) (m2 := walkM (eqE (lin n b) (lin n t)) (lin n b).length (lin n t).length 0 0) (by rw [fb]; omega) (by rw [fo]; omega) (by rw [ft]; omega) (lin n b).length 0 0 0 0 (by omega)
  unfold merge3
  omega
theorem Merge3_ok {n : Nat} {b o t : Str} (hn : 100000 ≤ n) (hb : b.length ≤ 1024) (ho : o.length ≤ 1024) (ht : t.length ≤ 1024) : m233 n b o t = some (merge3 n b o t) := by
  refine Ok.eq ?_
  unfold m233
  have lb := (lin_of hn hb).len
  have lo := (lin_of hn ho).len
  have lt := (lin_of hn ht).len
  have fb := (lin_of hn hb).flat
  have fo := (lin_of hn ho).flat
  have ft := (lin_of hn ht).flat
  refine Ok_cl1 (split_ok hn hb) (Ok_cl1 (split_ok hn ho) (Ok_cl1 (split_ok hn ht) (Ok_cl1 (match_ok hn (by omega) (by omega)) (Ok_cl1 (match_ok hn (by omega) (by omega)) ?_))))
  unfold merge3
  have k1 := walkM_ok (E := eqE (lin n b) (lin n o)) (na := (lin n b).length) (nb := (lin n o).length)
  have k2 := walkM_ok (E := eqE (lin n b) (lin n t)) (na := (lin n b).length) (nb := (lin n t).length)
  generalize walkM (eqE (lin n b) (lin n o)) (lin n b).length (lin n o).length 0 0 = m1 at k1 ⊢
  generalize walkM (eqE (lin n b) (lin n t)) (lin n b).length (lin n t).length 0 0 = m2 at k2 ⊢
  generalize lin n b = B at *
  generalize lin n o = O at *
  generalize lin n t = T at *
  refine Ok_ob6 ?_
  unfold m233_w1
  refine Ok_it6 (fun (s : Str) (c c3 c4 c5 c6 : Int) => ∃ bs os ts i : Nat, c3 = bs ∧ c4 = os ∧ c5 = ts ∧ c6 = i ∧ MgS B O T m1 m2 bs os ts i ∧ s.length ≤ 4000 * i ∧ 0 ≤ c ∧ c ≤ i ∧ s ++ (mgR B O T m1 m2 (B.length - i) bs os ts i).1 = (mgR B O T m1 m2 B.length 0 0 0 0).1 ∧ c + (mgR B O T m1 m2 (B.length - i) bs os ts i).2 = (mgR B O T m1 m2 B.length 0 0 0 0).2) (fun _ _ _ _ _ (c6 : Int) => ((B.length : Int) - c6).toNat) ?_ n [] 0 0 0 0 0
    ⟨0, 0, 0, 0, rfl, rfl, rfl, rfl, ⟨by omega, by omega, by omega, by omega, fun j v _ _ h => by omega, fun j v _ _ h => by omega⟩, by simp, by omega, by omega, by simp, by simp⟩ (by show ((B.length : Int) - 0).toNat < n; omega)
  rintro Q lp s c c3 c4 c5 c6 hQ ⟨bs, os, ts, i, rfl, rfl, rfl, rfl, hS, h1, h2, h3, h4, h5⟩ ih
  have sb := hS.hb
  have si := hS.hi
  have so := hS.ho
  have st := hS.ht
  refine Ok_ite (fun hlt => Ok_ob1 ?_) (fun hge => Ok.some' (hQ _ ?_))
  · obtain ⟨r, hr⟩ : ∃ r, B.length - i = r + 1 := ⟨B.length - i - 1, by omega⟩
    rw [hr] at h4 h5
    rw [wi_e (x := (i : Int) + 1) (by omega) (by omega)]
    obtain ⟨v, hv⟩ : ∃ v, m2[i]? = some v := ⟨_, List.getElem?_eq_getElem (by rw [k2.len]; omega)⟩
    have hl1 := k1.len
    have hl2 := k2.len
    refine Ok_ix (by omega) (by omega) (fun u hu => ?_)
    rw [Int.toNat_natCast] at hu
    have miss : ¬ (0 ≤ u ∧ 0 ≤ v) → Ok (lp s c bs os ts ((i : Int) + 1)) Q := by
      intro hm
      rw [mgR_miss hu hv hm] at h4 h5
      exact ih _ _ _ _ _ _ ⟨bs, os, ts, i + 1, rfl, rfl, rfl, by omega, hS.miss (by omega), by omega, by omega, by omega, by rw [show B.length - (i + 1) = r by omega]; exact h4, by rw [show B.length - (i + 1) = r by omega]; exact h5⟩ (by omega)
    refine Ok_ite (fun hu0 => Ok_ix (by omega) (by omega) (fun v' hv' => Ok.some' ?_)) (fun hu0 => Ok.some' ?_)
    · rw [Int.toNat_natCast, hv] at hv'
      obtain rfl := Option.some.inj hv'
      refine Ok_ite (fun hv0 => ?_) (fun hv0 => miss (by omega))
      obtain ⟨u, rfl⟩ : ∃ k : Nat, u = k := ⟨u.toNat, by omega⟩
      obtain ⟨v, rfl⟩ : ∃ k : Nat, v = k := ⟨v.toNat, by omega⟩
      have ru := k1.rng i u hu
      have rv := k2.rng i v hv
      have qu := hS.uo i u (Nat.le_refl _) hu (by omega)
      have qv := hS.ut i v (Nat.le_refl _) hv (by omega)
      refine Ok_slC (by omega) (by omega) (Ok_ix (by omega) (by omega) (fun u' hu' => ?_))
      rw [Int.toNat_natCast, hu] at hu'
      obtain rfl := Option.some.inj hu'
      refine Ok_slC (by omega) (by omega) (Ok_ix (by omega) (by omega) (fun v' hv' => ?_))
      rw [Int.toNat_natCast, hv] at hv'
      obtain rfl := Option.some.inj hv'
      have c1 := flatten_cut_le (l := O) (p := os) (q := u)
      have c2 := flatten_cut_le (l := T) (p := ts) (q := v)
      refine Ok_slC (by omega) (by omega) (Ok_cl2 (piece_ok' hn (by rw [cutL_len (by omega)]; omega) (by rw [cutL_len (by omega)]; omega) (by rw [cutL_len (by omega)]; omega) (by rw [fo] at c1; omega) (by rw [ft] at c2; omega)) ?_)
      have g := pieceP_len (cutL B bs i) (cutL O os u) (cutL T ts v)
      rw [fo] at c1
      rw [ft] at c2
      refine Ok_sAdd (by omega) (Ok_ix (by omega) (by omega) (fun x hx => ?_))
      rw [Int.toNat_natCast] at hx
      have hxl : x.length ≤ B.flatten.length := List.Sublist.length_le (List.sublist_flatten_of_mem (List.mem_of_getElem? hx))
      rw [fb] at hxl
      refine Ok_sAdd (by rw [List.length_append]; omega) (Ok_ix (by omega) (by omega) (fun u' hu' => ?_))
      rw [Int.toNat_natCast, hu] at hu'
      obtain rfl := Option.some.inj hu'
      refine Ok_ix (by omega) (by omega) (fun v' hv' => ?_)
      rw [Int.toNat_natCast, hv] at hv'
      obtain rfl := Option.some.inj hv'
      rw [mgR_hit hu hv hx] at h4 h5
      rw [wi_e (x := (u : Int) + 1) (by omega) (by omega), wi_e (x := (v : Int) + 1) (by omega) (by omega), wi_e (by omega) (by omega)]
      refine ih _ _ _ _ _ _ ⟨i + 1, u + 1, v + 1, i + 1, by omega, by omega, by omega, by omega, hS.hit (by omega) k1 k2 hu hv, by rw [List.length_append, List.length_append]; omega, by omega, by omega, ?_, ?_⟩ (by omega)
      · rw [show B.length - (i + 1) = r by omega, ← h4]
        simp only [List.append_assoc]
      · rw [show B.length - (i + 1) = r by omega, ← h5]
        dsimp only
        omega
    · exact Ok_cond (fun e => nomatch e) (fun _ => miss (by omega))
  · have hi : i = B.length := by omega
    rw [hi, Nat.sub_self, mgR] at h4 h5
    have c1 := flatten_cut_le (l := O) (p := os) (q := O.length)
    have c2 := flatten_cut_le (l := T) (p := ts) (q := T.length)
    rw [fo] at c1
    rw [ft] at c2
    have g := pieceP_len (cutL B bs B.length) (cutL O os O.length) (cutL T ts T.length)
    dsimp only
    refine Ok_slC (by omega) (by omega) (Ok_slC so (by omega) (Ok_slC st (by omega) ?_))
    refine Ok_cl2 (piece_ok' hn (by rw [cutL_len (by omega)]; omega) (by rw [cutL_len (by omega)]; omega) (by rw [cutL_len (by omega)]; omega) (by omega) (by omega)) ?_
    refine Ok_sAdd (by omega) ?_
    rw [wi_e (by omega) (by omega)]
    exact Ok.some' (Prod.ext h4 h5)
theorem merge_ok {n : Nat} {e : Engine} {b o t : Str} (hn : 100000 ≤ n) (hb : b.length ≤ 1024) (ho : o.length ≤ 1024) (ht : t.length ≤ 1024) : ∃ e', m228 n e b o t = some ((merge3 n b o t).1, (merge3 n b o t).2, 0, e') := by
  suffices Ok (m228 n e b o t) (fun r => r.1 = (merge3 n b o t).1 ∧ r.2.1 = (merge3 n b o t).2 ∧ r.2.2.1 = 0) by
    obtain ⟨⟨s, k, z, e'⟩, h1, rfl, rfl, rfl⟩ := this
    exact ⟨e', h1⟩
  unfold m228
  have lb := (lin_of hn hb).len
  have lo := (lin_of hn ho).len
  have lt := (lin_of hn ht).len
  have fb := (lin_of hn hb).flat
  have fo := (lin_of hn ho).flat
  have ft := (lin_of hn ht).flat
  obtain ⟨e1, h1, h2, h3⟩ := ereset_ok (e := e) hn
  obtain ⟨x, e2, g1, g2, g3, ext, g4, g5⟩ := numbers_ok hn h2 (l := lin n b) (by rw [h3]; simp; omega) (fun s hs => lin_mem hn hb hs)
  have hl2 : e2.line_.length ≤ 1024 := by rw [g4, h3, List.nil_append]; omega
  obtain ⟨y, e3, k1, k2, k3, ext2, k4, k5⟩ := numbers_ok hn g2 (l := lin n o) (by omega) (fun s hs => lin_mem hn ho hs)
  have hl3 : e3.line_.length ≤ 2048 := by rw [k4, List.length_append]; omega
  obtain ⟨z, e4, j1, j2, j3, ext3, j4, j5⟩ := numbers_ok hn k2 (l := lin n t) (by omega) (fun s hs => lin_mem hn ht hs)
  have hx : NumOf e4.line_ (lin n b) x := by rw [j4, k4]; exact g3.ext.ext
  have hy : NumOf e4.line_ (lin n o) y := by rw [j4]; exact k3.ext
  have hE1 := hx.eqE j2.nd hy
  have hE2 := hx.eqE j2.nd j3
  refine Ok_cond (fun h => ?_) (fun _ => ?_)
  · exfalso
    rw [decide_eq_false (by omega), decide_eq_false (by omega), decide_eq_false (by omega)] at h
    cases h
  refine Ok_cl1 (split_ok hn hb) (Ok_nmz fun z1 q1 => Ok_cl1 (split_ok hn ho) (Ok_nmz fun z2 q2 => Ok_cl1 (split_ok hn ht) (Ok_nmz fun z3 q3 => ?_)))
  subst q3 q2 q1
  refine Ok_cl1 h1 (Ok_cl2 g1 (Ok_nmz fun z6 q6 => ?_))
  subst q6
  refine Ok_cl2 k1 (Ok_nmz fun z8 q8 => ?_)
  subst q8
  refine Ok_cl2 j1 (Ok_nmz fun z10 q10 => ?_)
  have hTX : TX z10 e4.line_ (lin n b) (lin n o) (lin n t) := by
    subst q10
    exact ⟨rfl, rfl, rfl, hx, hy, j3, j2.nd, by omega, by omega, by omega, by rw [fo]; exact ho, by rw [ft]; exact ht, (lin_of hn ho).ne, (lin_of hn ht).ne⟩
  have a1 : z10.nb = x := by subst q10; rfl
  have a2 : z10.no = y := by subst q10; rfl
  have a3 : z10.nt = z := by subst q10; rfl
  have a4 : z10.b = lin n b := hTX.b
  have a5 : z10.o = lin n o := hTX.o
  have a6 : z10.t = lin n t := hTX.t
  clear q10
  rw [a1, a2, a3]
  refine Ok_cl1 (matchN_ok hn (by rw [g3.len]; omega) (by rw [k3.len]; omega)) (Ok_cl1 (matchN_ok hn (by rw [g3.len]; omega) (by rw [j3.len]; omega)) (Ok_mk (by omega) (by omega) (by omega) ?_))
  rw [hE1, hE2, g3.len, k3.len, j3.len]
  unfold merge3
  have k1 := walkM_ok (E := eqE (lin n b) (lin n o)) (na := (lin n b).length) (nb := (lin n o).length)
  have k2 := walkM_ok (E := eqE (lin n b) (lin n t)) (na := (lin n b).length) (nb := (lin n t).length)
  generalize walkM (eqE (lin n b) (lin n o)) (lin n b).length (lin n o).length 0 0 = m1 at k1 ⊢
  generalize walkM (eqE (lin n b) (lin n t)) (lin n b).length (lin n t).length 0 0 = m2 at k2 ⊢
  clear hE1 hE2 g3 k3 j3 hx hy
  generalize lin n b = B at *
  generalize lin n o = O at *
  generalize lin n t = T at *
  refine Ok_ob7 ?_
  unfold m228_w1
  rw [a4, a5, a6]
  refine Ok_it7 (fun (s : List UInt8) (c _ c3 c4 c5 c6 : Int) => ∃ bs os ts i : Nat, c3 = bs ∧ c4 = os ∧ c5 = ts ∧ c6 = i ∧ MgS B O T m1 m2 bs os ts i ∧ s.length ≤ 4000 * i ∧ 0 ≤ c ∧ c ≤ i ∧ s ++ (mgR B O T m1 m2 (B.length - i) bs os ts i).1 = (mgR B O T m1 m2 B.length 0 0 0 0).1 ∧ c + (mgR B O T m1 m2 (B.length - i) bs os ts i).2 = (mgR B O T m1 m2 B.length 0 0 0 0).2) (fun _ _ _ _ _ _ (c6 : Int) => ((B.length : Int) - c6).toNat) ?_ n _ 0 0 0 0 0 0
    ⟨0, 0, 0, 0, rfl, rfl, rfl, rfl, ⟨by omega, by omega, by omega, by omega, fun j v _ _ h => by omega, fun j v _ _ h => by omega⟩, by simp, by omega, by omega, by simp, by simp⟩ (by show ((B.length : Int) - 0).toNat < n; omega)
  rintro Q lp s c cc c3 c4 c5 c6 hQ ⟨bs, os, ts, i, rfl, rfl, rfl, rfl, hS, h1, h2, h3, h4, h5⟩ ih
  have sb := hS.hb
  have si := hS.hi
  have so := hS.ho
  have st := hS.ht
  refine Ok_ite (fun hlt => Ok_ob1 ?_) (fun hge => Ok.some' (hQ _ ?_))
  · obtain ⟨r, hr⟩ : ∃ r, B.length - i = r + 1 := ⟨B.length - i - 1, by omega⟩
    rw [hr] at h4 h5
    rw [wi_e (x := (i : Int) + 1) (by omega) (by omega)]
    obtain ⟨v, hv⟩ : ∃ v, m2[i]? = some v := ⟨_, List.getElem?_eq_getElem (by rw [k2.len]; omega)⟩
    have hl1 := k1.len
    have hl2 := k2.len
    refine Ok_ix (by omega) (by omega) (fun u hu => ?_)
    rw [Int.toNat_natCast] at hu
    have miss : ¬ (0 ≤ u ∧ 0 ≤ v) → Ok (lp s c cc bs os ts ((i : Int) + 1)) Q := by
      intro hm
      rw [mgR_miss hu hv hm] at h4 h5
      exact ih _ _ _ _ _ _ _ ⟨bs, os, ts, i + 1, rfl, rfl, rfl, by omega, hS.miss (by omega), by omega, by omega, by omega, by rw [show B.length - (i + 1) = r by omega]; exact h4, by rw [show B.length - (i + 1) = r by omega]; exact h5⟩ (by omega)
    refine Ok_ite (fun hu0 => Ok_ix (by omega) (by omega) (fun v' hv' => Ok.some' ?_)) (fun hu0 => Ok.some' ?_)
    · rw [Int.toNat_natCast, hv] at hv'
      obtain rfl := Option.some.inj hv'
      refine Ok_ite (fun hv0 => ?_) (fun hv0 => miss (by omega))
      obtain ⟨u, rfl⟩ : ∃ k : Nat, u = k := ⟨u.toNat, by omega⟩
      obtain ⟨v, rfl⟩ : ∃ k : Nat, v = k := ⟨v.toNat, by omega⟩
      have ru := k1.rng i u hu
      have rv := k2.rng i v hv
      have qu := hS.uo i u (Nat.le_refl _) hu (by omega)
      have qv := hS.ut i v (Nat.le_refl _) hv (by omega)
      refine Ok_ix (by omega) (by omega) (fun u' hu' => ?_)
      rw [Int.toNat_natCast, hu] at hu'
      obtain rfl := Option.some.inj hu'
      refine Ok_ix (by omega) (by omega) (fun v' hv' => ?_)
      rw [Int.toNat_natCast, hv] at hv'
      obtain rfl := Option.some.inj hv'
      have c1 := flatten_cut_le (l := O) (p := os) (q := u)
      have c2 := flatten_cut_le (l := T) (p := ts) (q := v)
      rw [fo] at c1
      rw [ft] at c2
      refine Ok_cl2 (pieceA_ok hn hTX (by omega) (by omega) (by omega) (by omega) (by omega) (by omega) (by omega)) ?_
      have g := pieceP_len (cutL B bs i) (cutL O os u) (cutL T ts v)
      refine Ok_ix (by omega) (by omega) (fun x hx => ?_)
      rw [Int.toNat_natCast] at hx
      have hxl : x.length ≤ B.flatten.length := List.Sublist.length_le (List.sublist_flatten_of_mem (List.mem_of_getElem? hx))
      rw [fb] at hxl
      refine Ok_cl1 (add_ok (by rw [List.length_append]; omega) (by omega)) (Ok_ix (by omega) (by omega) (fun u' hu' => ?_))
      rw [Int.toNat_natCast, hu] at hu'
      obtain rfl := Option.some.inj hu'
      refine Ok_ix (by omega) (by omega) (fun v' hv' => ?_)
      rw [Int.toNat_natCast, hv] at hv'
      obtain rfl := Option.some.inj hv'
      rw [mgR_hit hu hv hx] at h4 h5
      rw [wi_e (x := (u : Int) + 1) (by omega) (by omega), wi_e (x := (v : Int) + 1) (by omega) (by omega), wi_e (by omega) (by omega)]
      refine ih _ _ _ _ _ _ _ ⟨i + 1, u + 1, v + 1, i + 1, by omega, by omega, by omega, by omega, hS.hit (by omega) k1 k2 hu hv, by rw [List.length_append, List.length_append]; omega, by omega, by omega, ?_, ?_⟩ (by omega)
      · rw [show B.length - (i + 1) = r by omega, ← h4]
        simp only [List.append_assoc]
      · rw [show B.length - (i + 1) = r by omega, ← h5]
        dsimp only
        omega
    · exact Ok_cond (fun e => nomatch e) (fun _ => miss (by omega))
  · have hi : i = B.length := by omega
    rw [hi, Nat.sub_self, mgR] at h4 h5
    have c1 := flatten_cut_le (l := O) (p := os) (q := O.length)
    have c2 := flatten_cut_le (l := T) (p := ts) (q := T.length)
    rw [fo] at c1
    rw [ft] at c2
    have g := pieceP_len (cutL B bs B.length) (cutL O os O.length) (cutL T ts T.length)
    dsimp only
    refine Ok_cl2 (pieceA_ok hn hTX (by omega) (Nat.le_refl _) so (Nat.le_refl _) st (Nat.le_refl _) (by omega)) ?_
    rw [wi_e (by omega) (by omega)]
    exact Ok.some' ⟨h4, h5, rfl⟩
end Go.Proofs.Qxb6500350aGreat
