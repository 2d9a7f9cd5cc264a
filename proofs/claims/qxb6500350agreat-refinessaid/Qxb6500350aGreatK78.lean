/- PLAIN LAW: WEIGHT (1): NUMBERS AS TEXT; KEYS. -/
import Derived.Test.Qxb6500350aGreatK77
import Derived.Test.Qxb6500350aGreatT162
set_option linter.unusedVariables false
set_option linter.unusedSimpArgs false
set_option maxHeartbeats 2000000
namespace Go.Proofs.Qxb6500350aGreat
open Go.Eng Go
theorem arrL_put {z : Int → UInt8} {c : Nat} {v : UInt8} (h : c < 24) : (arrL (upI z c v) 24).drop c = v :: (arrL z 24).drop (c + 1) := by
  have hl : ∀ f : Int → UInt8, (arrL f 24).length = 24 := fun f => by unfold arrL; simp
  have hg : ∀ (f : Int → UInt8) (i : Nat), i < 24 → (arrL f 24)[i]? = some (f i) := fun f i hi => by unfold arrL; simp [hi]
  refine List.ext_getElem? (fun i => ?_)
  rw [List.getElem?_drop]
  by_cases hi : c + i < 24
  · rw [hg _ _ hi]
    cases i with
    | zero => rw [Nat.add_zero]; unfold upI; rw [if_pos rfl]; rfl
    | succ i =>
      rw [List.getElem?_cons_succ, List.getElem?_drop, hg _ _ (by omega)]
      unfold upI
      rw [if_neg (by omega), show c + 1 + i = c + (i + 1) by omega]
  · rw [List.getElem?_eq_none (by rw [hl]; omega)]
    cases i with
    | zero => omega
    | succ i => rw [List.getElem?_cons_succ, List.getElem?_drop, List.getElem?_eq_none (by rw [hl]; omega)]
/-- the number that the digits show -/
def valD (a : Int) (s : Str) : Int := s.foldl (fun a c => 10 * a + ((c.toNat : Int) - 48)) a
structure Dig (s : Str) (k : Int) : Prop where
  ne : (58 : UInt8) ∉ s
  val : valD 0 s = k
  len : s.length ≤ 24
theorem pow_ge (a : Nat) : (1 : Int) ≤ 10 ^ a := by
  have h : (0 : Int) < 10 ^ a := Int.pow_pos (by decide)
  generalize (10 : Int) ^ a = y at h
  omega
theorem itoa_ex {n : Nat} {k : Int} (hn : 100000 ≤ n) (h0 : 0 ≤ k) (h1 : k < 100000) : Ok (m286 n k) (fun s => Dig s k) := by
  unfold m286
  refine Ok_ite (fun e => Ok.some' ⟨by decide, by rw [e]; rfl, by decide⟩) (fun hk => Ok_ob3 ?_)
  unfold m286_w1
  have hal : ∀ z : Int → UInt8, (arrL z 24).length = 24 := fun f => by unfold arrL; simp
  refine Ok_it3 (fun (c1 c2 : Int) (z : Int → UInt8) => ∃ j : Nat, c2 = j ∧ j ≤ 24 ∧ 0 ≤ c1 ∧ c1 * 10 ^ (24 - j) ≤ k ∧ (58 : UInt8) ∉ (arrL z 24).drop j ∧ valD c1 ((arrL z 24).drop j) = k) (fun (c1 _ : Int) _ => c1.toNat) ?_ n k 24 _
    ⟨24, rfl, by omega, h0, by simp, by rw [List.drop_of_length_le (by rw [hal]; omega)]; simp, by rw [List.drop_of_length_le (by rw [hal]; omega)]; rfl⟩ (by show k.toNat < n; omega)
  rintro Q lp c1 c2 z hQ ⟨j, rfl, j1, j2, j3, j4, j5⟩ ih
  refine Ok_ite (fun hc => ?_) (fun hc => Ok.some' (hQ _ ?_))
  · have hm : Int.tmod c1 10 = c1 % 10 := Int.tmod_eq_emod_of_nonneg j2
    have hd : Int.tdiv c1 10 = c1 / 10 := Int.tdiv_eq_ediv_of_nonneg j2
    rw [hm, hd]
    have hc1k : c1 ≤ k := by
      have h10 := pow_ge (24 - j)
      have := Int.mul_le_mul_of_nonneg_left h10 j2
      omega
    have hj : 19 ≤ j := by
      rcases Nat.lt_or_ge j 19 with h | h
      · exfalso
        have hp : (100000 : Int) ≤ 10 ^ (24 - j) := by
          obtain ⟨a, ha⟩ : ∃ a, 24 - j = 5 + a := ⟨24 - j - 5, by omega⟩
          rw [ha, Int.pow_add]
          have h10 := pow_ge a
          have : (10 : Int) ^ 5 = 100000 := by decide
          rw [this]; omega
        have h1c : 1 ≤ c1 := by omega
        have := Int.mul_le_mul h1c hp (by decide) (by omega)
        omega
      · exact h
    rw [wi_e (x := (j : Int) - 1) (by omega) (by omega), wi_e (x := 48 + c1 % 10) (by omega) (by omega), wi_e (x := c1 / 10) (by omega) (by omega)]
    refine Ok_ite (fun h => by omega) (fun _ => Ok_ck (by omega) (by omega) (Ok_nmz fun z4 hz4 => ?_))
    subst hz4
    rw [show (j : Int) - 1 = ((j - 1 : Nat) : Int) by omega]
    have hput := arrL_put (z := z) (c := j - 1) (v := u8 (48 + c1 % 10)) (by omega)
    rw [show j - 1 + 1 = j by omega] at hput
    have hu : ((u8 (48 + c1 % 10)).toNat : Int) = 48 + c1 % 10 := by
      unfold u8
      rw [UInt8.toNat_ofNat_of_lt' (by show _ < 256; omega)]
      omega
    refine ih _ _ _ ⟨j - 1, rfl, by omega, by omega, ?_, ?_, ?_⟩ (by omega)
    · rw [show 24 - (j - 1) = (24 - j) + 1 by omega, Int.pow_succ]
      have : c1 / 10 * (10 ^ (24 - j) * 10) = (c1 / 10 * 10) * 10 ^ (24 - j) := by rw [Int.mul_comm (10 ^ (24 - j)) 10, Int.mul_assoc]
      rw [this]
      have h2 : c1 / 10 * 10 ≤ c1 := by omega
      have := Int.mul_le_mul_of_nonneg_right h2 (show (0 : Int) ≤ 10 ^ (24 - j) from Int.pow_nonneg (by decide))
      omega
    · rw [hput, List.mem_cons, not_or]
      refine ⟨fun e => ?_, j4⟩
      have : ((58 : UInt8).toNat : Int) = 48 + c1 % 10 := by rw [e, hu]
      have h58 : ((58 : UInt8).toNat : Int) = 58 := rfl
      omega
    · rw [hput]
      show valD (10 * (c1 / 10) + (((u8 (48 + c1 % 10)).toNat : Int) - 48)) _ = k
      rw [hu, show 10 * (c1 / 10) + (48 + c1 % 10 - 48) = c1 by omega]
      exact j5
  · have hc : c1 = 0 := Classical.not_not.1 hc
    subst hc
    dsimp only
    refine Ok_ite (fun h => by omega) (fun _ => ?_)
    unfold slA
    rw [if_pos ⟨by omega, by omega⟩]
    refine Ok_bs (Ok.some' ⟨?_, ?_, ?_⟩)
    · rw [Int.toNat_natCast]; exact j4
    · rw [Int.toNat_natCast]; exact j5
    · rw [List.length_drop, hal]; omega
def ita (n : Nat) (k : Int) : Str := (m286 n k).getD []
theorem itoa_ok {n : Nat} {k : Int} (hn : 100000 ≤ n) (h0 : 0 ≤ k) (h1 : k < 100000) : m286 n k = some (ita n k) ∧ Dig (ita n k) k := by
  obtain ⟨s, h, h2⟩ := itoa_ex hn h0 h1
  unfold ita; rw [h]; exact ⟨rfl, h2⟩
/-- the part of a key that one file writes -/
def keyF (n : Nat) (f : File) : Str := ita n (f.path.length : Int) ++ [58] ++ f.path ++ ita n f.mode ++ [58] ++ ita n (f.data.length : Int) ++ [58] ++ f.data
def keyS (n : Nat) (fs : List File) : Str := fs.flatMap (keyF n)
/-- a file that a key can tell -/
structure Small (f : File) : Prop where
  p : f.path.length < 100000
  m : 0 ≤ f.mode ∧ f.mode ≤ 3
  d : f.data.length < 100000
theorem colon {s t u v : Str} (hs : (58 : UInt8) ∉ s) (ht : (58 : UInt8) ∉ t) (h : s ++ 58 :: u = t ++ 58 :: v) : s = t ∧ u = v := by
  rcases List.append_eq_append_iff.1 h with ⟨a, h1, h2⟩ | ⟨a, h1, h2⟩
  · cases a with
    | nil => rw [List.append_nil] at h1; simp at h2; exact ⟨h1.symm, h2⟩
    | cons c a =>
      simp only [List.cons_append, List.cons.injEq] at h2
      exact absurd (show (58 : UInt8) ∈ t by rw [h1, ← h2.1]; simp) ht
  · cases a with
    | nil => rw [List.append_nil] at h1; simp at h2; exact ⟨h1, h2.symm⟩
    | cons c a =>
      simp only [List.cons_append, List.cons.injEq] at h2
      exact absurd (show (58 : UInt8) ∈ s by rw [h1, ← h2.1]; simp) hs
theorem num_eq {n : Nat} {a b : Int} {u v : Str} (hn : 100000 ≤ n) (ha : 0 ≤ a ∧ a < 100000) (hb : 0 ≤ b ∧ b < 100000) (h : ita n a ++ 58 :: u = ita n b ++ 58 :: v) : a = b ∧ u = v := by
  obtain ⟨_, d1⟩ := itoa_ok hn ha.1 ha.2
  obtain ⟨_, d2⟩ := itoa_ok hn hb.1 hb.2
  obtain ⟨h1, h2⟩ := colon d1.ne d2.ne h
  refine ⟨?_, h2⟩
  rw [← d1.val, ← d2.val, h1]
theorem keyF_eq {n : Nat} {f g : File} {u v : Str} (hn : 100000 ≤ n) (hf : Small f) (hg : Small g) (h : keyF n f ++ u = keyF n g ++ v) : f = g ∧ u = v := by
  have p1 := hf.p
  have p2 := hg.p
  have d1 := hf.d
  have d2 := hg.d
  have m1 := hf.m
  have m2 := hg.m
  unfold keyF at h
  simp only [List.append_assoc, List.singleton_append, List.cons_append, List.nil_append] at h
  obtain ⟨h1, h⟩ := num_eq hn (by omega) (by omega) h
  obtain ⟨h2, h⟩ := List.append_inj h (by omega)
  obtain ⟨h3, h⟩ := num_eq hn (by omega) (by omega) h
  obtain ⟨h4, h⟩ := num_eq hn (by omega) (by omega) h
  obtain ⟨h5, h⟩ := List.append_inj h (by omega)
  refine ⟨?_, h⟩
  cases f; cases g; simp at h2 h3 h5; simp [h2, h3, h5]
theorem keyF_ne {n : Nat} {f : File} : keyF n f ≠ [] := by unfold keyF; simp
theorem keyS_inj {n : Nat} (hn : 100000 ≤ n) : ∀ {a b : List File}, (∀ f, f ∈ a → Small f) → (∀ f, f ∈ b → Small f) → keyS n a = keyS n b → a = b
  | [], [], _, _, _ => rfl
  | [], g :: b, _, _, h => by
    unfold keyS at h
    rw [List.flatMap_cons] at h
    exact absurd (List.append_eq_nil_iff.1 h.symm).1 keyF_ne
  | f :: a, [], _, _, h => by
    unfold keyS at h
    rw [List.flatMap_cons] at h
    exact absurd (List.append_eq_nil_iff.1 h).1 keyF_ne
  | f :: a, g :: b, ha, hb, h => by
    unfold keyS at h
    rw [List.flatMap_cons, List.flatMap_cons] at h
    obtain ⟨h1, h2⟩ := keyF_eq hn (ha f (by simp)) (hb g (by simp)) h
    rw [h1, keyS_inj hn (fun x hx => ha x (List.mem_cons_of_mem _ hx)) (fun x hx => hb x (List.mem_cons_of_mem _ hx)) h2]
theorem keyF_len {n : Nat} {f : File} (hn : 100000 ≤ n) (hf : Small f) : (keyF n f).length ≤ f.path.length + f.data.length + 100 := by
  have p1 := hf.p
  have d1 := hf.d
  have m1 := hf.m
  obtain ⟨_, e1⟩ := itoa_ok (k := f.path.length) hn (by omega) (by omega)
  obtain ⟨_, e2⟩ := itoa_ok (k := f.mode) hn (by omega) (by omega)
  obtain ⟨_, e3⟩ := itoa_ok (k := f.data.length) hn (by omega) (by omega)
  have l1 := e1.len
  have l2 := e2.len
  have l3 := e3.len
  unfold keyF
  simp only [List.length_append, List.length_singleton]
  omega
theorem law_small {l : List File} (h : Law l) (d : Str) : ∀ f, f ∈ subV l d → Small f := by
  intro f hf
  unfold subV at hf
  obtain ⟨g, hg, rfl⟩ := List.mem_map.1 hf
  have hg := (List.mem_filter.1 hg).1
  have h1 := goodP_len (h.good g hg)
  have h2 := h.size g hg
  have h3 := h.mode g hg
  exact ⟨by show (g.path.drop d.length).length < 100000; rw [List.length_drop]; omega, h3, by show g.data.length < 100000; omega⟩
/-- the data of all snapshots, each once -/
def datsW (snaps : List (List File)) : List Str := ((snaps.flatMap fun l => l).map (·.data)).foldl addO []
/-- the keys of all directories, each once -/
def keysW (n : Nat) (snaps : List (List File)) : List Str := (snaps.flatMap fun l => (dirsL l).map fun d => keyS n (subV l d)).foldl addO []
section
variable {n : Nat}
theorem keyW_ok {l : List File} {d : Str} {dirs : List Str} {k : Nat} (hn : 100000 ≤ n) (h : Law l) (hd : dirs[k]? = some d) : Ok (m241_w4 n l dirs k n [] 0) (fun q => q.1 = keyS n (subV l d)) := by
  have hnum := h.num
  have hk := (List.getElem?_eq_some_iff.1 hd).1
  have rd : ∀ {τ : Type} {P : τ → Prop} {F : Str → Option τ}, Ok (F d) P → Ok (Option.bind (ixL dirs (k : Int)) F) P := fun kk => Ok_ix (by omega) (by omega) (fun z hz => by rw [Int.toNat_natCast, hd] at hz; rw [← Option.some.inj hz]; exact kk)
  unfold m241_w4
  refine Ok_pre2 l (by omega) hn (fun pre s => s = keyS n (subV pre d) ∧ s.length ≤ 400 * pre.length) ⟨rfl, by simp⟩ (fun Q lp s pre x r hQ e hI hlt hget hw ih => ?_) (fun Q lp s hQ hI => ?_)
  · obtain ⟨rfl, hI2⟩ := hI
    have hpl := pre_len e
    have hxm : x ∈ l := by rw [e]; simp
    have hgl := goodP_len (h.good x hxm)
    have hsz := h.size x hxm
    have hmd := h.mode x hxm
    have rx : ∀ {τ : Type} {P : τ → Prop} {F : File → Option τ}, Ok (F x) P → Ok (Option.bind (ixL l (pre.length : Int)) F) P := fun kk => Ok_ix (by omega) hlt (fun z hz => by rw [← hget z hz]; exact kk)
    have hsub : subV (pre ++ [x]) d = subV pre d ++ (if d.isPrefixOf x.path = true then [{ x with path := x.path.drop d.length }] else []) := by
      unfold subV
      rw [List.filter_append, List.map_append]
      congr 1
      rw [List.filter_cons]
      split <;> rfl
    refine Ok_ite (fun _ => rx (rd (Ok_cl1 hasPrefix_ok ?_))) (fun hh => absurd hlt hh)
    rw [hw]
    refine Ok_cond (fun hp => ?_) (fun hp => ih _ ⟨by rw [hsub, if_neg (by rw [hp]; decide), List.append_nil], by simp; omega⟩)
    have hpre := List.isPrefixOf_iff_prefix.1 hp
    have hdl := hpre.length_le
    obtain ⟨i1, g1⟩ := itoa_ok (n := n) (k := ((x.path.drop d.length).length : Int)) hn (by omega) (by rw [List.length_drop]; omega)
    obtain ⟨i2, g2⟩ := itoa_ok (n := n) (k := x.mode) hn (by omega) (by omega)
    obtain ⟨i3, g3⟩ := itoa_ok (n := n) (k := (x.data.length : Int)) hn (by omega) (by omega)
    have l1 := g1.len
    have l2 := g2.len
    have l3 := g3.len
    have l4 : (x.path.drop d.length).length ≤ 12 := by rw [List.length_drop]; omega
    refine rx (rd ?_)
    refine Ok_sSl (by omega) (by omega) (by omega) ?_
    rw [Int.toNat_natCast, Int.toNat_natCast, List.take_length]
    refine Ok_cl1 i1 (rx (Ok_cl1 i2 (rx (Ok_cl1 i3 ?_))))
    refine Ok_sAdd (by omega) (Ok_sAdd (by simp only [List.length_append, List.length_cons, List.length_nil]; omega) (Ok_sAdd (by simp only [List.length_append, List.length_cons, List.length_nil]; omega) (Ok_sAdd (by simp only [List.length_append, List.length_cons, List.length_nil]; omega) (Ok_sAdd (by simp only [List.length_append, List.length_cons, List.length_nil]; omega) (Ok_sAdd (by simp only [List.length_append, List.length_cons, List.length_nil]; omega) (Ok_sAdd (by simp only [List.length_append, List.length_cons, List.length_nil]; omega) (rx (Ok_sAdd (by simp only [List.length_append, List.length_cons, List.length_nil]; omega) ?_))))))))
    refine ih _ ⟨?_, by simp only [List.length_append, List.length_cons, List.length_nil]; omega⟩
    rw [hsub, if_pos hp]
    unfold keyS
    rw [List.flatMap_append, List.flatMap_singleton]
    unfold keyF
    simp only [List.append_assoc]
  · exact Ok_ite (fun hh => absurd hh (by omega)) (fun _ => Ok.some' (hQ _ hI.1))
theorem foldO_snoc {α : Type} [DecidableEq α] (l : List α) (x : α) (s : List α) : (l ++ [x]).foldl addO s = addO (l.foldl addO s) x := by rw [List.foldl_append]; rfl
theorem weight_ok {snaps : List (List File)} (hn : 100000 ≤ n) (hl : snaps.length ≤ 100) (h : ∀ l, l ∈ snaps → Law l) : m241 n snaps = some (((datsW snaps).length : Int) + (keysW n snaps).length) := by
  have bd : ∀ (pre : List (List File)), (∀ l, l ∈ pre → Law l) → pre.length ≤ 100 → (datsW pre).length ≤ 8 * pre.length ∧ (keysW n pre).length ≤ 97 * pre.length := by
    intro pre hp hpl
    have b1 := addAllO_len (l := (pre.flatMap fun l => l).map (·.data)) (set := [])
    have b2 := addAllO_len (l := pre.flatMap fun l => (dirsL l).map fun d => keyS n (subV l d)) (set := [])
    have c1 : ∀ (q : List (List File)), (∀ l, l ∈ q → Law l) → (q.flatMap fun l => l).length ≤ 8 * q.length ∧ (q.flatMap fun l => (dirsL l).map fun d => keyS n (subV l d)).length ≤ 97 * q.length := by
      intro q
      induction q with
      | nil => intro _; simp
      | cons a q ih =>
        intro hq
        have h1 := (hq a (by simp)).num
        have h2 := dirsL_len (hq a (by simp))
        have h3 := ih (fun l hl => hq l (List.mem_cons_of_mem _ hl))
        simp only [List.flatMap_cons, List.length_append, List.length_map, List.length_cons] at h3 ⊢
        omega
    have := c1 pre hp
    rw [List.length_map] at b1
    simp only [List.length_nil] at b1 b2
    unfold datsW keysW
    omega
  refine Ok.eq ?_
  unfold m241
  refine Ok_ob3 ?_
  unfold m241_w1
  refine Ok_pre3 snaps (by omega) hn (fun pre a b => a = datsW pre ∧ b = keysW n pre) ⟨rfl, rfl⟩ (fun Q lp a b pre x r hQ e hI hlt hget hw ih => ?_) (fun Q lp a b hQ hI => ?_)
  · obtain ⟨rfl, rfl⟩ := hI
    have hpl := pre_len e
    have hxm : x ∈ snaps := by rw [e]; simp
    have hx := h x hxm
    have hxn := hx.num
    have hxd := dirsL_len hx
    have bb := bd pre (fun l hl2 => h l (by rw [e]; exact List.mem_append_left _ hl2)) (by omega)
    refine Ok_ite (fun _ => Ok_ix (by omega) hlt (fun y hy => ?_)) (fun hh => absurd hlt hh)
    obtain rfl := hget y hy
    refine Ok_ob2 ?_
    unfold m241_w2
    refine Ok_pre2 x (by omega) hn (fun p2 z => z = (p2.map (·.data)).foldl addO (datsW pre) ∧ z.length ≤ (datsW pre).length + p2.length) ⟨rfl, by simp⟩ (fun Q2 lp2 z p2 f r2 hQ2 e2 hI2 hlt2 hget2 hw2 ih2 => ?_) (fun Q2 lp2 z hQ2 hI2 => ?_)
    · obtain ⟨rfl, hz2⟩ := hI2
      have hp2 := pre_len e2
      refine Ok_ite (fun _ => Ok_ix (by omega) hlt2 (fun y2 hy2 => ?_)) (fun hh => absurd hlt2 hh)
      obtain rfl := hget2 y2 hy2
      refine Ok_cl1 (addOnce_ok hn (by omega)) ?_
      rw [hw2]
      refine ih2 _ ⟨by rw [List.map_append, List.map_singleton, foldO_snoc], ?_⟩
      have := addO_len (set := (p2.map (·.data)).foldl addO (datsW pre)) (s := f.data)
      rw [List.length_append, List.length_singleton]; omega
    · obtain ⟨rfl, hz2⟩ := hI2
      refine Ok_ite (fun hh => absurd hh (by omega)) (fun _ => Ok.some' (hQ2 _ ?_))
      refine Ok_cl1 (dirs_ok hn hx) (Ok_ob2 ?_)
      unfold m241_w3
      refine Ok_pre2 (dirsL x) (by omega) hn (fun p3 z => z = (p3.map fun d => keyS n (subV x d)).foldl addO (keysW n pre) ∧ z.length ≤ (keysW n pre).length + p3.length) ⟨rfl, by simp⟩ (fun Q3 lp3 z p3 d r3 hQ3 e3 hI3 hlt3 hget3 hw3 ih3 => ?_) (fun Q3 lp3 z hQ3 hI3 => ?_)
      · obtain ⟨rfl, hz3⟩ := hI3
        have hp3 := pre_len e3
        have hdk : (dirsL x)[p3.length]? = some d := by rw [e3]; simp
        refine Ok_ite (fun _ => Ok_ob2 ((keyW_ok hn hx hdk).mono (fun q hq => ?_))) (fun hh => absurd hlt3 hh)
        rw [hq]
        refine Ok_cl1 (addOnce_ok hn (by omega)) ?_
        rw [hw3]
        refine ih3 _ ⟨by rw [List.map_append, List.map_singleton, foldO_snoc], ?_⟩
        have := addO_len (set := (p3.map fun d => keyS n (subV x d)).foldl addO (keysW n pre)) (s := keyS n (subV x d))
        rw [List.length_append, List.length_singleton]; omega
      · obtain ⟨rfl, hz3⟩ := hI3
        refine Ok_ite (fun hh => absurd hh (by omega)) (fun _ => Ok.some' (hQ3 _ ?_))
        rw [hw]
        refine ih _ _ ⟨?_, ?_⟩
        · unfold datsW
          rw [List.flatMap_append, List.map_append, List.foldl_append, List.flatMap_singleton]
        · unfold keysW
          rw [List.flatMap_append, List.foldl_append, List.flatMap_singleton]
  · obtain ⟨rfl, rfl⟩ := hI
    refine Ok_ite (fun hh => absurd hh (by omega)) (fun _ => Ok.some' (hQ _ (Ok.some' ?_)))
    have bb := bd snaps h hl
    dsimp only
    rw [wi_e (by omega) (by omega)]
end
end Go.Proofs.Qxb6500350aGreat
