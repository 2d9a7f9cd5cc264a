/- PLAIN LAW: OPEN. -/
import Derived.Test.Qxb6500350aGreatK12
set_option linter.unusedVariables false
set_option linter.unusedSimpArgs false
set_option maxHeartbeats 1000000
namespace Go.Proofs.Qxb6500350aGreat
open Go.Eng Go
def lowA (A : Int → Ob) (c : Int) : Int → Ob := fun j => if j < c then A j else Ob.free
theorem lowA_succ (A : Int → Ob) (c : Int) : lowA A (c + 1) = upd (lowA A c) c (A c) := by
  funext j
  show (if j < c + 1 then A j else Ob.free) = if j = c then A c else if j < c then A j else Ob.free
  by_cases h : j = c
  · subst h; rw [if_pos (by omega), if_pos rfl]
  · rw [if_neg h]
    by_cases h2 : j < c
    · rw [if_pos (by omega), if_pos h2]
    · rw [if_neg (by omega), if_neg h2]
theorem lowA_at (A : Int → Ob) (c : Int) : lowA A c c = Ob.free := by unfold lowA; rw [if_neg (by omega)]
section
variable {n : Nat} {s : Store} {d : Dev} {A : Int → Ob} {root : Int} {H : Int → Prop}
theorem Sti.adopt {D : Int → List UInt8} {c : Int} {e : Entr} {o : Ob} {u : Int → Int} (h : Sti s D A H) (h0 : 1 ≤ c) (h1 : c ≤ 48) (hc : A c = Ob.free) (he : EntOk D e o) (ho : o.st ≠ 0)
    (hd : ∀ j b, 1 ≤ j → j ≤ 48 → j ≠ c → b ∈ (A j).bl → b ∉ o.bl) (hu : Marks u (fun b => usedB A b || o.bl.contains b)) (hH : ¬ H c) :
    Sti { s with tab := upI s.tab c e, nfree := s.nfree - 1, used := u } D (upd A c o) H := by
  have hA : ∀ j, j ≠ c → upd A c o j = A j := fun j hj => by simp [upd, hj]
  have hAc : upd A c o c = o := by simp [upd]
  refine ⟨fun j j0 j1 => ?_, fun a b x a0 a1 b0 b1 ha hb => ?_, ?_, ?_, ?_, fun j j0 j1 hj => ?_⟩
  · by_cases hj : j = c
    · subst hj; rw [hAc]; simp only [upI, if_true]; exact he
    · rw [hA j hj]; simp only [upI, if_neg hj]; exact h.ent j j0 j1
  · by_cases g1 : a = c <;> by_cases g2 : b = c
    · rw [g1, g2]
    · subst g1; rw [hAc] at ha; rw [hA b g2] at hb; exact absurd ha (hd b x b0 b1 g2 hb)
    · subst g2; rw [hAc] at hb; rw [hA a g1] at ha; exact absurd hb (hd a x a0 a1 g1 ha)
    · rw [hA a g1] at ha; rw [hA b g2] at hb; exact h.dis a b x a0 a1 b0 b1 ha hb
  · have : usedB (upd A c o) = fun b => usedB A b || o.bl.contains b := by
      funext b
      rw [Bool.eq_iff_iff, usedB_iff, Bool.or_eq_true, usedB_iff, List.contains_iff_mem]
      constructor
      · rintro ⟨j, j0, j1, hj⟩
        by_cases g : j = c
        · subst g; rw [hAc] at hj; exact .inr hj
        · rw [hA j g] at hj; exact .inl ⟨j, j0, j1, hj⟩
      · rintro (⟨j, j0, j1, hj⟩ | hb)
        · have g : j ≠ c := by rintro rfl; rw [hc] at hj; cases hj
          exact ⟨j, j0, j1, by rw [hA j g]; exact hj⟩
        · exact ⟨c, h0, h1, by rw [hAc]; exact hb⟩
    rw [this]; exact hu
  · have := nfr_less (A := A) (o := o) h0 h1 (by rw [hc]; rfl) ho
    have h2 := h.nf
    show s.nfree - 1 = _
    omega
  · obtain ⟨L, hL⟩ := h.hg
    refine ⟨L, fun b b0 b1 => ?_⟩
    obtain ⟨l1, l2, l3⟩ := hL b b0 b1
    have hni : ∀ j, j ∈ L b → j ≠ c := by rintro j hj rfl; exact hH ((l3 j).1 hj).2.2.1
    refine ⟨l1.congr (fun j hj => by simp [upI, hni j hj]), l2, fun j => ?_⟩
    rw [l3 j]
    by_cases hj : j = c
    · subst hj
      exact ⟨fun ⟨_, _, g, _⟩ => absurd g hH, fun ⟨_, _, g, _⟩ => absurd g hH⟩
    · rw [hA j hj]
  · have g : j ≠ c := by rintro rfl; exact hH hj
    rw [hA j g]; exact h.hs j j0 j1 hj
theorem open_ok (hn : 100000 ≤ n) (hd : d.Wf) (h : Las d.B A root) : Ok (m72 n d) (fun s => Sto s d.B A root) := by
  have hroot : 0 ≤ root ∧ root ≤ 48 := by rcases h.rt with h | h <;> omega
  unfold m72
  refine Ok_cl1 (block_ok hn hd (by omega) (by omega)) ?_
  rw [show d.B 0 = supB A root from h.sup]
  refine Ok_ix (by omega) (by rw [supB_len]; omega) (fun y hy => ?_)
  obtain rfl : u8 root = y := Option.some.inj ((supB_zero A root).symm.trans hy)
  rw [u8_nat hroot.1 (by omega)]
  refine Ok_nm (Ok_ob2 ?_)
  unfold m72_w1
  refine Ok_it2 (fun (c : Int) (s' : Store) => 1 ≤ c ∧ c ≤ 49 ∧ Sti s' d.B (lowA A c) (fun j => (lowA A c j).st = 2) ∧ s'.root = root) (fun (c : Int) _ => (49 - c).toNat) ?_ n 1 _ ⟨by omega, by omega, ?_, rfl⟩ (by show (49 - 1 : Int).toNat < n; omega)
  rotate_left
  · have hf : ∀ i, 1 ≤ i → i ≤ 48 → lowA A 1 i = Ob.free := fun i h0 h1 => by unfold lowA; rw [if_neg (by omega)]
    refine ⟨fun i h0 h1 => ?_, fun i j b a0 a1 b0 b1 ha hb => ?_, ?_, ?_, ⟨fun _ => [], fun b b0 b1 => ⟨rfl, List.nodup_nil, fun i => ?_⟩⟩, fun i h0 h1 hi => ?_⟩
    · rw [hf i h0 h1]; exact ⟨rfl, fun _ => ⟨rfl, rfl⟩, fun h => absurd rfl h⟩
    · rw [hf i a0 a1] at ha; cases ha
    · have : usedB (lowA A 1) = fun _ => false := by
        funext b
        rw [Bool.eq_false_iff]
        intro hu
        obtain ⟨i, i0, i1, i2⟩ := usedB_iff.1 hu
        rw [hf i i0 i1] at i2; cases i2
      rw [this]
      intro w w0 w1
      exact ⟨Int.le_refl 0, (by show (0 : Int) < 18446744073709551616; omega), fun j hj => by show (0 : Int).toNat.testBit j = false; simp⟩
    · show (48 : Int) = _
      unfold nfr
      have : (ids.filter fun i => decide ((lowA A 1 i).st = 0)) = ids := List.filter_eq_self.2 (fun i hi => by have := mem_ids.1 hi; rw [hf i this.1 this.2]; rfl)
      rw [this, ids_len]; rfl
    · constructor
      · intro hi; cases hi
      · rintro ⟨i0, i1, i2, _⟩; rw [hf i i0 i1] at i2; cases i2
    · rw [hf i h0 h1] at hi; cases hi
  rintro Q lp c s' hQ ⟨i0, i1, i2, i3⟩ ih
  refine Ok_ite (fun hc => ?_) (fun hc => ?_)
  · refine Ok_ix (by omega) (by rw [supB_len]; omega) (fun x hx => ?_)
    rw [supB_get A root i0 (by omega)] at hx
    have hx := Option.some.inj hx
    rcases h.ob c i0 hc with hfree | ⟨g1, g2, g3, g4, g5, g6⟩
    · have hx0 : x = 0 := by rw [← hx, hfree, if_neg (by rintro ⟨_, h | h⟩ <;> cases h)]
      subst hx0
      refine Ok_ite (fun h => absurd rfl h) (fun _ => ?_)
      simp (disch := omega) only [wi_of]
      refine ih _ _ ⟨by omega, by omega, ?_, i3⟩ (by omega)
      have : lowA A (c + 1) = lowA A c := by
        rw [lowA_succ]; funext j; unfold upd
        by_cases hj : j = c
        · subst hj; rw [if_pos rfl, hfree, lowA_at]
        · rw [if_neg hj]
      rw [this]; exact i2
    · have hfr : 1 ≤ (A c).bl.headD 0 ∧ (A c).bl.headD 0 < 145 := by
        have hp := nbk_pos (A c).data.length
        have g5' := g5
        unfold chunks at g5'
        cases hk : nbk (A c).data.length with
        | zero => omega
        | succ k =>
          rw [hk] at g5'
          obtain ⟨f, bl', _, e2, e3, _⟩ := g5'
          exact ⟨e2, e3⟩
      rw [if_pos ⟨hc, .inl g1⟩] at hx
      subst hx
      rw [u8_nat (by omega) (by omega)]
      refine Ok_ite (fun _ => ?_) (fun h => absurd (show (A c).bl.headD 0 = 0 from Classical.not_not.1 h) (by omega))
      refine Ok_cl2 (survey_ok hn hd g2 g3 g4 g5) (Ok_nm (Ok_cond (fun _ => ?_) (fun h => nomatch h)))
      refine Ok_ck (by omega) (by omega) (Ok_nm (Ok_nm ?_))
      have hnf := i2.nf
      have hle := nfr_le (lowA A c)
      have hws : IntKind.i64.wrap (s'.nfree - 1) = s'.nfree - 1 := wi_of (by omega) (by omega)
      rw [show wi (s'.nfree - 1) = s'.nfree - 1 from hws]
      refine Ok_ob1 ((claim_ok (U := usedB (lowA A c)) hn hd (by exact i2.um) g4 g5).mono ?_)
      rintro s2 ⟨u, rfl, hu⟩
      have hent : EntOk d.B { state := 2, kind := (A c).kind, size := ((A c).data.length : Int), first := (A c).bl.headD 0, hash := hashV (A c).kind (A c).data, nxt := 0 } (A c) :=
        ⟨g1.symm, fun h => by omega, fun _ => ⟨by omega, by omega, g2, g3, g4, rfl, rfl, rfl, g5, g6⟩⟩
      have hst := i2.adopt i0 hc (lowA_at A c) hent (by omega) (fun j b j0 j1 hj hb hb2 => by
        have : j < c := by
          rcases Classical.em (j < c) with g | g
          · exact g
          · unfold lowA at hb; rw [if_neg g] at hb; cases hb
        unfold lowA at hb; rw [if_pos this] at hb
        exact hj (h.dis j c b j0 j1 i0 hc hb hb2)) hu (by rw [lowA_at]; rintro h; cases h)
      rw [← lowA_succ] at hst
      refine Ok_ob1 ((rehang_ok hst i0 hc (by rw [lowA_succ]; simp only [upd, if_true]; omega) (by rw [lowA_at]; rintro h; cases h)).mono ?_)
      rintro s3 ⟨k1, k2⟩
      simp (disch := omega) only [wi_of]
      refine ih _ _ ⟨by omega, by omega, k1.congrH (fun j j0 j1 => ?_), k2.trans i3⟩ (by omega)
      rw [lowA_succ]
      by_cases hj : j = c
      · subst hj; simp [upd, g1]
      · simp [upd, hj]
  · refine Ok.some' (hQ _ (Ok.some' ?_))
    have he : ∀ j, 1 ≤ j → j ≤ 48 → A j = lowA A c j := fun j j0 j1 => by unfold lowA; rw [if_pos (by omega)]
    have hlv : ∀ j, 1 ≤ j → j ≤ 48 → ((A j).lv ↔ (A j).st = 2) := by
      intro j j0 j1
      rcases h.ob j j0 j1 with hf | hf
      · rw [hf]; exact ⟨(fun h => by rcases h with h | h <;> cases h), (fun h => by cases h)⟩
      · exact ⟨fun _ => hf.1, fun h => .inr h⟩
    refine (i2.congrA he).sto (fun j j0 j1 => by rw [← he j j0 j1, hlv j j0 j1]) i3 h.sup ?_ ?_
    · rcases h.rt with h1 | h1
      · exact .inl h1
      · exact .inr ⟨h1.1, h1.2.1, .inl h1.2.2⟩
    · intro i j a0 a1 b0 b1 ha hb hk hdt
      exact h.tw i j a0 a1 b0 b1 ((hlv i a0 a1).1 ha) ((hlv j b0 b1).1 hb) hk hdt
end
theorem Sto.las {s : Store} {D : Int → List UInt8} {A : Int → Ob} {root : Int} (h : Sto s D A root) (hk : ∀ i, 1 ≤ i → i ≤ 48 → (A i).st = 0 ∨ (A i).st = 2) : Las D A root := by
  refine ⟨fun i h0 h1 => ?_, h.dis, h.sup, ?_, fun i j a0 a1 b0 b1 ha hb => h.tw i j a0 a1 b0 b1 (.inr ha) (.inr hb)⟩
  · have he := h.ent i h0 h1
    rcases hk i h0 h1 with h2 | h2
    · exact .inl (he.fr h2).2
    · have hs : (A i).st ≠ 0 := by omega
      obtain ⟨f1, f2, f3, f4, f5, f6, f7, f8, f9, f10⟩ := he.nf hs
      exact .inr ⟨h2, f3, f4, f5, by rw [← (he.first hs).1]; exact f9, f10⟩
  · rcases h.rt with h1 | ⟨h1, h2, h3⟩
    · exact .inl h1
    · refine .inr ⟨h1, h2, ?_⟩
      rcases hk root h1 h2 with h4 | h4
      · omega
      · exact h4
theorem Las.congr {D D' : Int → List UInt8} {A : Int → Ob} {root : Int} (h : Las D A root) (h0 : D' 0 = D 0) (hD : ∀ b, usedB A b = true → D' b = D b) : Las D' A root := by
  refine ⟨fun i i0 i1 => ?_, h.dis, h0.trans h.sup, h.rt, h.tw⟩
  rcases h.ob i i0 i1 with h2 | ⟨g1, g2, g3, g4, g5, g6⟩
  · exact .inl h2
  · exact .inr ⟨g1, g2, g3, g4, g5.congr (fun b hb => hD b (usedB_iff.2 ⟨i, i0, i1, hb⟩)), g6⟩
end Go.Proofs.Qxb6500350aGreat
