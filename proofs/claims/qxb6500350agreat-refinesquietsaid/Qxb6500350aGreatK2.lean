/- PLAIN LAW: THE DEVICE'S RECORD, THE CUT. -/
import Derived.Test.Qxb6500350aGreatK1
import Derived.Test.Qxb6500350aGreatT45
import Derived.Test.Qxb6500350aGreatT69
import Derived.Test.Qxb6500350aGreatT13
set_option linter.unusedVariables false
set_option linter.unusedSimpArgs false
set_option maxHeartbeats 1000000
namespace Go.Proofs.Qxb6500350aGreat
open Go.Eng Go
/-- the writes since the mark -/
def Dev.ws (d : Dev) : List (Int × List UInt8) := (List.range d.at_.length).map fun i => (d.at_.getD i 0, blkOf d.data i)
def applyW (l : List UInt8) (ws : List (Int × List UInt8)) : List UInt8 := ws.foldl (fun l w => setBlk l w.1 w.2) l
theorem applyW_app (l : List UInt8) (a b : List (Int × List UInt8)) : applyW l (a ++ b) = applyW (applyW l a) b := by unfold applyW; rw [List.foldl_append]
theorem Dev.ws_len (d : Dev) : d.ws.length = d.at_.length := by simp [Dev.ws]
theorem Dev.ws_take_succ {d : Dev} {k : Nat} (h : k < d.at_.length) : d.ws.take (k + 1) = d.ws.take k ++ [(d.at_.getD k 0, blkOf d.data k)] := by
  rw [List.take_add_one]
  congr 1
  have h2 : k < d.ws.length := by rw [Dev.ws_len]; exact h
  rw [List.getElem?_eq_getElem h2]
  simp [Dev.ws]
theorem chunk_len {l : List UInt8} {n : Nat} {k : Nat} (h : l.length = 64 * n) (hk : k < n) : (blkOf l (k : Int)).length = 64 := by
  unfold blkOf; simp; omega
theorem Dev.ws_mem {d : Dev} (h : d.Wf) {w : Int × List UInt8} (hw : w ∈ d.ws) : 0 ≤ w.1 ∧ w.1 < 145 ∧ w.2.length = 64 := by
  simp only [Dev.ws, List.mem_map, List.mem_range] at hw
  obtain ⟨i, hi, rfl⟩ := hw
  have : d.at_.getD i 0 ∈ d.at_ := by rw [List.getD_eq_getElem?_getD, List.getElem?_eq_getElem hi]; exact List.getElem_mem hi
  exact ⟨(h.ra _ this).1, (h.ra _ this).2, chunk_len h.ld hi⟩
theorem applyW_len {ws : List (Int × List UInt8)} : ∀ {l : List UInt8}, l.length = 9280 → (∀ w, w ∈ ws → 0 ≤ w.1 ∧ w.1 < 145 ∧ w.2.length = 64) → (applyW l ws).length = 9280 := by
  induction ws with
  | nil => intro l h _; exact h
  | cons w r ih =>
    intro l h hw
    have h1 := hw w (by simp)
    exact ih (setBlk_len h h1.1 h1.2.1 h1.2.2) (fun v hv => hw v (List.mem_cons_of_mem _ hv))
theorem Dev.put_ws {d : Dev} {b : Int} {x : List UInt8} (h : d.Wf) (hx : x.length = 64) : (d.put b x).ws = d.ws ++ [(b, x)] := by
  have hl : (d.put b x).at_.length = d.at_.length + 1 := by simp [Dev.put]
  have hld := h.ld
  unfold Dev.ws
  rw [hl, List.range_succ, List.map_append]
  congr 1
  · apply List.map_congr_left
    intro i hi
    rw [List.mem_range] at hi
    congr 1
    · simp only [Dev.put, List.getD_eq_getElem?_getD]
      rw [List.getElem?_append_left hi]
    · simp only [Dev.put, blkOf]
      rw [List.drop_append, List.take_append_of_le_length (by simp; omega)]
  · simp only [List.map_cons, List.map_nil]
    congr 2
    · simp [Dev.put]
    · simp only [Dev.put, blkOf]
      rw [List.drop_append, List.drop_of_length_le (by simp; omega)]
      have : ((d.at_.length : Int).toNat * 64 - d.data.length) = 0 := by simp; omega
      rw [this]; simp [List.take_of_length_le (Nat.le_of_eq hx)]
/-- a device whose record is true -/
structure Dev.Good (d : Dev) : Prop extends d.Wf where
  rec_ : d.blk = applyW d.base d.ws
theorem Dev.Good.put {d : Dev} {b : Int} {x : List UInt8} (h : d.Good) (h0 : 0 ≤ b) (h1 : b < 145) (hx : x.length = 64) : (d.put b x).Good where
  toWf := Dev.put_wf h.toWf h0 h1 hx
  rec_ := by rw [Dev.put_ws h.toWf hx, applyW_app]; show setBlk d.blk b x = setBlk (applyW d.base d.ws) b x; rw [← h.rec_]

/-- a device of these bytes, freshly marked -/
def Dev.at0 (l : List UInt8) : Dev := { blk := l, base := l, at_ := [], data := [] }
theorem Dev.at0_good {l : List UInt8} (h : l.length = 9280) : (Dev.at0 l).Good where
  lb := h
  la := h
  ld := rfl
  ra := by intro b hb; cases hb
  rec_ := rfl
theorem set_copy {s t : List UInt8} {c : Nat} {x : UInt8} (hl : t.length = s.length) (hp : ∀ j : Nat, j < c → t[j]? = s[j]?) (hx : s[c]? = some x) (j : Nat) (hj : j < c + 1) : (t.set c x)[j]? = s[j]? := by
  have hc : c < s.length := by
    rcases Nat.lt_or_ge c s.length with h | h
    · exact h
    · rw [List.getElem?_eq_none h] at hx; cases hx
  rw [List.getElem?_set]
  split
  · rename_i he; subst he; rw [if_pos (by omega), hx]
  · exact hp j (by omega)
theorem copy_done {s t : List UInt8} {c : Nat} (hl : t.length = s.length) (hc : s.length ≤ c) (hp : ∀ j : Nat, j < c → t[j]? = s[j]?) : t = s := by
  apply List.ext_getElem?
  intro j
  by_cases hj : j < c
  · exact hp j hj
  · rw [List.getElem?_eq_none (by omega), List.getElem?_eq_none (by omega)]
theorem mark_ok {n : Nat} {d : Dev} (hn : 100000 ≤ n) (h : d.Wf) : m45 n d = some (Dev.at0 d.blk) := by
  refine Ok.eq ?_
  have hlb := h.lb
  have hla := h.la
  unfold m45
  refine Ok_ob2 ?_
  unfold m45_w1
  refine Ok_it2 (fun c z => 0 ≤ c ∧ c ≤ 9280 ∧ z.blk = d.blk ∧ z.base.length = 9280 ∧ ∀ j : Nat, j < c.toNat → z.base[j]? = d.blk[j]?) (fun c _ => (9280 - c).toNat) ?_ _ _ _ ⟨by omega, by omega, rfl, hla, fun j hj => by omega⟩ (by show (9280 - 0 : Int).toNat < n; omega)
  rintro Qlp lp c z hQlp ⟨i0, i1, i2, i3, i4⟩ ih
  rw [i2]
  refine Ok_ite (fun hc => ?_) (fun hc => ?_)
  · refine Ok_ix (by omega) (by omega) (fun y hy => ?_)
    refine Ok_ck (by omega) (by omega) (Ok_st (by omega) (by omega) (Ok_nm ?_))
    simp (disch := omega) only [wi_of]
    refine ih _ _ ⟨by omega, by omega, rfl, by simpa using i3, fun j hj => ?_⟩ (by omega)
    exact set_copy (by omega) i4 hy j (by omega)
  · obtain rfl : c = 9280 := by omega
    refine Ok.some' (hQlp _ (Ok_nm (Ok_nm (Ok.some' ?_))))
    obtain ⟨zb, za, zt, zd⟩ := z
    simp only at *
    subst i2
    have hq := copy_done (by omega) (by omega) i4
    subst hq
    rfl
theorem newDev_ok {n : Nat} : m23 n = some (Dev.at0 (List.replicate 9280 0)) := by
  refine Ok.eq ?_
  unfold m23
  exact Ok_mk (by omega) (by omega) (by omega) (Ok_nm (Ok_mk (by omega) (by omega) (by omega) (Ok_nm (Ok.some' rfl))))
theorem steps_ok {n : Nat} {d : Dev} {b : Below} : m13 n d b = some (d.at_.length : Int) := rfl
theorem cut_ok {n : Nat} {d : Dev} {k : Int} (hn : 1000000 ≤ n) (h : d.Wf) (hs : d.at_.length < 1000000) : m69 n d k = some (Dev.at0 (applyW d.base (d.ws.take k.toNat))) := by
  refine Ok.eq ?_
  have hlb := h.lb
  have hla := h.la
  have hld := h.ld
  unfold m69
  refine Ok_cl1 newDev_ok (Ok_ob2 ?_)
  unfold m69_w1
  refine Ok_it2 (fun c z => 0 ≤ c ∧ c ≤ 9280 ∧ z.blk.length = 9280 ∧ z.base.length = 9280 ∧ z.at_ = [] ∧ z.data = [] ∧ ∀ j : Nat, j < c.toNat → z.blk[j]? = d.base[j]?) (fun c _ => (9280 - c).toNat) ?_ _ _ _ ⟨by omega, by omega, List.length_replicate, List.length_replicate, rfl, rfl, fun j hj => by omega⟩ (by show (9280 - 0 : Int).toNat < n; omega)
  rintro Qlp lp c z hQlp ⟨i0, i1, i2, i3, i4, i5, i6⟩ ih
  refine Ok_ite (fun hc => ?_) (fun hc => ?_)
  · refine Ok_ix (by omega) (by omega) (fun y hy => ?_)
    refine Ok_ck (by omega) (by omega) (Ok_st (by omega) (by omega) (Ok_nm ?_))
    simp (disch := omega) only [wi_of]
    refine ih _ _ ⟨by omega, by omega, by simpa using i2, i3, i4, i5, fun j hj => ?_⟩ (by omega)
    exact set_copy (by omega) i6 hy j (by omega)
  · obtain rfl : c = 9280 := by omega
    clear ih
    have hz := copy_done (by omega) (by show d.base.length ≤ _; omega) i6
    refine Ok.some' (hQlp _ (Ok_ob2 ?_))
    clear i6
    unfold m69_w2
    refine Ok_it2 (fun (c : Int) (z : Dev) => 0 ≤ c ∧ c ≤ d.at_.length ∧ (c ≤ k ∨ c = 0) ∧ z.blk = applyW d.base (d.ws.take c.toNat) ∧ z.base.length = 9280 ∧ z.at_ = [] ∧ z.data = []) (fun (c : Int) _ => (d.at_.length - c).toNat) ?_ _ _ _ ⟨by omega, by omega, .inr rfl, by simp [hz, applyW], i3, i4, i5⟩ (by show (d.at_.length - 0 : Int).toNat < n; omega)
    clear i2 i3 i4 i5 hz z
    rintro Qlp lp c z hQlp ⟨i0, i1, i2, i3, i4, i5, i6⟩ ih
    have hlen : z.blk.length = 9280 := by rw [i3]; exact applyW_len hla (fun w hw => Dev.ws_mem h (List.mem_of_mem_take hw))
    refine Ok_ite2 (fun hc hk => ?_) (fun hc => ?_)
    · have hmem : d.at_.getD c.toNat 0 ∈ d.at_ := by rw [List.getD_eq_getElem?_getD, List.getElem?_eq_getElem (by omega)]; exact List.getElem_mem _
      have hr := h.ra _ hmem
      have hch : (blkOf d.data c).length = 64 := by have := chunk_len (k := c.toNat) hld (by omega); rwa [Int.toNat_of_nonneg i0] at this
      refine Ok_ob2 ?_
      unfold m69_w3
      refine Ok_it2 (fun e y => 0 ≤ e ∧ e ≤ 64 ∧ y.base = z.base ∧ y.at_ = z.at_ ∧ y.data = z.data ∧ y.blk.length = 9280 ∧
        ∀ j : Nat, y.blk[j]? = if (d.at_.getD c.toNat 0).toNat * 64 ≤ j ∧ j < (d.at_.getD c.toNat 0).toNat * 64 + e.toNat then (blkOf d.data c)[j - (d.at_.getD c.toNat 0).toNat * 64]? else z.blk[j]?) (fun e _ => (64 - e).toNat) ?_ _ _ _ ⟨by omega, by omega, rfl, rfl, rfl, hlen, fun j => by rw [if_neg (by omega)]⟩ (by show (64 - 0 : Int).toNat < n; omega)
      rintro Qlp2 lp2 e y hQlp2 ⟨j0, j1, j2, j3, j4, j5, j6⟩ ih2
      refine Ok_ite (fun he => ?_) (fun he => ?_)
      · refine Ok_ix (by omega) (by omega) (fun x hx => ?_)
        have hxe : x = d.at_.getD c.toNat 0 := by rw [List.getD_eq_getElem?_getD, hx]; rfl
        subst hxe
        simp (disch := omega) only [wi_of]
        refine Ok_ix (by omega) (by omega) (fun y2 hy2 => ?_)
        refine Ok_ck (by omega) (by omega) (Ok_st (by omega) (by omega) (Ok_nm ?_))
        refine ih2 _ _ ⟨by omega, by omega, j2, j3, j4, by simpa using j5, fun j => ?_⟩ (by show (64 - (e + 1)).toNat < (64 - e).toNat; omega)
        show (y.blk.set _ y2)[j]? = _
        rw [List.getElem?_set, j6]
        split
        · rename_i he2
          rw [if_pos (by omega), if_pos (by omega), ← hy2, blkOf_get (by omega)]; congr 1; omega
        · rename_i he2
          by_cases hjj : (d.at_.getD c.toNat 0).toNat * 64 ≤ j ∧ j < (d.at_.getD c.toNat 0).toNat * 64 + e.toNat
          · rw [if_pos hjj, if_pos (by omega)]
          · rw [if_neg hjj, if_neg (by omega)]
      · obtain rfl : e = 64 := by omega
        refine Ok.some' (hQlp2 _ ?_)
        simp (disch := omega) only [wi_of]
        refine ih _ _ ⟨by omega, by omega, .inl (by omega), ?_, by show y.base.length = _; rw [j2]; exact i4, by show y.at_ = _; rw [j3]; exact i5, by show y.data = _; rw [j4]; exact i6⟩ (by omega)
        show y.blk = _
        rw [show (c + 1).toNat = c.toNat + 1 by omega, Dev.ws_take_succ (by omega), applyW_app, ← i3]
        show y.blk = setBlk z.blk _ (blkOf d.data (c.toNat : Int))
        rw [Int.toNat_of_nonneg i0]
        apply List.ext_getElem?
        intro j
        rw [j6, setBlk_get hlen hr.1 hr.2 hch]
        rfl
    · clear ih
      refine Ok.some' (hQlp _ (Ok_ob2 ?_))
      have hz : z.blk = applyW d.base (d.ws.take k.toNat) := by
        rw [i3]
        congr 1
        rcases Classical.em (c < k) with h2 | h2
        · have : c = d.at_.length := by
            rcases Classical.em (c < d.at_.length) with h3 | h3
            · exact absurd h2 (hc h3)
            · omega
          rw [List.take_of_length_le (by rw [Dev.ws_len]; omega), List.take_of_length_le (by rw [Dev.ws_len]; omega)]
        · rcases i2 with h3 | h3
          · congr 1; omega
          · congr 1; omega
      unfold m69_w4
      refine Ok_it2 (fun e y => 0 ≤ e ∧ e ≤ 9280 ∧ y.blk = z.blk ∧ y.base.length = 9280 ∧ y.at_ = [] ∧ y.data = [] ∧ ∀ j : Nat, j < e.toNat → y.base[j]? = z.blk[j]?) (fun c _ => (9280 - c).toNat) ?_ _ _ _ ⟨by omega, by omega, rfl, i4, i5, i6, fun j hj => by omega⟩ (by show (9280 - 0 : Int).toNat < n; omega)
      rintro Qlp lp e y hQlp ⟨j0, j1, j2, j3, j4, j5, j6⟩ ih
      rw [j2]
      refine Ok_ite (fun he => ?_) (fun he => ?_)
      · refine Ok_ix (by omega) (by omega) (fun x hx => ?_)
        refine Ok_ck (by omega) (by omega) (Ok_st (by omega) (by omega) (Ok_nm ?_))
        simp (disch := omega) only [wi_of]
        refine ih _ _ ⟨by omega, by omega, rfl, by simpa using j3, j4, j5, fun j hj => ?_⟩ (by omega)
        exact set_copy (by omega) j6 hx j (by omega)
      · obtain rfl : e = 9280 := by omega
        refine Ok.some' (hQlp _ (Ok.some' ?_))
        obtain ⟨yb, ya, yt, yd⟩ := y
        simp only at *
        subst j2 j4 j5
        have hq := copy_done (by omega) (by omega) j6
        subst hq
        rw [hz]; rfl
end Go.Proofs.Qxb6500350aGreat
