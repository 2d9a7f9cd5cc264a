/- THE PLAIN FUNCTIONS of the segment codec and the two rings. No Go in sight. -/
import Derived.Test.Qxb6500351aGreatMd1
set_option linter.unusedVariables false
set_option linter.unusedSimpArgs false
namespace Go.Proofs.Qxb6500351aGreat
open Go.Eng

/-! ### the running sums -/
def sumStep (x : Ss) (b : Int) : Ss := ⟨(x.a + b) % 256, (x.s + (x.a + b) % 256) % 256⟩
def sumAll (x : Ss) (l : List Int) : Ss := l.foldl sumStep x
theorem sumAll_take (x : Ss) (l : List Int) (k : Nat) (h : k < l.length) : sumAll x (l.take (k + 1)) = sumStep (sumAll x (l.take k)) (l.getD k 0) := by
  rw [List.take_add_one, sumAll, List.foldl_append]
  simp [sumAll, List.getD_eq_getElem?_getD, h]
def overF (src dst : Int) (head data : List Int) : Ss := sumAll (sumAll (sumStep (sumStep Ss.zero (src % 256)) (dst % 256)) head) data
theorem sumAll_b (x : Ss) (l : List Int) (h : 0 ≤ x.a ∧ x.a < 256 ∧ 0 ≤ x.s ∧ x.s < 256) : 0 ≤ (sumAll x l).a ∧ (sumAll x l).a < 256 ∧ 0 ≤ (sumAll x l).s ∧ (sumAll x l).s < 256 := by
  induction l generalizing x with
  | nil => exact h
  | cons b r ih => exact ih (sumStep x b) (by simp only [sumStep]; omega)
theorem overF_b (src dst : Int) (head data : List Int) : 0 ≤ (overF src dst head data).a ∧ (overF src dst head data).a < 256 ∧ 0 ≤ (overF src dst head data).s ∧ (overF src dst head data).s < 256 :=
  sumAll_b _ _ (sumAll_b _ _ (by simp only [sumStep]; omega))

/-! ### segments -/
structure Seg where
  sp : Int
  dp : Int
  seq : Int
  ack : Int
  flags : Int
  wnd : Int
  data : List Int
def segC (b : Nat) (s : Seg) : Sg := ⟨s.sp, s.dp, s.seq, s.ack, s.flags, s.wnd, byV b s.data⟩
structure Seg.Ok (s : Seg) : Prop where
  sp : 0 ≤ s.sp ∧ s.sp < 256
  dp : 0 ≤ s.dp ∧ s.dp < 256
  seq : 0 ≤ s.seq ∧ s.seq < 256
  ack : 0 ≤ s.ack ∧ s.ack < 256
  flags : 0 ≤ s.flags ∧ s.flags < 16
  wnd : 0 ≤ s.wnd ∧ s.wnd < 256
  len : s.data.length ≤ 12
  bytes : Bytes s.data
def segHead (s : Seg) : List Int := [s.sp, s.dp, s.seq, s.ack, s.flags, s.wnd]
def segEnc (src dst : Int) (s : Seg) : List Int := segHead s ++ [(overF src dst (segHead s) s.data).a, (overF src dst (segHead s) s.data).s] ++ s.data
theorem segHead_b {s : Seg} (h : s.Ok) : Bytes (segHead s) := by
  intro x hx
  simp only [segHead, List.mem_cons, List.not_mem_nil, or_false] at hx
  obtain ⟨h1, h2, h3, h4, h5, h6, _, _⟩ := h
  rcases hx with rfl | rfl | rfl | rfl | rfl | rfl <;> omega
theorem segEnc_b {src dst : Int} {s : Seg} (h : s.Ok) : Bytes (segEnc src dst s) := by
  have hb := overF_b src dst (segHead s) s.data
  refine ((segHead_b h).append ?_).append h.bytes
  intro x hx
  simp only [List.mem_cons, List.not_mem_nil, or_false] at hx
  rcases hx with rfl | rfl <;> omega
theorem segEnc_len {src dst : Int} {s : Seg} : (segEnc src dst s).length = 8 + s.data.length := by simp [segEnc, segHead]; omega
/-- what Decode answers: an error's number or the segment -/
def segDec (src dst : Int) (raw : List Int) : Int × Seg :=
  let none : Seg := ⟨0, 0, 0, 0, 0, 0, []⟩
  if raw.length < 8 then (1, none) else if 20 < raw.length then (2, none) else
  let x := overF src dst (raw.take 6) (raw.drop 8)
  if x.a ≠ raw.getD 6 0 ∨ x.s ≠ raw.getD 7 0 then (4, none) else if 15 < raw.getD 4 0 then (24, none) else
  (0, ⟨raw.getD 0 0, raw.getD 1 0, raw.getD 2 0, raw.getD 3 0, raw.getD 4 0, raw.getD 5 0, raw.drop 8⟩)

theorem segRow {s : Seg} (h : s.Ok) (n od : Nat) (hn : n = s.data.length) (ho : od = if 8 + s.data.length = 8 then 0 else 0 + 8 * 1) (a0 a1 a2 a3 a4 a5 : Int) (h0 : a0 = s.sp) (h1 : a1 = s.dp) (h2 : a2 = s.seq) (h3 : a3 = s.ack) (h4 : a4 = s.flags) (h5 : a5 = s.wnd) (L : List Int)
    (hL : L = ((((((List.replicate (8 + s.data.length) 0).set 0 a0).set 1 a1).set 2 a2).set 3 a3).set 4 a4).set 5 a5) :
    L.take od ++ s.data.take n ++ L.drop (od + n) = segHead s ++ [0, 0] ++ s.data := by
  subst h0 h1 h2 h3 h4 h5 hn
  have hr : List.replicate (8 + s.data.length) (0 : Int) = 0 :: 0 :: 0 :: 0 :: 0 :: 0 :: 0 :: 0 :: List.replicate s.data.length 0 := by rw [Nat.add_comm]; rfl
  rw [hr] at hL
  simp only [List.set_cons_zero, List.set_cons_succ] at hL
  subst hL
  split at ho
  · have h6 : s.data = [] := List.eq_nil_of_length_eq_zero (by omega)
    subst ho
    simp [h6, segHead]
  · subst ho
    simp [segHead, Nat.add_comm, Nat.add_left_comm]
theorem segSum {s : Seg} {src dst a b : Int} (h1 : a = (overF src dst (segHead s) s.data).a) (h2 : b = (overF src dst (segHead s) s.data).s) : ((segHead s ++ [0, 0] ++ s.data).set 6 a).set 7 b = segEnc src dst s := by
  subst h1 h2; simp [segEnc, segHead]
/-! ### rings -/
def ringAt (r : Nat → Int) (a n : Nat) : List Int := (List.range n).map fun i => r ((a + i) % 16)
theorem ringAt_len (r : Nat → Int) (a n : Nat) : (ringAt r a n).length = n := by simp [ringAt]
theorem ringAt_b {r : Nat → Int} (h : ∀ i, 0 ≤ r i ∧ r i < 256) (a n : Nat) : Bytes (ringAt r a n) := by
  intro x hx
  obtain ⟨i, _, rfl⟩ := List.mem_map.1 hx
  exact h _
theorem runs_ex (a n : Nat) : ∃ f : Nat, f ≤ 16 - a ∧ f ≤ n ∧ (f = 16 - a ∨ f = n) := by
  rcases Nat.le_total (16 - a) n with h | h
  · exact ⟨16 - a, Nat.le_refl _, h, .inl rfl⟩
  · exact ⟨n, h, Nat.le_refl _, .inr rfl⟩
/-- two runs laid one behind the other onto a fresh row -/
theorem two_runs (r : Nat → Int) (a n f : Nat) (ha : a < 16) (hn : n ≤ 16) (h1 : f ≤ 16 - a) (h2 : f ≤ n) (h3 : f = 16 - a ∨ f = n) (od : Nat) (ho : od = if n = f then 0 else 0 + f * 1) (l1 l2 : List Int) (e1 : l1 = (List.range (a + f - a)).map fun i => r (a + i)) (e2 : l2 = (List.range (n - f - 0)).map fun i => r (0 + i)) :
    List.take od (List.take 0 (List.replicate n (0:Int)) ++ List.take f l1 ++ List.drop (0 + f) (List.replicate n 0)) ++ List.take (n - f) l2 ++ List.drop (od + (n - f)) (List.take 0 (List.replicate n 0) ++ List.take f l1 ++ List.drop (0 + f) (List.replicate n 0)) = ringAt r a n := by
  rw [Nat.add_sub_cancel_left] at e1
  rw [Nat.sub_zero] at e2
  subst e1; subst e2
  have key : List.take f (List.take 0 (List.replicate n (0:Int)) ++ List.take f ((List.range f).map fun i => r (a + i)) ++ List.drop (0 + f) (List.replicate n 0)) ++ List.take (n - f) ((List.range (n - f)).map fun i => r (0 + i)) ++ List.drop (f + (n - f)) (List.take 0 (List.replicate n 0) ++ List.take f ((List.range f).map fun i => r (a + i)) ++ List.drop (0 + f) (List.replicate n 0)) = ringAt r a n := by
    apply List.ext_getElem
    · simp [ringAt]; omega
    · intro i hi1 hi2
      have hi : i < n := by simpa [ringAt] using hi2
      simp only [ringAt, List.getElem_map, List.getElem_range]
      by_cases hif : i < f
      · rw [List.getElem_append_left (by simp; omega), List.getElem_append_left (by simp; omega), List.getElem_take, List.getElem_append_left (by simp; omega), List.getElem_append_right (by simp)]
        simp only [List.getElem_take, List.getElem_map, List.getElem_range]
        congr 1
        simp; omega
      · rw [List.getElem_append_left (by simp; omega), List.getElem_append_right (by simp; omega), List.getElem_take, List.getElem_map, List.getElem_range]
        congr 1
        simp; omega
  split at ho
  · rename_i hnf
    subst ho; subst hnf
    rw [← key]
    simp [List.take_take]
  · have : od = f := by omega
    subst this
    exact key
/-- bytes laid onto a ring from place a on (no turn) -/
def layA (r : Nat → Int) (a : Nat) (l : List Int) : Nat → Int := fun i => if a ≤ i ∧ i < a + l.length then l.getD (i - a) 0 else r i
theorem enc_lay {cs cs' css : Array Value} {os sl cap n od : Nat} {src : List Int} (h : BytAt os sl cap css src) (hn : n ≤ sl) (hs : cs'.size = cs.size) (hf : od + n ≤ cs.size)
    (hc : ∀ j, j < cs.size → cs'[j]? = if od ≤ j ∧ j < od + n then some (.int .u8 ((src.take n).getD (j - od) 0)) else cs[j]?) :
    (cs.toList.take od ++ (css.extract os (os + n)).toList ++ cs.toList.drop (od + n)).toArray = cs' := by
  have hex : (css.extract os (os + n)).toList = bV (src.take n) := by
    have h3 := congrArg (fun (x : List Value) => x.take n) h.shows
    simp only [bV, List.map_take] at h3 ⊢
    rw [← h3]
    simp only [Array.toList_extract, List.extract_eq_take_drop, List.take_take]
    congr 1
    omega
  rw [hex]
  have := h.n_eq
  exact arr_put (by simp; omega) hs hf hc
theorem ext_plain {css : Array Value} {os sl cap n : Nat} {src : List Int} (h : BytAt os sl cap css src) (hn : n ≤ sl) : (css.extract os (os + n)).toList.all plainV = true := by
  have h3 := congrArg (fun (x : List Value) => x.take n) h.shows
  have hex : (css.extract os (os + n)).toList = bV (src.take n) := by
    simp only [bV, List.map_take] at h3 ⊢
    rw [← h3]
    simp only [Array.toList_extract, List.extract_eq_take_drop, List.take_take]
    congr 1
    omega
  rw [hex]; exact bV_plain _
theorem ext_fit {css : Array Value} {os sl cap n : Nat} {src : List Int} (h : BytAt os sl cap css src) (hn : n ≤ sl) : os + n ≤ css.size := by have := h.fit; omega
theorem Sb.lay {s : Sb} {css : Array Value} {os sl cap n a od : Nat} {src : List Int} (h : BytAt os sl cap css src) (hn : n ≤ sl) (ha : a + n ≤ 16) (ho : n = 0 ∨ od = a) (hod : od + n ≤ 16) :
    (s.enc.toList.take od ++ (css.extract os (os + n)).toList ++ s.enc.toList.drop (od + n)).toArray = ({ s with ring := layA s.ring a (src.take n) } : Sb).enc := by
  have hl := h.n_eq
  refine enc_lay h hn rfl (by simp only [Sb.size]; omega) ?_
  intro j hj
  simp only [Sb.size] at hj
  have hc : ∀ i, i < 16 → layA s.ring a (src.take n) i = if od ≤ i ∧ i < od + n then (src.take n).getD (i - od) 0 else s.ring i := by
    intro i hi
    have h2 : (src.take n).length = n := by simp; omega
    unfold layA
    rw [h2]
    rcases ho with h0 | h0
    · rw [if_neg (by omega), if_neg (by omega)]
    · rw [h0]
  by_cases h16 : j < 16
  · have e1 : ({ s with ring := layA s.ring a (src.take n) } : Sb).enc[j]? = some (.int .u8 (layA s.ring a (src.take n) j)) := Sb.g_ring (s := { s with ring := layA s.ring a (src.take n) }) j h16 (by omega)
    rw [e1, hc j h16, Sb.g_ring (s := s) j h16 (by omega)]
    split <;> rfl
  · rw [if_neg (by omega)]
    have : j = 16 ∨ j = 17 ∨ j = 18 ∨ j = 19 := by omega
    rcases this with rfl | rfl | rfl | rfl <;> rfl
def putRing (r : Nat → Int) (a n : Nat) (p : List Int) : Nat → Int := fun i => if i < 16 ∧ (i + 16 - a) % 16 < n then p.getD ((i + 16 - a) % 16) 0 else r i
theorem getD_take' (p : List Int) (n i : Nat) (h : i < n) : (p.take n).getD i 0 = p.getD i 0 := by
  rw [List.getD_eq_getElem?_getD, List.getD_eq_getElem?_getD, List.getElem?_take, if_pos h]
theorem getD_drop' (p : List Int) (n i : Nat) : (p.drop n).getD i 0 = p.getD (n + i) 0 := by
  rw [List.getD_eq_getElem?_getD, List.getD_eq_getElem?_getD, List.getElem?_drop]
theorem lay_lay (r : Nat → Int) (a n f : Nat) (p : List Int) (ha : a < 16) (hn : n ≤ 16) (hp : n ≤ p.length) (h1' : f ≤ 16 - a) (h2' : f ≤ n) (h3' : f = 16 - a ∨ f = n) :
    layA (layA r a ((p.take f).take f)) 0 (((p.drop f).take (n - f)).take (n - f)) = putRing r a n p := by
  funext i
  have e1 : ((p.take f).take f).length = f := by simp; omega
  have e2 : (((p.drop f).take (n - f)).take (n - f)).length = n - f := by simp; omega
  unfold layA putRing
  rw [e1, e2]
  by_cases h16 : i < 16
  · by_cases h1 : i < n - f
    · rw [if_pos (by omega), if_pos (by omega), List.take_take, getD_take' _ _ _ (by omega), getD_drop']
      congr 1; omega
    · rw [if_neg (by omega)]
      by_cases h2 : a ≤ i ∧ i < a + f
      · rw [if_pos h2, if_pos (by omega), List.take_take, getD_take' _ _ _ (by omega)]
        congr 1; omega
      · rw [if_neg h2, if_neg (by omega)]
  · rw [if_neg (by omega), if_neg (by omega), if_neg (by omega)]
def Sb.putN (s : Sb) (p : List Int) : Int := least p.length (16 - s.count)
def Sb.put (s : Sb) (p : List Int) : Sb := { s with ring := putRing s.ring ((s.head + s.count) % 16).toNat (s.putN p).toNat p, count := s.count + s.putN p }
theorem Sb.ok_put {s : Sb} (h : s.Ok) {p : List Int} (hp : Bytes p) : (s.put p).Ok := by
  obtain ⟨h1, h2, h3, h4, h5, h6, h7, h8⟩ := h
  have hn : 0 ≤ s.putN p ∧ s.putN p ≤ 16 - s.count := by unfold Sb.putN least; omega
  refine ⟨h1, h2, h3, ?_, ?_, h6, h7, ?_⟩
  · simp only [Sb.put]; omega
  · simp only [Sb.put]; omega
  · intro i
    simp only [Sb.put, putRing]
    split
    · exact hp.getD _
    · exact h8 i
/-- what Next and Again answer -/
def Sb.span (s : Sb) (off n : Int) : List Int := ringAt s.ring ((s.head + off) % 16).toNat n.toNat
def Sb.nextN (s : Sb) (mx : Int) : Int := least mx (s.count - s.sent)
def Sb.next (s : Sb) (mx : Int) : Sb := { s with sent := s.sent + s.nextN mx }
theorem Sb.nextN_b {s : Sb} (h : s.Ok) (mx : Int) : 0 ≤ s.nextN mx ∧ s.nextN mx ≤ s.count - s.sent := by
  obtain ⟨h1, h2, h3, h4, h5, h6, h7, h8⟩ := h
  unfold Sb.nextN least; omega
theorem Sb.ok_next {s : Sb} (h : s.Ok) (mx : Int) : (s.next mx).Ok := by
  have hn := Sb.nextN_b h mx
  obtain ⟨h1, h2, h3, h4, h5, h6, h7, h8⟩ := h
  refine ⟨h1, h2, ?_, ?_, h5, h6, h7, h8⟩ <;> simp only [Sb.next] <;> omega
def Sb.againN (s : Sb) (mx : Int) : Int := least mx s.sent
theorem Sb.againN_b {s : Sb} (h : s.Ok) (mx : Int) : 0 ≤ s.againN mx ∧ s.againN mx ≤ s.sent := by
  obtain ⟨h1, h2, h3, h4, h5, h6, h7, h8⟩ := h
  unfold Sb.againN least; omega
theorem Sb.span_b {s : Sb} (h : s.Ok) (off n : Int) : Bytes (s.span off n) := ringAt_b h.ringB _ _
theorem Sb.span_len {s : Sb} (off n : Int) : (s.span off n).length = n.toNat := ringAt_len _ _ _
theorem Sb.ok_zero : Sb.zero.Ok := by constructor <;> simp [Sb.zero]
/-! ### The receive buffer -/
def Rb.reset (r : Rb) (q : Int) : Rb := { r with nxt := seqAdd q 0, avail := 0, ahead := 0 }
theorem Rb.ok_reset {r : Rb} (h : r.Ok) (q : Int) : (r.reset q).Ok := by
  have := seqAdd_b q 0
  refine ⟨?_, ?_, ?_, ?_, ?_, ?_, h.ringB, fun k h1 h2 => by simp [Rb.reset]⟩ <;> simp only [Rb.reset] <;> omega
theorem Rb.ok_zero : Rb.zero.Ok := by constructor <;> simp [Rb.zero]
def Rb.first (r : Rb) (n : Int) : List Int := ringAt r.ring ((r.nxt + 256 - r.avail) % 16).toNat n.toNat
theorem Rb.first_b {r : Rb} (h : r.Ok) (n : Int) : Bytes (r.first n) := ringAt_b h.ringB _ _
theorem Rb.first_len {r : Rb} (n : Int) : (r.first n).length = n.toNat := ringAt_len _ _ _
def Rb.readN (r : Rb) (mx : Int) : Int := least mx r.avail
def Rb.read (r : Rb) (mx : Int) : Rb := { r with avail := r.avail - r.readN mx }
theorem Rb.readN_b {r : Rb} (h : r.Ok) (mx : Int) : 0 ≤ r.readN mx ∧ r.readN mx ≤ r.avail := by
  obtain ⟨h1, h2, h3, h4, h5, h6, h7, _⟩ := h
  unfold Rb.readN least; omega
theorem Rb.ok_read {r : Rb} (h : r.Ok) (mx : Int) : (r.read mx).Ok := by
  have hn := Rb.readN_b h mx
  obtain ⟨h1, h2, h3, h4, h5, h6, h7, h8⟩ := h
  refine ⟨h1, h2, ?_, ?_, h5, h6, h7, fun k k1 k2 => h8 k k1 (by simp only [Rb.read] at k2; omega)⟩ <;> simp only [Rb.read] <;> omega
end Go.Proofs.Qxb6500351aGreat
