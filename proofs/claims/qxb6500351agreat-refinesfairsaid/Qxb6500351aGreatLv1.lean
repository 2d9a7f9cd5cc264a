/- THE WORK, part 1: datagrams put together; tables that hold old datagrams alone. No Go in sight. -/
import Derived.Test.Qxb6500351aGreatPl13
set_option linter.unusedVariables false
set_option linter.unusedSimpArgs false
namespace Go.Proofs.Qxb6500351aGreat
open Go.Eng
/-- no slot of the reassembly table is in use -/
def Ipt.Clean (p : Ipt) : Prop := ∀ i, i < 3 → (p.tab i).used = false
theorem Ipt.Clean.find {p : Ipt} (h : p.Clean) (key : Int) : p.find key < 0 := by
  unfold Ipt.find
  rw [h 0 (by decide), h 1 (by decide), h 2 (by decide)]
  simp
theorem Ipt.Clean.vacant {p : Ipt} (h : p.Clean) : ¬ p.vacant < 0 := by
  unfold Ipt.vacant
  rw [h 0 (by decide), if_pos rfl]
  decide
theorem Ipt.no_find {p : Ipt} {key : Int} (h : p.find key < 0) : ∀ j, j < 3 → ¬ ((p.tab j).used = true ∧ (p.tab j).key = key) := by
  intro j hj
  unfold Ipt.find at h
  split at h
  · omega
  · split at h
    · omega
    · split at h
      · omega
      · rename_i h0 h1 h2
        have : j = 0 ∨ j = 1 ∨ j = 2 := by omega
        rcases this with rfl | rfl | rfl
        · exact h0
        · exact h1
        · exact h2
section
variable {d : Dgr} {p : Ipt}
theorem inp_one (hl : d.pay.length ≤ 16) (h0 : 1 ≤ d.pay.length) (ha : d.dst = p.addr) : p.inp (ipPkt 6 d.src d.dst (d.m % 256) 0 d.pay) = (0, p, d.pay) := by
  have e1 : (ipPkt 6 d.src d.dst (d.m % 256) 0 d.pay).getD 1 0 = 8 := rfl
  have e3 : (ipPkt 6 d.src d.dst (d.m % 256) 0 d.pay).getD 3 0 = d.dst := rfl
  have e5 : (ipPkt 6 d.src d.dst (d.m % 256) 0 d.pay).getD 5 0 = 0 := rfl
  have e6 : (ipPkt 6 d.src d.dst (d.m % 256) 0 d.pay).getD 6 0 = (d.pay.length : Int) := rfl
  have e7 : ipSum (ipPkt 6 d.src d.dst (d.m % 256) 0 d.pay) = (ipPkt 6 d.src d.dst (d.m % 256) 0 d.pay).getD 7 0 := rfl
  have e8 : (ipPkt 6 d.src d.dst (d.m % 256) 0 d.pay).drop 8 = d.pay := rfl
  unfold Ipt.inp
  rw [e1, e3, e5, e6, e8, ipPkt_len, if_neg (by omega), if_neg (by omega), if_neg (by rw [e7]; simp), if_neg (by decide), if_neg (by simp [ha]), if_neg (by omega), if_neg (by omega), if_pos rfl]
def Dgr.key (d : Dgr) : Int := keyOf d.src 6 (d.m % 256)
def Dgr.p1 (d : Dgr) : List Int := ipPkt 6 d.src d.dst (d.m % 256) 128 (d.pay.take 16)
def Dgr.p2 (d : Dgr) : List Int := ipPkt 6 d.src d.dst (d.m % 256) 16 (d.pay.drop 16)
/-- the first piece lies in slot i -/
def slotHalf (p : Ipt) (i : Nat) (d : Dgr) : Ipt := (p.slotNew i d.key).lay i 0 (d.pay.take 16)
theorem inp_p1 (hl : 16 < d.pay.length) (ha : d.dst = p.addr) : p.inp d.p1 = (match p.look d.key with
    | none => (11, p, [])
    | some (i, p1) => p1.put i 0 16 true (d.pay.take 16)) := by
  have ht : (d.pay.take 16).length = 16 := by rw [List.length_take]; omega
  have e0 : d.p1.getD 0 0 = 6 := rfl
  have e1 : d.p1.getD 1 0 = 8 := rfl
  have e2 : d.p1.getD 2 0 = d.src := rfl
  have e3 : d.p1.getD 3 0 = d.dst := rfl
  have e4 : d.p1.getD 4 0 = d.m % 256 := rfl
  have e5 : d.p1.getD 5 0 = 128 := rfl
  have e6 : d.p1.getD 6 0 = ((d.pay.take 16).length : Int) := rfl
  have e7 : ipSum d.p1 = d.p1.getD 7 0 := rfl
  have e8 : d.p1.drop 8 = d.pay.take 16 := rfl
  have el : d.p1.length = 8 + (d.pay.take 16).length := ipPkt_len
  unfold Ipt.inp
  rw [e0, e1, e2, e3, e4, e5, e6, e8, el, ht, if_neg (by omega), if_neg (by omega), if_neg (by rw [e7]; simp), if_neg (by decide), if_neg (by simp [ha]), if_neg (by decide), if_neg (by decide), if_neg (by decide)]
  have hm : decide (¬ (128 : Int) * (128 / 128) = 0) = true := by decide
  have e : (128 % 128 : Int).toNat = 0 := rfl
  have e9 : (128 % 128 + ((16 : Nat) : Int)) = 16 := rfl
  rw [hm, e, e9]
  rfl
theorem inp_p2 (hl : 16 < d.pay.length) (hl2 : d.pay.length ≤ 32) (ha : d.dst = p.addr) : p.inp d.p2 = (match p.look d.key with
    | none => (11, p, [])
    | some (i, p1) => p1.put i 16 (d.pay.length : Int) false (d.pay.drop 16)) := by
  have ht : (d.pay.drop 16).length = d.pay.length - 16 := by rw [List.length_drop]
  have e0 : d.p2.getD 0 0 = 6 := rfl
  have e1 : d.p2.getD 1 0 = 8 := rfl
  have e2 : d.p2.getD 2 0 = d.src := rfl
  have e3 : d.p2.getD 3 0 = d.dst := rfl
  have e4 : d.p2.getD 4 0 = d.m % 256 := rfl
  have e5 : d.p2.getD 5 0 = 16 := rfl
  have e6 : d.p2.getD 6 0 = ((d.pay.drop 16).length : Int) := rfl
  have e7 : ipSum d.p2 = d.p2.getD 7 0 := rfl
  have e8 : d.p2.drop 8 = d.pay.drop 16 := rfl
  have el : d.p2.length = 8 + (d.pay.drop 16).length := ipPkt_len
  unfold Ipt.inp
  rw [e0, e1, e2, e3, e4, e5, e6, e8, el, ht, if_neg (by omega), if_neg (by omega), if_neg (by rw [e7]; simp), if_neg (by decide), if_neg (by simp [ha]), if_neg (by omega), if_neg (by omega), if_neg (by decide)]
  have hm : decide (¬ (128 : Int) * (16 / 128) = 0) = false := by decide
  have en : (16 % 128 + ((d.pay.length - 16 : Nat) : Int)) = (d.pay.length : Int) := by omega
  have e : (16 % 128 : Int).toNat = 16 := rfl
  rw [hm, en, e]
  rfl
theorem inp_full1 (hl : 16 < d.pay.length) (ha : d.dst = p.addr) (hf : p.find d.key < 0) (hv : p.vacant < 0) : p.inp d.p1 = (11, p, []) := by
  rw [inp_p1 hl ha]
  have : p.look d.key = none := by unfold Ipt.look; rw [if_pos hf, if_pos hv]
  rw [this]
theorem inp_full2 (hl : 16 < d.pay.length) (hl2 : d.pay.length ≤ 32) (ha : d.dst = p.addr) (hf : p.find d.key < 0) (hv : p.vacant < 0) : p.inp d.p2 = (11, p, []) := by
  rw [inp_p2 hl hl2 ha]
  have : p.look d.key = none := by unfold Ipt.look; rw [if_pos hf, if_pos hv]
  rw [this]
theorem inp_first (hl : 16 < d.pay.length) (ha : d.dst = p.addr) (hf : p.find d.key < 0) (hv : ¬ p.vacant < 0) : p.inp d.p1 = (10, slotHalf p p.vacant.toNat d, []) := by
  rw [inp_p1 hl ha]
  have hk : p.look d.key = some (p.vacant.toNat, p.slotNew p.vacant.toNat d.key) := by unfold Ipt.look; rw [if_pos hf, if_neg hv]
  rw [hk]
  dsimp only
  generalize p.vacant.toNat = i
  have tot : ((p.slotNew i d.key).tab i).total = -1 := by unfold Ipt.slotNew; dsimp only; rw [upA_at]
  have tot2 : ((slotHalf p i d).tab i).total = -1 := by unfold slotHalf Ipt.lay; dsimp only; rw [upA_at]; exact tot
  refine Ipt.put_more ?_ rfl ?_
  · unfold Ipt.clash
    rw [if_pos rfl, tot]
    rfl
  · show (slotHalf p i d).whole i = false
    unfold Ipt.whole
    rw [tot2]
    rfl
theorem or_masks (n : Nat) (h : 16 < n) : ((0 ||| ((2 ^ 16 - 1) * 2 ^ 0)) ||| ((2 ^ (n - 16) - 1) * 2 ^ 16)) &&& (2 ^ n - 1) = 2 ^ n - 1 := by
  apply Nat.eq_of_testBit_eq
  intro j
  rw [Nat.testBit_and, Nat.testBit_or, Nat.testBit_or, mask_bit, mask_bit, Nat.testBit_two_pow_sub_one, Nat.zero_testBit]
  by_cases h1 : j < 16 <;> by_cases h2 : j < n <;> simp <;> omega
theorem inp_second (hf : p.find d.key < 0) (hv : ¬ p.vacant < 0) (hl : 16 < d.pay.length) (hl2 : d.pay.length ≤ 32) (ha : d.dst = p.addr) : ((slotHalf p p.vacant.toNat d).inp d.p2).1 = 0 ∧ (((slotHalf p p.vacant.toNat d).inp d.p2).2.1.tab p.vacant.toNat).used = false ∧ (∀ j, j ≠ p.vacant.toNat → ((slotHalf p p.vacant.toNat d).inp d.p2).2.1.tab j = p.tab j) ∧ ((slotHalf p p.vacant.toNat d).inp d.p2).2.1.addr = p.addr := by
  have hv3 := p.vac_b
  obtain ⟨i, hi⟩ : ∃ i, i = p.vacant.toNat := ⟨_, rfl⟩
  have i3 : i < 3 := by omega
  rw [← hi]
  have ht : (d.pay.drop 16).length = d.pay.length - 16 := by rw [List.length_drop]
  have ht2 : (d.pay.take 16).length = 16 := by rw [List.length_take]; omega
  have t0 : (slotHalf p i d).tab i = { used := true, key := d.key, left := 4, total := -1, held := (((0 : Int).toNat ||| ((2 ^ (d.pay.take 16).length - 1) * 2 ^ 0) : Nat) : Int), buf := layA (p.tab i).buf 0 (d.pay.take 16) } := by
    unfold slotHalf Ipt.lay Ipt.slotNew; dsimp only; rw [upA_at, upA_at]
  have tj : ∀ j, j ≠ i → (slotHalf p i d).tab j = p.tab j := fun j hj => by
    unfold slotHalf Ipt.lay Ipt.slotNew; dsimp only; rw [upA_ne _ _ hj, upA_ne _ _ hj]
  have hk : (slotHalf p i d).look d.key = some (i, slotHalf p i d) := by
    have : (slotHalf p i d).find d.key = (i : Int) := by
      refine Ipt.find_hit i3 (by rw [t0]) (by rw [t0]) (fun j hj => ?_)
      rw [tj j (by omega)]
      exact Ipt.no_find hf j (by omega)
    unfold Ipt.look
    rw [this, if_neg (by omega), Int.toNat_natCast]
  have ha2 : d.dst = (slotHalf p i d).addr := ha
  rw [inp_p2 hl hl2 ha2, hk]
  dsimp only
  have held0 : (0 : Int).toNat ||| ((2 ^ (d.pay.take 16).length - 1) * 2 ^ 0) = 65535 := by rw [ht2]; decide
  have hcl : (slotHalf p i d).clash i (d.pay.length : Int) false = false := by
    unfold Ipt.clash
    rw [if_neg (by decide), t0]
    dsimp only
    rw [if_neg (by omega), held0]
    refine decide_eq_false (fun k => k ?_)
    rw [Int.toNat_natCast, Int.toNat_natCast, Nat.shiftRight_eq_div_pow]
    apply Nat.div_eq_of_lt
    have : 2 ^ 16 ≤ 2 ^ d.pay.length := Nat.pow_le_pow_right (by decide) (by omega)
    omega
  have hw : (((slotHalf p i d).setTotal i (d.pay.length : Int)).lay i 16 (d.pay.drop 16)).whole i = true := by
    have t2 : (((slotHalf p i d).setTotal i (d.pay.length : Int)).lay i 16 (d.pay.drop 16)).tab i = { used := true, key := d.key, left := 4, total := (d.pay.length : Int), held := (((((0 : Int).toNat ||| ((2 ^ (d.pay.take 16).length - 1) * 2 ^ 0) : Nat) : Int).toNat ||| ((2 ^ (d.pay.drop 16).length - 1) * 2 ^ 16) : Nat) : Int), buf := layA (layA (p.tab i).buf 0 (d.pay.take 16)) 16 (d.pay.drop 16) } := by
      unfold Ipt.lay Ipt.setTotal
      dsimp only
      rw [upA_at, upA_at, t0]
    unfold Ipt.whole
    rw [t2]
    dsimp only
    rw [if_neg (by omega), ht, ht2, Int.toNat_natCast, Int.toNat_natCast, Int.toNat_natCast]
    refine decide_eq_true ?_
    exact or_masks _ hl
  rw [Ipt.put_done (q := (slotHalf p i d).setTotal i (d.pay.length : Int)) hcl rfl hw]
  refine ⟨rfl, ?_, fun j hj => ?_, rfl⟩
  · unfold Ipt.drop; dsimp only; rw [upA_at]
  · unfold Ipt.drop Ipt.lay Ipt.setTotal
    dsimp only
    rw [upA_ne _ _ hj, upA_ne _ _ hj, upA_ne _ _ hj, tj j hj]
end
/-! ### old datagrams -/
theorem Hist.sub {D E : List Dgr} {T M C : Int → Int} (h : Hist D T M C) (s : ∀ d, d ∈ E → d ∈ D) : Hist E T M C :=
  ⟨fun d hd => h.ok d (s d hd), fun d e hd he => h.uniq d e (s d hd) (s e he), fun d e hd he => h.pace d e (s d hd) (s e he), fun d hd => h.cur d (s d hd), h.c, h.m⟩
def olds (D : List Dgr) (T0 : Int) : List Dgr := D.filter fun d => decide (d.t ≤ T0)
theorem olds_mem {D : List Dgr} {T0 : Int} {d : Dgr} : d ∈ olds D T0 ↔ d ∈ D ∧ d.t ≤ T0 := by simp [olds]
/-- the tables hold old datagrams alone -/
def RAo (p : Ipt) (D : List Dgr) (now T0 : Int) : Prop := RA p (olds D T0) now
theorem RAo.clean {p : Ipt} {D : List Dgr} {now T0 : Int} (h : RAo p D now T0) (ht : T0 + 8 ≤ now) : p.Clean := fun i hi => by
  cases hu : (p.tab i).used with
  | false => rfl
  | true =>
    obtain ⟨d, d1, d2⟩ := h i hi hu
    have := (olds_mem.1 d1).2
    have := d2.left
    have := d2.lf
    omega
theorem RAo.of {p : Ipt} {D : List Dgr} {now T0 : Int} (h : RA p D now) (ht : ∀ d, d ∈ D → d.t ≤ T0) : RAo p D now T0 := fun i hi hu => by
  obtain ⟨d, d1, d2⟩ := h i hi hu
  exact ⟨d, olds_mem.2 ⟨d1, ht d d1⟩, d2⟩
theorem RAo.more {p : Ipt} {D D' : List Dgr} {now T0 : Int} (h : RAo p D now T0) (s : ∀ d, d ∈ D → d ∈ D') : RAo p D' now T0 := fun i hi hu => by
  obtain ⟨d, d1, d2⟩ := h i hi hu
  have := olds_mem.1 d1
  exact ⟨d, olds_mem.2 ⟨s d this.1, this.2⟩, d2⟩
theorem RAo.tick {p : Ipt} {D : List Dgr} {now T0 : Int} (h : RAo p D now T0) : RAo p.tick D (now + 1) T0 := RA.tick h
theorem RAo.same {p q : Ipt} {D : List Dgr} {now T0 : Int} (h : RAo p D now T0) (ht : q.tab = p.tab) (ha : q.addr = p.addr) : RAo q D now T0 := fun i hi hu => by
  rw [ht] at hu
  obtain ⟨d, d1, d2⟩ := h i hi hu
  exact ⟨d, d1, by rw [ht, ha]; exact d2⟩
section
variable {p : Ipt} {D : List Dgr} {now T0 : Int} {T M C : Int → Int} {d : Dgr}
/-- an old datagram's piece -/
theorem RAo.old (ok : p.Ok) (H : Hist D T M C) (hT : ∀ s, T s ≤ now) (h : RAo p D now T0) (hd : d ∈ D) (ht : now - d.t ≤ 4) (ho : d.t ≤ T0) {pk : List Int} (hp : pk ∈ d.pkts) : RAo (p.inp pk).2.1 D now T0 :=
  (RA.inp ok (H.sub fun e he => (olds_mem.1 he).1) hT h (olds_mem.2 ⟨hd, ho⟩) ht hp).1
theorem RAo.nofind (H : Hist D T M C) (hT : ∀ s, T s ≤ now) (h : RAo p D now T0) (hd : d ∈ D) (ht : now - d.t ≤ 4) (hn : T0 < d.t) : p.find d.key < 0 := by
  have key : p.find d.key = -1 := Ipt.find_no (fun j hj hu => ?_)
  · omega
  obtain ⟨e, e1, e2⟩ := h j hj hu.1
  have he := olds_mem.1 e1
  have k := e2.key
  rw [hu.2] at k
  have o1 := (H.ok d hd).1
  have o2 := (H.ok e he.1).1
  obtain ⟨k1, k2⟩ := key_inj o1.src o2.src k
  have t1 := e2.left
  have t2 := e2.lf
  have t3 := (H.ok d hd).2
  have t4 := hT d.src
  have := H.same_id hd he.1 k1 k2 (by omega) (by omega)
  rw [this] at hn; omega
/-- a datagram that comes whole leaves no trace -/
theorem RAo.pair (ok : p.Ok) (ok1 : (p.inp d.p1).2.1.Ok) (H : Hist D T M C) (hT : ∀ s, T s ≤ now) (h : RAo p D now T0) (hd : d ∈ D) (ht : now - d.t ≤ 4) (ha : d.dst = p.addr) (hl : 16 < d.pay.length) : RAo ((p.inp d.p1).2.1.inp d.p2).2.1 D now T0 := by
  have hpk : d.pkts = [d.p1, d.p2] := by unfold Dgr.pkts; rw [if_neg (by omega)]; rfl
  have hl2 := (H.ok d hd).1.len.2
  by_cases ho : d.t ≤ T0
  · exact RAo.old ok1 H hT (RAo.old ok H hT h hd ht ho (by rw [hpk]; exact List.mem_cons_self ..)) hd ht ho (by rw [hpk]; exact List.mem_cons_of_mem _ (List.mem_cons_self ..))
  · have hf := RAo.nofind H hT h hd ht (by omega)
    by_cases hv : p.vacant < 0
    · rw [inp_full1 hl ha hf hv]
      dsimp only
      rw [inp_full2 hl hl2 ha hf hv]
      exact h
    · rw [inp_first hl ha hf hv]
      dsimp only
      obtain ⟨_, s2, s3, s4⟩ := inp_second hf hv hl hl2 ha
      intro i hi hu
      by_cases e : i = p.vacant.toNat
      · subst e; rw [s2] at hu; cases hu
      · rw [s3 i e] at hu
        obtain ⟨e1, e2, e3⟩ := h i hi hu
        exact ⟨e1, e2, by rw [s3 i e, s4]; exact e3⟩
end
end Go.Proofs.Qxb6500351aGreat
