/- The rows' common part: the script read, the memory left as it was. -/
import Derived.Test.Qxb6500351aGreatRows
import Derived.WalkKit
import Derived.ProofKit
import Derived.OpenShut
import Derived.ChangeStays
import Derived.Test.Qxb6500351aGreatW98
set_option linter.unusedVariables false
set_option linter.unusedSimpArgs false
namespace Go.Proofs.Qxb6500351aGreat
open Go.ChangeShapes Go.WideShapes Go.ChangeAt Go.RowKit
theorem own351 : ownKnob Tryz.prog.godebug = none := by kernel_rfl
theorem old_of_st {W W' : World} {g : List Go.Eng.Chunk} (h0 : Go.Eng.SatL W g) (h : Go.Eng.St W (Go.Eng.keys ([g] : Go.Eng.SH).flatten) W' [g]) : ∀ k, k < W.heap.size → W'.heap[k]? = W.heap[k]? := fun k hk => by
  by_cases hm : k ∈ Go.Eng.keys ([g] : Go.Eng.SH).flatten
  · obtain ⟨c, hc, rfl⟩ := List.mem_map.1 hm
    have hc0 : c ∈ g := by simpa using hc
    rw [h0.2 c hc0, h.1.2 c hc]
  · exact h.2.block k hk hm
section
variable {H : Type} {enc : TypeId × Value → H} {P : Program} {W W' : World}
theorem kept_old (hold : ∀ k, k < W.heap.size → W'.heap[k]? = W.heap[k]?) (hos : W'.os = W.os) (hout : W'.output = W.output) (may : MemPlace → Prop) : W.keptBut W' may := by
  refine ⟨hos, hout, fun i hi => ?_⟩
  rw [hold i hi]
  cases W.heap[i]? with
  | none => rfl
  | some o => cases o <;> first | exact ⟨rfl, rfl, rfl, fun _ _ => rfl⟩ | exact .inr ⟨rfl, rfl⟩ | rfl
theorem frozen_old (hold : ∀ k, k < W.heap.size → W'.heap[k]? = W.heap[k]?) (a : Addr) (ha : a.block < W.heap.size) : W'.frozen? a = W.frozen? a := by
  unfold World.frozen?; rw [hold _ ha]
theorem same_old (hold : ∀ k, k < W.heap.size → W'.heap[k]? = W.heap[k]?) (p : MemPlace) (hp : p.block < W.heap.size) : W.sameAt W' p := by
  cases p with
  | cell b off => show W'.cell? _ = W.cell? _; unfold World.cell?; rw [hold b hp]
  | map b => exact hold b hp
theorem post_old {f : Func} {s : ChangeSpec} {apart fresh handsOn again : Bool} {args : Array Value} {v : Value} {ds gs : List (DataW H)} {before pa pv : List MemPlace}
    (hW : DataW.Whole enc P f.params.toList s.vars apart W args.toList ds gs before)
    (hres : ∀ (b : Nat) (sp : Nat → Bool) (hd : Bool), DataW.TrodAll enc P W' b sp hd f.resultTypes.toList (v.resultList f.resultTypes.size) (s.fn H (ds ++ gs)).results [])
    (hargs : ∀ sp : Nat → Bool, (∀ p ∈ before, sp p.block = true) → DataW.TrodAll enc P W' 0 sp true f.params.toList args.toList (s.fn H (ds ++ gs)).args pa)
    (hvars : ∀ sp : Nat → Bool, (∀ p ∈ before, sp p.block = true) → DataW.TrodVars enc P W' sp s.vars (s.fn H (ds ++ gs)).vars pv)
    (hps : before = pa ++ pv) (hold : ∀ k, k < W.heap.size → W'.heap[k]? = W.heap[k]?) (hos : W'.os = W.os) (hout : W'.output = W.output)
    (hok : ∀ (j : Nat) (t : TypeId) (r : Value), f.resultTypes[j]? = some t → (v.resultList f.resultTypes.size)[j]? = some r → Value.okWide P W' .any 0 t r) :
    s.post enc P f apart fresh handsOn again W args v W' := by
  have hlt := hW.lt
  have h1 : ∀ p ∈ before, (fun b => decide (b < W.heap.size)) p.block = true := fun p hp => by simpa using hlt p hp
  refine ⟨ds, gs, before, [], pa, pv, hW, hres _ _ _, hargs _ h1, hvars _ h1, kept_old hold hos hout _, fun _ => ?_⟩
  obtain ⟨_, _, _, _, _, hz, hn⟩ := hW
  refine ⟨hok, _, _, ([] ++ pa) ++ pv, ⟨[] ++ pa, pv, trodAll_append (hargs _ (fun _ _ => rfl)) (hres _ _ _), hvars _ (fun _ _ => rfl), rfl, ?_, ?_⟩, ?_⟩
  · intro b off hp
    have hp2 : MemPlace.cell b off ∈ before := by rw [hps]; simpa using hp
    rw [frozen_old hold _ (hlt _ hp2)]
    exact hz b off hp2
  · intro ha
    have := hn ha
    rw [hps] at this
    simpa using this
  · intro p hp _
    rw [hps]
    simpa using hp
end
theorem six {α : Type} {l : List α} (h : l.length = 6) : ∃ a b c d e f, l = [a, b, c, d, e, f] := by
  match l, h with
  | [a, b, c, d, e, f], _ => exact ⟨_, _, _, _, _, _, rfl⟩
/-! ### the script -/
def kidT (t : TypeId) : Prop := t = 22 ∨ t = 32 ∨ t = 3 ∨ t = 9
theorem cells32 : Tryz.prog.cellsOf 32 = 6 := by kernel_rfl
theorem cells3 : Tryz.prog.cellsOf 3 = 1 := by kernel_rfl
theorem cells9 : Tryz.prog.cellsOf 9 = 1 := by kernel_rfl
theorem kids351 : Kids Tryz.prog kidT := by
  refine ⟨?_, ?_, ?_, ?_, ?_⟩
  · rintro t e (rfl | rfl | rfl | rfl) h
    · rw [Tryz.underlying22] at h; cases h
    · rw [Tryz.underlying32] at h; cases h
    · rw [Tryz.underlying3] at h; cases h
    · rw [Tryz.underlying9] at h; cases h
  · rintro t e (rfl | rfl | rfl | rfl) h
    · rw [Tryz.underlying22] at h; cases h; exact .inr (.inl rfl)
    · rw [Tryz.underlying32] at h; cases h
    · rw [Tryz.underlying3] at h; cases h
    · rw [Tryz.underlying9] at h; cases h
  · rintro t e n (rfl | rfl | rfl | rfl) h
    · rw [Tryz.underlying22] at h; cases h
    · rw [Tryz.underlying32] at h; cases h
    · rw [Tryz.underlying3] at h; cases h
    · rw [Tryz.underlying9] at h; cases h
  · rintro t fs (rfl | rfl | rfl | rfl) h
    · rw [Tryz.underlying22] at h; cases h
    · rw [Tryz.underlying32] at h; cases h
      refine ⟨?_, ?_, ?_⟩
      · intro f hf
        simp only [List.mem_cons, List.not_mem_nil, or_false] at hf
        rcases hf with rfl | rfl | rfl | rfl | rfl | rfl
        · exact .inr (.inr (.inl rfl))
        · exact .inr (.inr (.inl rfl))
        · exact .inr (.inr (.inl rfl))
        · exact .inr (.inr (.inl rfl))
        · exact .inr (.inr (.inr rfl))
        · exact .inr (.inr (.inr rfl))
      · simp [cells32, cells3, cells9]
      · intro j f hj
        match j, hj with
        | 0, hj => simp at hj; subst hj; simp
        | 1, hj => simp at hj; subst hj; simp [cells3]
        | 2, hj => simp at hj; subst hj; simp [cells3]
        | 3, hj => simp at hj; subst hj; simp [cells3]
        | 4, hj => simp at hj; subst hj; simp [cells3]
        | 5, hj => simp at hj; subst hj; simp [cells3, cells9]
        | j + 6, hj => simp at hj
    · rw [Tryz.underlying3] at h; cases h
    · rw [Tryz.underlying9] at h; cases h
  · rintro t k e (rfl | rfl | rfl | rfl) h
    · rw [Tryz.underlying22] at h; cases h
    · rw [Tryz.underlying32] at h; cases h
    · rw [Tryz.underlying3] at h; cases h
    · rw [Tryz.underlying9] at h; cases h
theorem kids_sz {t e : TypeId} (ht : kidT t) (h : Tryz.prog.underlying t = some (.slice e)) : 0 < Tryz.prog.cellsOf e := by
  rcases ht with rfl | rfl | rfl | rfl
  · rw [Tryz.underlying22] at h; cases h; rw [cells32]; decide
  · rw [Tryz.underlying32] at h; cases h
  · rw [Tryz.underlying3] at h; cases h
  · rw [Tryz.underlying9] at h; cases h
section
variable {H : Type} {enc : TypeId × Value → H} {W W' : World}
theorem arg_stays {v : Value} {d : DataW H} {ps : List MemPlace} (h : DataW.Trod enc Tryz.prog W 0 (fun _ => true) true 22 v d ps) (hold : ∀ k, k < W.heap.size → W'.heap[k]? = W.heap[k]?) {sp : Nat → Bool} (hs : ∀ p ∈ ps, sp p.block = true) : DataW.Trod enc Tryz.prog W' 0 sp true 22 v d ps := by
  obtain ⟨fuel, h⟩ := h
  exact ⟨fuel, DataW.trod_stays (held := true) (T := kidT) kids351 kids_sz (by intro k; cases k) (.inl rfl) h (fun p hp => same_old hold p (DataW.trod_lt _ _ _ _ h p hp)) hs⟩
set_option maxRecDepth 100000 in
theorem op_of {base : Nat} {sp : Nat → Bool} {hd : Bool} {n : Nat} {cs : List Value} {x : DataW H × List MemPlace} (h : DataW.trod enc Tryz.prog W base sp hd n 32 cs = some x) (hw : (x.1.weights Tryz.prog 32).all (· ≤ reachBytes) = true) :
    ∃ (kd oa ob oc : Int) (os ot : ByteArray), cs = (Opn.mk kd oa ob oc os ot).enc.toList ∧ ob < 9223372036854775808 ∧ os.size ≤ 140737488355328 := by
  obtain ⟨xs, m, _, rfl, hl, hx, hf⟩ := DataW.trod_struct Tryz.underlying32 h
  rw [cells32] at hl
  obtain ⟨c0, c1, c2, c3, c4, c5, rfl⟩ := six hl
  obtain ⟨y0, y1, y2, y3, y4, y5, rfl⟩ := six (hx.trans rfl)
  have f0 := hf 0 _ rfl
  have f1 := hf 1 _ rfl
  have f2 := hf 2 _ rfl
  have f3 := hf 3 _ rfl
  have f4 := hf 4 _ rfl
  have f5 := hf 5 _ rfl
  simp [cells3, cells9] at f0 f1 f2 f3 f4 f5
  obtain ⟨n0, e0, _, _⟩ := DataW.trod_int Tryz.underlying3 f0
  obtain ⟨n1, e1, _, _⟩ := DataW.trod_int Tryz.underlying3 f1
  obtain ⟨n2, e2, _, w2⟩ := DataW.trod_int Tryz.underlying3 f2
  obtain ⟨n3, e3, _, _⟩ := DataW.trod_int Tryz.underlying3 f3
  obtain ⟨s4, e4, z4, _⟩ := DataW.trod_string Tryz.underlying9 f4
  obtain ⟨s5, e5, _, _⟩ := DataW.trod_string Tryz.underlying9 f5
  simp at e0 e1 e2 e3 e4 e5
  subst e0 e1 e2 e3 e4 e5
  refine ⟨n0, n1, n2, n3, s4, s5, rfl, by have := (bounds_i64 w2).2; omega, ?_⟩
  subst z4
  have q : s4.data.toList.length ≤ reachBytes := by
    unfold DataW.weights at hw
    rw [Tryz.underlying32] at hw
    simp only [List.map, DataW.weightsEach, List.all_append, Bool.and_eq_true, DataW.weights, List.all_cons, decide_eq_true_eq] at hw
    exact hw.2.2.2.2.1.1
  have q2 : s4.data.toList.length = s4.size := rfl
  rw [q2] at q
  have : reachBytes ≤ 140737488355328 := by unfold reachBytes; decide
  omega
theorem weightsAll_mem {P : Program} {e : TypeId} : ∀ {l : List (DataW H)}, (DataW.weightsAll P e l).all (· ≤ reachBytes) = true → ∀ y, y ∈ l → (y.weights P e).all (· ≤ reachBytes) = true
  | [], _, y, hy => by cases hy
  | x :: r, h, y, hy => by
    simp only [DataW.weightsAll, List.all_append, Bool.and_eq_true] at h
    rcases List.mem_cons.1 hy with rfl | hy
    · exact h.1
    · exact weightsAll_mem h.2 y hy
theorem cell_parts {a : Addr} {v : Value} (h : W.cell? a = some v) : ∃ b o cur t fz, a = ⟨b, o, none⟩ ∧ W.heap[b]? = some (.cells cur t fz) := by
  obtain ⟨b, o, sp⟩ := a
  unfold World.cell? at h
  dsimp only at h
  split at h
  · rename_i c t fz hc
    cases sp with
    | none => exact ⟨b, o, c, t, fz, rfl, hc⟩
    | some z => simp at h
  · cases h
set_option maxRecDepth 100000 in
theorem scr_of {sp : Nat → Bool} {a0 : Option Addr} {len cap : Nat} {d : DataW H} {ps : List MemPlace} (h : DataW.Trod enc Tryz.prog W 0 sp true 22 (.slice a0 len cap) d ps) (hw : (d.weights Tryz.prog 22).all (· ≤ reachBytes) = true) :
    ∃ g, ScrP a0 len g ∧ len ≤ 9223372036854775807 ∧ Go.Eng.SatL W g := by
  have emp : Go.Eng.SatL W [] := ⟨List.nodup_nil, fun c hc => by cases hc⟩
  obtain ⟨fuel, h⟩ := h
  rcases DataW.trod_slice Tryz.underlying22 h with ⟨e, _⟩ | ⟨a, len', cap', elems, rest, n, _, e, ex, hb, hl, hm, hlen, hel, _, _⟩
  · have e : [Value.slice a0 len cap] = [Value.slice none 0 0] := e
    injection e with e _
    injection e with e1 e2 e3
    subst e2
    exact ⟨[], fun k => absurd k (Nat.lt_irrefl 0), Nat.zero_le _, emp⟩
  · obtain ⟨rfl, _⟩ := Prod.mk.inj ex
    have e : [Value.slice a0 len cap] = [Value.slice (some a) len' cap'] := e
    injection e with e _
    injection e with e1 e2 e3
    subst e1 e2 e3
    have hmx : len ≤ 9223372036854775807 := by
      have : maxLen = 9223372036854775807 := rfl
      omega
    by_cases h0 : len = 0
    · subst h0; exact ⟨[], fun k => absurd k (Nat.lt_irrefl 0), Nat.zero_le _, emp⟩
    rw [cells32] at hel
    have hws : (DataW.weightsAll Tryz.prog 32 (elems.map (·.1))).all (· ≤ reachBytes) = true := by
      unfold DataW.weights at hw
      rw [Tryz.underlying22] at hw
      simp only [List.all_cons, List.all_append, Bool.and_eq_true] at hw
      exact hw.2.1
    have each : ∀ i, i < len → ∃ (cs : List Value) (kd oa ob oc : Int) (os ot : ByteArray), cs = (Opn.mk kd oa ob oc os ot).enc.toList ∧ ob < 9223372036854775808 ∧ os.size ≤ 140737488355328 ∧ ∀ j, j < 6 → W.cell? ((a.add (i * 6)).add j) = cs[j]? := fun i hi => by
      have hh := hel i hi
      rw [List.getElem?_eq_getElem (by omega)] at hh
      rw [Option.bind_eq_some_iff] at hh
      obtain ⟨cs, h1, h2⟩ := hh
      obtain ⟨_, _, h3⟩ := World.cells?_some h1
      obtain ⟨kd, oa, ob, oc, os, ot, q1, q2, q3⟩ := op_of h2 (weightsAll_mem hws _ (List.mem_map.2 ⟨_, List.getElem_mem _, rfl⟩))
      exact ⟨cs, kd, oa, ob, oc, os, ot, q1, q2, q3, h3⟩
    obtain ⟨cs, kd, oa, ob, oc, os, ot, rfl, _, _, hc⟩ := each 0 (by omega)
    have hc0 := hc 0 (by omega)
    obtain ⟨b, o, cur, t, fz, e1, hh⟩ := cell_parts (a := a) (v := .int .i64 kd) (by simpa [Addr.add, Opn.enc] using hc0)
    subst e1
    refine ⟨[(b, .cells cur t fz)], fun _ => ⟨b, o, cur, t, fz, rfl, rfl, fun i hi => ?_⟩, hmx, ?_⟩
    · obtain ⟨cs, kd, oa, ob, oc, os, ot, rfl, q2, q3, hc⟩ := each i hi
      refine ⟨kd, oa, ob, oc, os, ot, ?_, q2, q3⟩
      rintro z rfl
      have hat : ∀ j, j < 6 → cur[o + i * 6 + j]? = (Opn.mk kd oa ob oc os ot).enc[j]? := fun j hj => by
        have h1 := hc j hj
        rw [Go.Eng.add_none, Go.Eng.add_none] at h1
        have h2 : W.cell? ⟨b, o + i * 6 + j, none⟩ = cur[o + i * 6 + j]? := by simp [World.cell?, hh]
        rw [← h2, h1, Array.getElem?_toList]
      have hsz : o + i * 6 + 6 ≤ cur.size := by
        have h1 := hat 5 (by omega)
        have h2 : (Opn.mk kd oa ob oc os ot).enc[5]? = some (.string ot) := rfl
        rw [h2] at h1
        have := (Array.getElem?_eq_some_iff.1 h1).1
        omega
      refine ⟨?_, hsz⟩
      apply Array.ext_getElem?
      intro j
      rw [Array.getElem?_extract]
      by_cases hj : j < 6
      · rw [if_pos (by omega)]; exact hat j hj
      · rw [if_neg (by omega), Array.getElem?_eq_none (by show 6 ≤ j; omega)]
    · refine ⟨List.nodup_cons.2 ⟨by simp, List.nodup_nil⟩, fun c hc => ?_⟩
      rw [List.mem_singleton] at hc
      subst hc
      exact hh
end
end Go.Proofs.Qxb6500351aGreat
