/- The script read, with its numbers' ranges. -/
import Derived.Test.Qxb6500351aGreatRw
import Derived.Test.Qxb6500351aGreatMd39
set_option linter.unusedVariables false
set_option linter.unusedSimpArgs false
namespace Go.Proofs.Qxb6500351aGreat
open Go.ChangeShapes Go.WideShapes Go.ChangeAt Go.RowKit
section
variable {H : Type} {enc : TypeId × Value → H} {W W' : World}
set_option maxRecDepth 100000 in
theorem op_ofF {base : Nat} {sp : Nat → Bool} {hd : Bool} {n : Nat} {cs : List Value} {x : DataW H × List MemPlace} (h : DataW.trod enc Tryz.prog W base sp hd n 32 cs = some x) (hw : (x.1.weights Tryz.prog 32).all (· ≤ reachBytes) = true) :
    ∃ (kd oa ob oc : Int) (os ot : ByteArray), cs = (Opn.mk kd oa ob oc os ot).enc.toList ∧ ob < 9223372036854775808 ∧ os.size ≤ 140737488355328 ∧ -9223372036854775808 ≤ oa ∧ oa < 9223372036854775808 := by
  obtain ⟨xs, m, _, rfl, hl, hx, hf⟩ := DataW.trod_struct Tryz.underlying32 h
  rw [cells32] at hl
  obtain ⟨c0, c1, c2, c3, c4, c5, rfl⟩ := six hl
  obtain ⟨y0, y1, y2, y3, y4, y5, rfl⟩ := six (hx.trans rfl)
  have f0 := hf 0 _ rfl
  have f1 := hf 1 _ rfl
  have f2 := hf 2 _ rfl
  have f3 := hf 3 _ rfl
  have f4 := hf 4 _ rfl
  have f5 := hf 5 _ rfl
  simp [cells3, cells9] at f0 f1 f2 f3 f4 f5
  obtain ⟨n0, e0, _, _⟩ := DataW.trod_int Tryz.underlying3 f0
  obtain ⟨n1, e1, _, w1⟩ := DataW.trod_int Tryz.underlying3 f1
  obtain ⟨n2, e2, _, w2⟩ := DataW.trod_int Tryz.underlying3 f2
  obtain ⟨n3, e3, _, _⟩ := DataW.trod_int Tryz.underlying3 f3
  obtain ⟨s4, e4, z4, _⟩ := DataW.trod_string Tryz.underlying9 f4
  obtain ⟨s5, e5, _, _⟩ := DataW.trod_string Tryz.underlying9 f5
  simp at e0 e1 e2 e3 e4 e5
  subst e0 e1 e2 e3 e4 e5
  refine ⟨n0, n1, n2, n3, s4, s5, rfl, by have := (bounds_i64 w2).2; omega, ?_, by have := (bounds_i64 w1).1; omega, by have := (bounds_i64 w1).2; omega⟩
  subst z4
  have q : s4.data.toList.length ≤ reachBytes := by
    unfold DataW.weights at hw
    rw [Tryz.underlying32] at hw
    simp only [List.map, DataW.weightsEach, List.all_append, Bool.and_eq_true, DataW.weights, List.all_cons, decide_eq_true_eq] at hw
    exact hw.2.2.2.2.1.1
  have q2 : s4.data.toList.length = s4.size := rfl
  rw [q2] at q
  have : reachBytes ≤ 140737488355328 := by unfold reachBytes; decide
  omega
set_option maxRecDepth 100000 in
theorem scr_ofF {sp : Nat → Bool} {a0 : Option Addr} {len cap : Nat} {d : DataW H} {ps : List MemPlace} (h : DataW.Trod enc Tryz.prog W 0 sp true 22 (.slice a0 len cap) d ps) (hw : (d.weights Tryz.prog 22).all (· ≤ reachBytes) = true) :
    ∃ g, ScrPF a0 len g ∧ len ≤ 9223372036854775807 ∧ Go.Eng.SatL W g := by
  have emp : Go.Eng.SatL W [] := ⟨List.nodup_nil, fun c hc => by cases hc⟩
  obtain ⟨fuel, h⟩ := h
  rcases DataW.trod_slice Tryz.underlying22 h with ⟨e, _⟩ | ⟨a, len', cap', elems, rest, n, _, e, ex, hb, hl, hm, hlen, hel, _, _⟩
  · have e : [Value.slice a0 len cap] = [Value.slice none 0 0] := e
    injection e with e _
    injection e with e1 e2 e3
    subst e2
    exact ⟨[], fun k => absurd k (Nat.lt_irrefl 0), Nat.zero_le _, emp⟩
  · obtain ⟨rfl, _⟩ := Prod.mk.inj ex
    have e : [Value.slice a0 len cap] = [Value.slice (some a) len' cap'] := e
    injection e with e _
    injection e with e1 e2 e3
    subst e1 e2 e3
    have hmx : len ≤ 9223372036854775807 := by
      have : maxLen = 9223372036854775807 := rfl
      omega
    by_cases h0 : len = 0
    · subst h0; exact ⟨[], fun k => absurd k (Nat.lt_irrefl 0), Nat.zero_le _, emp⟩
    rw [cells32] at hel
    have hws : (DataW.weightsAll Tryz.prog 32 (elems.map (·.1))).all (· ≤ reachBytes) = true := by
      unfold DataW.weights at hw
      rw [Tryz.underlying22] at hw
      simp only [List.all_cons, List.all_append, Bool.and_eq_true] at hw
      exact hw.2.1
    have each : ∀ i, i < len → ∃ (cs : List Value) (kd oa ob oc : Int) (os ot : ByteArray), cs = (Opn.mk kd oa ob oc os ot).enc.toList ∧ ob < 9223372036854775808 ∧ (os.size ≤ 140737488355328 ∧ -9223372036854775808 ≤ oa ∧ oa < 9223372036854775808) ∧ ∀ j, j < 6 → W.cell? ((a.add (i * 6)).add j) = cs[j]? := fun i hi => by
      have hh := hel i hi
      rw [List.getElem?_eq_getElem (by omega)] at hh
      rw [Option.bind_eq_some_iff] at hh
      obtain ⟨cs, h1, h2⟩ := hh
      obtain ⟨_, _, h3⟩ := World.cells?_some h1
      obtain ⟨kd, oa, ob, oc, os, ot, q1, q2, q3⟩ := op_ofF h2 (weightsAll_mem hws _ (List.mem_map.2 ⟨_, List.getElem_mem _, rfl⟩))
      exact ⟨cs, kd, oa, ob, oc, os, ot, q1, q2, q3, h3⟩
    obtain ⟨cs, kd, oa, ob, oc, os, ot, rfl, _, _, hc⟩ := each 0 (by omega)
    have hc0 := hc 0 (by omega)
    obtain ⟨b, o, cur, t, fz, e1, hh⟩ := cell_parts (a := a) (v := .int .i64 kd) (by simpa [Addr.add, Opn.enc] using hc0)
    subst e1
    refine ⟨[(b, .cells cur t fz)], fun _ => ⟨b, o, cur, t, fz, rfl, rfl, fun i hi => ?_⟩, hmx, ?_⟩
    · obtain ⟨cs, kd, oa, ob, oc, os, ot, rfl, q2, q3, hc⟩ := each i hi
      refine ⟨kd, oa, ob, oc, os, ot, ?_, q2, q3⟩
      rintro z rfl
      have hat : ∀ j, j < 6 → cur[o + i * 6 + j]? = (Opn.mk kd oa ob oc os ot).enc[j]? := fun j hj => by
        have h1 := hc j hj
        rw [Go.Eng.add_none, Go.Eng.add_none] at h1
        have h2 : W.cell? ⟨b, o + i * 6 + j, none⟩ = cur[o + i * 6 + j]? := by simp [World.cell?, hh]
        rw [← h2, h1, Array.getElem?_toList]
      have hsz : o + i * 6 + 6 ≤ cur.size := by
        have h1 := hat 5 (by omega)
        have h2 : (Opn.mk kd oa ob oc os ot).enc[5]? = some (.string ot) := rfl
        rw [h2] at h1
        have := (Array.getElem?_eq_some_iff.1 h1).1
        omega
      refine ⟨?_, hsz⟩
      apply Array.ext_getElem?
      intro j
      rw [Array.getElem?_extract]
      by_cases hj : j < 6
      · rw [if_pos (by omega)]; exact hat j hj
      · rw [if_neg (by omega), Array.getElem?_eq_none (by show 6 ≤ j; omega)]
    · refine ⟨List.nodup_cons.2 ⟨by simp, List.nodup_nil⟩, fun c hc => ?_⟩
      rw [List.mem_singleton] at hc
      subst hc
      exact hh
end
end Go.Proofs.Qxb6500351aGreat
