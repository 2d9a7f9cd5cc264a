/- The rows' common part: the script read, the memory left as it was. -/
import Derived.Test.Qxb6500350aGreatRows
import Derived.WalkKit
import Derived.ProofKit
import Derived.OpenShut
import Derived.ChangeStays
import Derived.Test.Qxb6500350aGreatK87
import Derived.Test.Qxb6500350aGreatT3
import Derived.Test.Qxb6500350aGreatT4
import Derived.Test.Qxb6500350aGreatT5
set_option linter.unusedVariables false
set_option linter.unusedSimpArgs false
namespace Go.Proofs.Qxb6500350aGreat
open Go.ChangeShapes Go.WideShapes Go.ChangeAt Go.RowKit
theorem own350 : ownKnob Tryz.prog.godebug = none := by kernel_rfl
theorem old_of_st {W W' : World} {g : List Go.Eng.Chunk} (h0 : Go.Eng.SatL W g) (h : Go.Eng.St W (Go.Eng.keys ([g] : Go.Eng.SH).flatten) W' [g]) : ∀ k, k < W.heap.size → W'.heap[k]? = W.heap[k]? := fun k hk => by
  by_cases hm : k ∈ Go.Eng.keys ([g] : Go.Eng.SH).flatten
  · obtain ⟨c, hc, rfl⟩ := List.mem_map.1 hm
    have hc0 : c ∈ g := by simpa using hc
    rw [h0.2 c hc0, h.1.2 c hc]
  · exact h.2.block k hk hm
section
variable {H : Type} {enc : TypeId × Value → H} {P : Program} {W W' : World}
theorem kept_old (hold : ∀ k, k < W.heap.size → W'.heap[k]? = W.heap[k]?) (hos : W'.os = W.os) (hout : W'.output = W.output) (may : MemPlace → Prop) : W.keptBut W' may := by
  refine ⟨hos, hout, fun i hi => ?_⟩
  rw [hold i hi]
  cases W.heap[i]? with
  | none => rfl
  | some o => cases o <;> first | exact ⟨rfl, rfl, rfl, fun _ _ => rfl⟩ | exact .inr ⟨rfl, rfl⟩ | rfl
theorem frozen_old (hold : ∀ k, k < W.heap.size → W'.heap[k]? = W.heap[k]?) (a : Addr) (ha : a.block < W.heap.size) : W'.frozen? a = W.frozen? a := by
  unfold World.frozen?; rw [hold _ ha]
theorem same_old (hold : ∀ k, k < W.heap.size → W'.heap[k]? = W.heap[k]?) (p : MemPlace) (hp : p.block < W.heap.size) : W.sameAt W' p := by
  cases p with
  | cell b off => show W'.cell? _ = W.cell? _; unfold World.cell?; rw [hold b hp]
  | map b => exact hold b hp
theorem post_old {f : Func} {s : ChangeSpec} {apart fresh handsOn again : Bool} {args : Array Value} {v : Value} {ds gs : List (DataW H)} {before pa pv : List MemPlace}
    (hW : DataW.Whole enc P f.params.toList s.vars apart W args.toList ds gs before)
    (hres : ∀ (b : Nat) (sp : Nat → Bool) (hd : Bool), DataW.TrodAll enc P W' b sp hd f.resultTypes.toList (v.resultList f.resultTypes.size) (s.fn H (ds ++ gs)).results [])
    (hargs : ∀ sp : Nat → Bool, (∀ p ∈ before, sp p.block = true) → DataW.TrodAll enc P W' 0 sp true f.params.toList args.toList (s.fn H (ds ++ gs)).args pa)
    (hvars : ∀ sp : Nat → Bool, (∀ p ∈ before, sp p.block = true) → DataW.TrodVars enc P W' sp s.vars (s.fn H (ds ++ gs)).vars pv)
    (hps : before = pa ++ pv) (hold : ∀ k, k < W.heap.size → W'.heap[k]? = W.heap[k]?) (hos : W'.os = W.os) (hout : W'.output = W.output)
    (hok : ∀ (j : Nat) (t : TypeId) (r : Value), f.resultTypes[j]? = some t → (v.resultList f.resultTypes.size)[j]? = some r → Value.okWide P W' .any 0 t r) :
    s.post enc P f apart fresh handsOn again W args v W' := by
  have hlt := hW.lt
  have h1 : ∀ p ∈ before, (fun b => decide (b < W.heap.size)) p.block = true := fun p hp => by simpa using hlt p hp
  refine ⟨ds, gs, before, [], pa, pv, hW, hres _ _ _, hargs _ h1, hvars _ h1, kept_old hold hos hout _, fun _ => ?_⟩
  obtain ⟨_, _, _, _, _, hz, hn⟩ := hW
  refine ⟨hok, _, _, ([] ++ pa) ++ pv, ⟨[] ++ pa, pv, trodAll_append (hargs _ (fun _ _ => rfl)) (hres _ _ _), hvars _ (fun _ _ => rfl), rfl, ?_, ?_⟩, ?_⟩
  · intro b off hp
    have hp2 : MemPlace.cell b off ∈ before := by rw [hps]; simpa using hp
    rw [frozen_old hold _ (hlt _ hp2)]
    exact hz b off hp2
  · intro ha
    have := hn ha
    rw [hps] at this
    simpa using this
  · intro p hp _
    rw [hps]
    simpa using hp
end
theorem six {α : Type} {l : List α} (h : l.length = 6) : ∃ a b c d e f, l = [a, b, c, d, e, f] := by
  match l, h with
  | [a, b, c, d, e, f], _ => exact ⟨_, _, _, _, _, _, rfl⟩
/-! ### the script -/
def kidT (t : TypeId) : Prop := t = 22 ∨ t = 44 ∨ t = 3 ∨ t = 9
theorem cells44 : Tryz.prog.cellsOf 44 = 6 := by kernel_rfl
theorem cells3 : Tryz.prog.cellsOf 3 = 1 := by kernel_rfl
theorem cells9 : Tryz.prog.cellsOf 9 = 1 := by kernel_rfl
theorem kids350 : Kids Tryz.prog kidT := by
  refine ⟨?_, ?_, ?_, ?_, ?_⟩
  · rintro t e (rfl | rfl | rfl | rfl) h
    · rw [Tryz.underlying22] at h; cases h
    · rw [Tryz.underlying44] at h; cases h
    · rw [Tryz.underlying3] at h; cases h
    · rw [Tryz.underlying9] at h; cases h
  · rintro t e (rfl | rfl | rfl | rfl) h
    · rw [Tryz.underlying22] at h; cases h; exact .inr (.inl rfl)
    · rw [Tryz.underlying44] at h; cases h
    · rw [Tryz.underlying3] at h; cases h
    · rw [Tryz.underlying9] at h; cases h
  · rintro t e n (rfl | rfl | rfl | rfl) h
    · rw [Tryz.underlying22] at h; cases h
    · rw [Tryz.underlying44] at h; cases h
    · rw [Tryz.underlying3] at h; cases h
    · rw [Tryz.underlying9] at h; cases h
  · rintro t fs (rfl | rfl | rfl | rfl) h
    · rw [Tryz.underlying22] at h; cases h
    · rw [Tryz.underlying44] at h; cases h
      refine ⟨?_, ?_, ?_⟩
      · intro f hf
        simp only [List.mem_cons, List.not_mem_nil, or_false] at hf
        rcases hf with rfl | rfl | rfl | rfl | rfl | rfl
        · exact .inr (.inr (.inl rfl))
        · exact .inr (.inr (.inl rfl))
        · exact .inr (.inr (.inl rfl))
        · exact .inr (.inr (.inl rfl))
        · exact .inr (.inr (.inr rfl))
        · exact .inr (.inr (.inr rfl))
      · simp [cells44, cells3, cells9]
      · intro j f hj
        match j, hj with
        | 0, hj => simp at hj; subst hj; simp
        | 1, hj => simp at hj; subst hj; simp [cells3]
        | 2, hj => simp at hj; subst hj; simp [cells3]
        | 3, hj => simp at hj; subst hj; simp [cells3]
        | 4, hj => simp at hj; subst hj; simp [cells3]
        | 5, hj => simp at hj; subst hj; simp [cells3, cells9]
        | j + 6, hj => simp at hj
    · rw [Tryz.underlying3] at h; cases h
    · rw [Tryz.underlying9] at h; cases h
  · rintro t k e (rfl | rfl | rfl | rfl) h
    · rw [Tryz.underlying22] at h; cases h
    · rw [Tryz.underlying44] at h; cases h
    · rw [Tryz.underlying3] at h; cases h
    · rw [Tryz.underlying9] at h; cases h
theorem kids_sz {t e : TypeId} (ht : kidT t) (h : Tryz.prog.underlying t = some (.slice e)) : 0 < Tryz.prog.cellsOf e := by
  rcases ht with rfl | rfl | rfl | rfl
  · rw [Tryz.underlying22] at h; cases h; rw [cells44]; decide
  · rw [Tryz.underlying44] at h; cases h
  · rw [Tryz.underlying3] at h; cases h
  · rw [Tryz.underlying9] at h; cases h
section
variable {H : Type} {enc : TypeId × Value → H} {W W' : World}
theorem arg_stays {v : Value} {d : DataW H} {ps : List MemPlace} (h : DataW.Trod enc Tryz.prog W 0 (fun _ => true) true 22 v d ps) (hold : ∀ k, k < W.heap.size → W'.heap[k]? = W.heap[k]?) {sp : Nat → Bool} (hs : ∀ p ∈ ps, sp p.block = true) : DataW.Trod enc Tryz.prog W' 0 sp true 22 v d ps := by
  obtain ⟨fuel, h⟩ := h
  exact ⟨fuel, DataW.trod_stays (held := true) (T := kidT) kids350 kids_sz (by intro k; cases k) (.inl rfl) h (fun p hp => same_old hold p (DataW.trod_lt _ _ _ _ h p hp)) hs⟩
set_option maxRecDepth 100000 in
theorem op_of {base : Nat} {sp : Nat → Bool} {hd : Bool} {n : Nat} {cs : List Value} {x : DataW H × List MemPlace} (h : DataW.trod enc Tryz.prog W base sp hd n 44 cs = some x) : ∃ o : Op_, cs = o.enc := by
  obtain ⟨xs, m, _, rfl, hl, hx, hf⟩ := DataW.trod_struct Tryz.underlying44 h
  rw [cells44] at hl
  obtain ⟨c0, c1, c2, c3, c4, c5, rfl⟩ := six hl
  obtain ⟨y0, y1, y2, y3, y4, y5, rfl⟩ := six (hx.trans rfl)
  have f0 := hf 0 _ rfl
  have f1 := hf 1 _ rfl
  have f2 := hf 2 _ rfl
  have f3 := hf 3 _ rfl
  have f4 := hf 4 _ rfl
  have f5 := hf 5 _ rfl
  simp [cells3, cells9] at f0 f1 f2 f3 f4 f5
  obtain ⟨n0, e0, _, _⟩ := DataW.trod_int Tryz.underlying3 f0
  obtain ⟨n1, e1, _, _⟩ := DataW.trod_int Tryz.underlying3 f1
  obtain ⟨n2, e2, _, _⟩ := DataW.trod_int Tryz.underlying3 f2
  obtain ⟨n3, e3, _, _⟩ := DataW.trod_int Tryz.underlying3 f3
  obtain ⟨s4, e4, _, _⟩ := DataW.trod_string Tryz.underlying9 f4
  obtain ⟨s5, e5, _, _⟩ := DataW.trod_string Tryz.underlying9 f5
  simp at e0 e1 e2 e3 e4 e5
  subst e0 e1 e2 e3 e4 e5
  have back : ∀ z : ByteArray, ({ data := z.data.toList.toArray } : ByteArray) = z := fun z => by cases z; simp
  refine ⟨{ kind := n0, a := n1, b := n2, c := n3, s := s4.data.toList, t := s5.data.toList }, ?_⟩
  unfold Op_.enc encI encS
  rw [back, back]; rfl
theorem cell_parts {a : Addr} {v : Value} (h : W.cell? a = some v) : ∃ b o cur t fz, a = ⟨b, o, none⟩ ∧ W.heap[b]? = some (.cells cur t fz) := by
  obtain ⟨b, o, sp⟩ := a
  unfold World.cell? at h
  dsimp only at h
  split at h
  · rename_i c t fz hc
    cases sp with
    | none => exact ⟨b, o, c, t, fz, rfl, hc⟩
    | some z => simp at h
  · cases h
theorem els_of {C : List Go.Eng.Chunk} {L : List Value} : ∀ (len o : Nat), (∀ i, i < len → ∃ p : Op_, (L.drop (o + i * 6)).take 6 = p.enc) → ∃ l : List Op_, l.length = len ∧ Go.Eng.Els rOp_ C ((L.drop o).take (len * 6)) l
  | 0, o, _ => ⟨[], rfl, by simp [Go.Eng.Els]⟩
  | len + 1, o, h => by
    obtain ⟨p, hp⟩ := h 0 (by omega)
    obtain ⟨l, h1, h2⟩ := els_of (C := C) len (o + 6) (fun i hi => by
      obtain ⟨q, hq⟩ := h (i + 1) (by omega)
      exact ⟨q, by rw [← hq]; congr 2; omega⟩)
    refine ⟨p :: l, by simp [h1], _, _, ?_, (show rOp_.rd C p.enc p from rfl), h2⟩
    rw [show (len + 1) * 6 = 6 + len * 6 by omega, List.take_add, List.drop_drop]
    rw [show o + 0 * 6 = o by omega] at hp
    rw [hp]
set_option maxRecDepth 100000 in
theorem scr_of {sp : Nat → Bool} {a0 : Option Addr} {len cap : Nat} {d : DataW H} {ps : List MemPlace} (h : DataW.Trod enc Tryz.prog W 0 sp true 22 (.slice a0 len cap) d ps) :
    ∃ (g : List Go.Eng.Chunk) (l : List Op_), Go.Eng.Rd rOp_ g (.slice a0 len cap) l ∧ Go.Eng.SatL W g := by
  have emp : Go.Eng.SatL W [] := ⟨List.nodup_nil, fun c hc => by cases hc⟩
  obtain ⟨fuel, h⟩ := h
  rcases DataW.trod_slice Tryz.underlying22 h with ⟨e, _⟩ | ⟨a, len', cap', elems, rest, n, _, e, ex, hb, hl, hm, hlen, hel, _, _⟩
  · have e : [Value.slice a0 len cap] = [Value.slice none 0 0] := e
    injection e with e _
    injection e with e1 e2 e3
    subst e1 e2 e3
    exact ⟨[], [], .inl ⟨rfl, _, _, rfl⟩, emp⟩
  · obtain ⟨rfl, _⟩ := Prod.mk.inj ex
    have e : [Value.slice a0 len cap] = [Value.slice (some a) len' cap'] := e
    injection e with e _
    injection e with e1 e2 e3
    subst e1 e2 e3
    by_cases h0 : len = 0
    · subst h0; exact ⟨[], [], .inl ⟨rfl, _, _, rfl⟩, emp⟩
    rw [cells44] at hel
    have each : ∀ i, i < len → ∃ (cs : List Value) (p : Op_), cs = p.enc ∧ ∀ j, j < 6 → W.cell? ((a.add (i * 6)).add j) = cs[j]? := fun i hi => by
      have hh := hel i hi
      rw [List.getElem?_eq_getElem (by omega)] at hh
      rw [Option.bind_eq_some_iff] at hh
      obtain ⟨cs, h1, h2⟩ := hh
      obtain ⟨_, _, h3⟩ := World.cells?_some h1
      obtain ⟨p, hp⟩ := op_of h2
      exact ⟨cs, p, hp, h3⟩
    obtain ⟨cs, p, rfl, hc⟩ := each 0 (by omega)
    have hc0 := hc 0 (by omega)
    obtain ⟨b, o, cur, t, fz, e1, hh⟩ := cell_parts (a := a) (v := .int .i64 p.kind) (by simpa [Addr.add, Op_.enc, encI] using hc0)
    subst e1
    have hsix : ∀ i, i < len → ∃ q : Op_, ((cur.toList.drop (o + i * 6)).take 6 = q.enc) ∧ o + i * 6 + 6 ≤ cur.size := fun i hi => by
      obtain ⟨cs, q, rfl, hc⟩ := each i hi
      have hql : q.enc.length = 6 := Op_.len q
      have hat : ∀ j, j < 6 → cur[o + i * 6 + j]? = q.enc[j]? := fun j hj => by
        have h1 := hc j hj
        rw [Go.Eng.add_none, Go.Eng.add_none] at h1
        have h2 : W.cell? ⟨b, o + i * 6 + j, none⟩ = cur[o + i * 6 + j]? := by simp [World.cell?, hh]
        rw [← h2, h1]
      have hsz : o + i * 6 + 6 ≤ cur.size := by
        have h1 := hat 5 (by omega)
        rw [List.getElem?_eq_getElem (by omega)] at h1
        have := (Array.getElem?_eq_some_iff.1 h1).1
        omega
      refine ⟨q, ?_, hsz⟩
      apply List.ext_getElem?
      intro j
      rw [List.getElem?_take, List.getElem?_drop]
      by_cases hj : j < 6
      · rw [if_pos hj, ← hat j hj, Array.getElem?_toList]
      · rw [if_neg hj, List.getElem?_eq_none (by omega)]
    obtain ⟨l, hll, hels⟩ := els_of (C := [(b, .cells cur t fz)]) (L := cur.toList) len o (fun i hi => by
      obtain ⟨q, hq, _⟩ := hsix i hi
      exact ⟨q, hq⟩)
    refine ⟨[(b, .cells cur t fz)], l, .inr ⟨b, o, cap, cur, t, fz, by rw [hll], by simp, by omega, ?_, ?_⟩, ?_⟩
    · obtain ⟨_, _, hz⟩ := hsix (len - 1) (by omega)
      show o + l.length * 6 ≤ cur.size
      omega
    · show Go.Eng.Els rOp_ _ (cur.extract o (o + l.length * 6)).toList l
      rw [Array.toList_extract, hll]
      unfold List.extract
      rw [show o + len * 6 - o = len * 6 by omega]
      exact hels
    · refine ⟨List.nodup_cons.2 ⟨by simp, List.nodup_nil⟩, fun c hc => ?_⟩
      rw [List.mem_singleton] at hc
      subst hc
      exact hh
end
/-- each of the three answers true -/
theorem ans4 : ∃ n : Nat, ∀ script : List Op_, m4 n script = some true := by
  obtain ⟨n, hn⟩ : ∃ n : Nat, 4398047511104 ≤ n := ⟨_, Nat.le_refl _⟩
  refine ⟨n, fun script => Ok.eq ?_⟩
  unfold m4
  refine Ok_ob2 ((walk_ok hn).mono (fun q hq => Ok.some' ?_))
  exact decide_eq_true hq
theorem ans3 : ∃ n : Nat, ∀ script : List Op_, m3 n script = some true := by
  obtain ⟨n, hn⟩ : ∃ n : Nat, 4398047511104 ≤ n := ⟨_, Nat.le_refl _⟩
  refine ⟨n, fun script => Ok.eq ?_⟩
  unfold m3
  refine Ok_ob1 ?_
  unfold m6
  refine Ok_ob2 ((walk_ok hn).mono (fun q hq => Ok.some' (Ok.some' ?_)))
  exact decide_eq_true hq
theorem ans5 : ∃ n : Nat, ∀ script : List Op_, m5 n script = some true := by
  obtain ⟨n, hn⟩ : ∃ n : Nat, 4398047511104 ≤ n := ⟨_, Nat.le_refl _⟩
  refine ⟨n, fun script => Ok.eq ?_⟩
  unfold m5
  refine Ok_ob1 ?_
  unfold m8
  refine Ok_ob2 ((walk_ok hn).mono (fun q hq => Ok.some' (Ok.some' ?_)))
  exact decide_eq_true hq
end Go.Proofs.Qxb6500350aGreat
