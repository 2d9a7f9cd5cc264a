/- THE PLAIN LAW of the law's wire. No Go in sight. -/
import Derived.Test.Qxb6500351aGreatPl43
import Derived.Test.Qxb6500351aGreatMd16
set_option linter.unusedVariables false
set_option linter.unusedSimpArgs false
namespace Go.Proofs.Qxb6500351aGreat
open Go.Eng
theorem Dgr.Ok.frames_b {d : Dgr} (h : d.Ok) {raw : List Int} (hr : raw ∈ d.frames) : Bytes raw ∧ soundF raw = 0 := by
  obtain ⟨pk, h1, h2, h3⟩ := frames_dec h.len.2 hr
  have hm : 0 ≤ d.m % 256 ∧ d.m % 256 ≤ 255 := by omega
  have hpb : Bytes pk := by
    unfold Dgr.pkts at h1
    have hl := h.len
    split at h1
    · simp only [List.mem_cons, List.not_mem_nil, or_false] at h1
      rw [h1]
      exact ipPkt_b (by omega) h.src h.dst hm (by omega) (by omega) h.b
    · simp only [List.mem_cons, List.not_mem_nil, or_false] at h1
      rcases h1 with h1 | h1 <;> rw [h1]
      · exact ipPkt_b (by omega) h.src h.dst hm (by omega) (by rw [List.length_take]; omega) (h.b.take _)
      · exact ipPkt_b (by omega) h.src h.dst hm (by omega) (by rw [List.length_drop]; omega) (h.b.drop _)
  rw [h3]
  have h4 := h.src
  have h5 := h.dst
  exact ⟨frameEnc_b (by omega) (by omega) (by omega) (by omega) hpb, frame_sound h2⟩
theorem first_pkt (dst src proto s d id om : Int) (l : List Int) : firstFrag (frameEnc dst src 1 (ipPkt proto s d id om l)) = decide (om % 128 = 0) := by
  unfold firstFrag
  have h1 : (frameEnc dst src 1 (ipPkt proto s d id om l)).length = 14 + l.length := by rw [frameEnc_len, ipPkt_len]; omega
  have h2 : (frameEnc dst src 1 (ipPkt proto s d id om l)).getD 9 0 = om := rfl
  rw [h1, h2, decide_eq_true (by omega : 9 < 14 + l.length), Bool.true_and]
theorem Dgr.first (d : Dgr) : d.frames.countP firstFrag = 1 := by
  unfold Dgr.frames Dgr.pkts
  split
  · simp only [List.map_cons, List.map_nil, List.countP_cons, List.countP_nil, first_pkt]
    rfl
  · simp only [List.map_cons, List.map_nil, List.countP_cons, List.countP_nil, first_pkt]
    rfl
theorem Dgr.frames_len (d : Dgr) : d.frames.length ≤ 2 := by
  unfold Dgr.frames Dgr.pkts
  split <;> simp
theorem first_count : ∀ (D : List Rc), (D.map Rc.frames).flatten.countP firstFrag = D.length
  | [] => rfl
  | r :: D => by
    rw [List.map_cons, List.flatten_cons, List.countP_append, first_count D, List.length_cons]
    have := r.dgr.first
    unfold Rc.frames
    omega
theorem frames_total : ∀ (D : List Rc), (D.map Rc.frames).flatten.length ≤ 2 * D.length
  | [] => Nat.le_refl _
  | r :: D => by
    rw [List.map_cons, List.flatten_cons, List.length_append, List.length_cons]
    have := r.dgr.frames_len
    have := frames_total D
    unfold Rc.frames at *
    omega
/-- what the law's wire holds -/
structure FlOk (D : List Rc) (now : Int) (f : Flt) : Prop where
  b : Bytes f.raw
  no : f.age ≤ 4 → f.fl = false → ∃ r, r ∈ D ∧ now - r.t ≤ f.age ∧ f.raw ∈ r.frames
  fl : f.age ≤ 4 → f.fl = true → soundF f.raw ≠ 0
def WrOk (D : List Rc) (now : Int) (l : List Flt) : Prop := ∀ f, f ∈ l → FlOk D now f
theorem WrOk.more {D : List Rc} {now : Int} {l : List Flt} (h : WrOk D now l) (E : List Rc) : WrOk (D ++ E) now l := fun f hf => by
  obtain ⟨a, b, c⟩ := h f hf
  refine ⟨a, fun x y => ?_, c⟩
  obtain ⟨r, r1, r2, r3⟩ := b x y
  exact ⟨r, List.mem_append_left _ r1, r2, r3⟩
theorem WrOk.take {D : List Rc} {now : Int} {l : List Flt} (h : WrOk D now l) {i : Int} {raw : List Int} (ht : wTake l i = some raw) : Bytes raw ∧ (soundF raw ≠ 0 ∨ ∃ r, r ∈ D ∧ now - r.t ≤ 4 ∧ raw ∈ r.frames) := by
  unfold wTake at ht
  split at ht
  · cases ht
  · rename_i x hx
    split at ht
    · rename_i hh
      injection ht with ht
      subst ht
      have hm : x ∈ l := by obtain ⟨a, b⟩ := List.getElem?_eq_some_iff.1 hx; rw [← b]; exact List.getElem_mem a
      obtain ⟨a, b, c⟩ := h x hm
      refine ⟨a, ?_⟩
      cases hf : x.fl with
      | true => exact .inl (c hh.2 hf)
      | false =>
        obtain ⟨r, r1, r2, r3⟩ := b hh.2 hf
        exact .inr ⟨r, r1, by omega, r3⟩
    · cases ht
theorem WrOk.sub {D : List Rc} {now : Int} {l l' : List Flt} (h : WrOk D now l) (s : ∀ f, f ∈ l' → f ∈ l) : WrOk D now l' := fun f hf => h f (s f hf)
theorem wRem_sub (l : List Flt) (i : Int) : ∀ f, f ∈ wRem l i → f ∈ l := fun f hf => by
  unfold wRem at hf
  rcases List.mem_append.1 hf with k | k
  · exact List.mem_of_mem_take k
  · exact List.mem_of_mem_drop k
theorem WrOk.rest {D : List Rc} {now : Int} {l : List Flt} (h : WrOk D now l) (i : Int) : WrOk D now (wRest l i) := by
  unfold wRest; split
  · exact h.sub (wRem_sub l i)
  · exact h
theorem WrOk.double {D : List Rc} {now : Int} {l : List Flt} (h : WrOk D now l) (i : Int) : WrOk D now (wDouble l i) := by
  unfold wDouble; split
  · refine h.sub (fun f hf => ?_)
    rcases List.mem_append.1 hf with k | k
    · exact k
    · exact List.mem_of_mem_drop (List.mem_of_mem_take k)
  · exact h
theorem WrOk.flip {D : List Rc} {now : Int} {l : List Flt} (hD : ∀ r, r ∈ D → r.dgr.Ok) (h : WrOk D now l) (i bit : Int) : WrOk D now (wFlip l i bit) := by
  unfold wFlip; split
  · exact h
  · rename_i x hx
    split
    · rename_i hh
      intro f hf
      have hm : x ∈ l := by obtain ⟨a, b⟩ := List.getElem?_eq_some_iff.1 hx; rw [← b]; exact List.getElem_mem a
      rcases List.mem_or_eq_of_mem_set hf with k | k
      · exact h f k
      · subst k
        obtain ⟨a, b, c⟩ := h x hm
        refine ⟨flipRaw_b a, fun _ k => absurd k (by simp), fun ha _ => ?_⟩
        obtain ⟨r, r1, r2, r3⟩ := b ha hh.2.1
        obtain ⟨s1, s2⟩ := (hD r r1).frames_b r3
        exact flip_bad s1 s2 hh.2.2
    · exact h
theorem WrOk.tick {D : List Rc} {now : Int} {l : List Flt} (h : WrOk D now l) : WrOk D (now + 1) (wTick l) := fun f hf => by
  unfold wTick at hf
  obtain ⟨x, hx, rfl⟩ := List.mem_map.1 hf
  obtain ⟨a, b, c⟩ := h x hx
  unfold wTick1
  split
  · rename_i ha
    refine ⟨a, fun h1 h2 => ?_, fun h1 h2 => c ha h2⟩
    obtain ⟨r, r1, r2, r3⟩ := b ha h2
    exact ⟨r, r1, by show now + 1 - r.t ≤ x.age + 1; omega, r3⟩
  · rename_i ha
    exact ⟨a, fun h1 => absurd h1 ha, fun h1 => absurd h1 ha⟩
/-- all frames of an answer are put -/
def wPuts (l : List Flt) : List (List Int) → List Flt
  | [] => l
  | raw :: fr => wPuts (wPut l raw) fr
def wSpill (l : List Flt) : List (List Int) → Int
  | [] => 0
  | raw :: fr => (if 64 ≤ l.length then 1 else 0) + wSpill (wPut l raw) fr
theorem wPuts_snoc : ∀ (l : List Flt) (fr : List (List Int)) (raw : List Int), wPuts l (fr ++ [raw]) = wPut (wPuts l fr) raw
  | l, [], raw => rfl
  | l, x :: fr, raw => wPuts_snoc (wPut l x) fr raw
theorem wSpill_snoc : ∀ (l : List Flt) (fr : List (List Int)) (raw : List Int), wSpill l (fr ++ [raw]) = wSpill l fr + (if 64 ≤ (wPuts l fr).length then 1 else 0)
  | l, [], raw => by
    simp only [List.nil_append, wSpill, wPuts]
    omega
  | l, x :: fr, raw => by
    show _ + wSpill (wPut l x) (fr ++ [raw]) = _ + wSpill (wPut l x) fr + (if 64 ≤ (wPuts (wPut l x) fr).length then 1 else 0)
    rw [wSpill_snoc (wPut l x) fr raw]; omega
theorem wSpill_b : ∀ (l : List Flt) (fr : List (List Int)), 0 ≤ wSpill l fr ∧ wSpill l fr ≤ fr.length
  | l, [] => by simp [wSpill]
  | l, x :: fr => by
    have := wSpill_b (wPut l x) fr
    simp only [wSpill, List.length_cons]
    split <;> omega
theorem wPut_len {l : List Flt} (h : l.length ≤ 64) (raw : List Int) : (wPut l raw).length ≤ 64 := by
  unfold wPut; split
  · exact h
  · rw [List.length_append, List.length_singleton]; omega
theorem wPuts_len : ∀ {l : List Flt} (fr : List (List Int)), l.length ≤ 64 → (wPuts l fr).length ≤ 64
  | l, [], h => h
  | l, x :: fr, h => wPuts_len fr (wPut_len h x)
theorem WrOk.put {D : List Rc} {now : Int} {l : List Flt} (h : WrOk D now l) {raw : List Int} (hr : ∃ r, r ∈ D ∧ r.t = now ∧ raw ∈ r.frames ∧ r.dgr.Ok) : WrOk D now (wPut l raw) := by
  unfold wPut; split
  · exact h
  · intro f hf
    rcases List.mem_append.1 hf with k | k
    · exact h f k
    · have k : f = _ := List.mem_singleton.1 k
      subst k
      obtain ⟨r, r1, r2, r3, r4⟩ := hr
      exact ⟨(r4.frames_b r3).1, fun _ _ => ⟨r, r1, by show now - r.t ≤ 0; omega, r3⟩, fun _ k => absurd k (by simp)⟩
theorem WrOk.puts {D : List Rc} {now : Int} : ∀ {l : List Flt} (fr : List (List Int)), WrOk D now l → (∀ raw, raw ∈ fr → ∃ r, r ∈ D ∧ r.t = now ∧ raw ∈ r.frames ∧ r.dgr.Ok) → WrOk D now (wPuts l fr)
  | l, [], h, _ => h
  | l, x :: fr, h, hr => WrOk.puts fr (h.put (hr x (List.mem_cons_self ..))) (fun y hy => hr y (List.mem_cons_of_mem _ hy))
theorem WrOk.out {D Dn : List Rc} {now : Int} {l : List Flt} (h : WrOk D now l) (hd : ∀ r, r ∈ D ++ Dn → r.dgr.Ok) (ht : ∀ r, r ∈ Dn → r.t = now) {fr : List (List Int)} (hf : fr = (Dn.map Rc.frames).flatten) : WrOk (D ++ Dn) now (wPuts l fr) := by
  refine WrOk.puts fr (h.more Dn) (fun raw hr => ?_)
  rw [hf, List.mem_flatten] at hr
  obtain ⟨fs, h1, h2⟩ := hr
  obtain ⟨r, h3, rfl⟩ := List.mem_map.1 h1
  exact ⟨r, List.mem_append_right _ h3, ht r h3, h2, hd r (List.mem_append_right _ h3)⟩
theorem Inv.dgr_ok {w : W} (I : Inv w) : ∀ r, r ∈ w.D → r.dgr.Ok := fun r hr => (I.hist.ok r.dgr (List.mem_map_of_mem hr)).1
end Go.Proofs.Qxb6500351aGreat
