/- Look, told by its law; the world as a whole. -/
import Derived.Test.Qxb6500351aGreatW79
set_option linter.unusedVariables false
set_option linter.unusedSimpArgs false
namespace Go.Proofs.Qxb6500351aGreat
open Go.Eng
theorem rdyTo_mem (c : Int) (H : Hst) : ∀ (l : List Int) (r : List Wt) (y : Wt), y ∈ rdyTo c H l r → y ∈ r ∨ y.host = c
  | [], r, y, h => .inl h
  | sd :: l, r, y, h => by
    rcases rdyTo_mem c H l (rdyStep c H r sd) y h with q | q
    · unfold rdyStep at q
      split at q
      · rcases List.mem_append.1 q with p | p
        · exact .inl p
        · rw [List.mem_singleton] at p; subst p; exact .inr rfl
      · exact .inl q
    · exact .inr q
theorem LookC.keeps {y z : Wrld} {c : Nat} (h : LookC y c z) : z.H = y.H ∧ z.dl = y.dl ∧ z.wr = y.wr ∧ z.out = y.out ∧ z.ticks = y.ticks ∧ z.flood = y.flood ∧ z.spilt = y.spilt ∧ ∀ r, r ∈ z.ready → r ∈ y.ready ∨ r.host = c := by
  obtain ⟨l1, l2, t', F⟩ := h.f
  rw [F.z]
  exact ⟨rfl, rfl, rfl, rfl, rfl, rfl, rfl, fun r hr => rdyTo_mem _ _ _ _ _ hr⟩
theorem Look.keeps {y z : Wrld} (h : Look y z) : z.H = y.H ∧ z.dl = y.dl ∧ z.wr = y.wr ∧ z.out = y.out ∧ z.ticks = y.ticks ∧ z.flood = y.flood ∧ z.spilt = y.spilt := by
  obtain ⟨x1, x2, x3, c1, c2, c3, rfl⟩ := h.hosts
  obtain ⟨a1, a2, a3, a4, a5, a6, a7, _⟩ := c1.keeps
  obtain ⟨b1, b2, b3, b4, b5, b6, b7, _⟩ := c2.keeps
  obtain ⟨d1, d2, d3, d4, d5, d6, d7, _⟩ := c3.keeps
  exact ⟨by show x3.H = _; rw [d1, b1, a1], by show x3.dl = _; rw [d2, b2, a2], by show x3.wr = _; rw [d3, b3, a3], by show x3.out = _; rw [d4, b4, a4], by show x3.ticks = _; rw [d5, b5, a5], by show x3.flood = _; rw [d6, b6, a6], by show x3.spilt = _; rw [d7, b7, a7]⟩
/-- what a look asks of the sizes -/
structure LkOk (x : Wrld) : Prop where
  N : NOk x.N
  Nl : x.N.length ≤ 50000000100
  rl : x.ready.length ≤ 900000000000
  rh : ∀ r, r ∈ x.ready → 0 ≤ r.host ∧ r.host < 3
  ok : ∀ i, i < 3 → (x.H i).Ok ∧ InfoOk (x.H i)
theorem t14L (A : WA) (q : Bool) {x z : Wrld} (V : WV) {gh gn gs gr gi : List Chunk} {m : Nat} (hl : Look x z) (hk : LkOk x) (hh : HsG x.H A.hv A.bv gh) (hn : NtG A.bn x.N x.dl gn) (hs : SnG x.seen V.seen gs) (hr : LstN 76 3 wtR V.ready x.ready gr []) (hi : PI m V.ints gi) (hm : m ≤ 2800000000000) :
    Trip Tryz.prog 14 #[.pointer (some ⟨A.b, 0, none⟩)] [[(A.b, .cells (A.wd q x V).enc 53 (0, 0))], gh, gn, gs, gr, gi] (fun u S' => u = .bool true ∧ ∃ (V' : WV) (gn' gs' gr' gi' : List Chunk), (V'.outs = V.outs ∧ V'.mine = V.mine ∧ V'.cm = V.cm) ∧ NtG A.bn z.N z.dl gn' ∧ SnG z.seen V'.seen gs' ∧ LstN 76 3 wtR V'.ready z.ready gr' [] ∧ PI (m + 3) V'.ints gi' ∧ S' = [[(A.b, .cells (A.wd q z V').enc 53 (0, 0))], gh, gn', gs', gr', gi']) := by
  obtain ⟨x1, x2, x3, c1, c2, c3, rfl⟩ := hl.hosts
  obtain ⟨a1, _, _, _, _, _, _, a8⟩ := c1.keeps
  obtain ⟨b1, _, _, _, _, _, _, b8⟩ := c2.keeps
  obtain ⟨d1, _, _, _, _, _, _, d8⟩ := c3.keeps
  have hX : ∀ c, c < 3 → LookC ((fun c : Nat => match c with | 0 => x | 1 => x1 | 2 => x2 | _ => x3) c) c ((fun c : Nat => match c with | 0 => x | 1 => x1 | 2 => x2 | _ => x3) (c + 1)) := fun c c3' => by
    have hc : c = 0 ∨ c = 1 ∨ c = 2 := by omega
    rcases hc with rfl | rfl | rfl
    · exact c1
    · exact c2
    · exact c3
  have hXH : ∀ c, c ≤ 3 → ((fun c : Nat => match c with | 0 => x | 1 => x1 | 2 => x2 | _ => x3) c).H = x.H := fun c c3' => by
    have hc : c = 0 ∨ c = 1 ∨ c = 2 ∨ c = 3 := by omega
    rcases hc with rfl | rfl | rfl | rfl
    · rfl
    · exact a1
    · exact b1.trans a1
    · exact d1.trans (b1.trans a1)
  intro w hw
  refine (t14 A q V gh gn gs gr gi m _ x.H hX hXH hl.flood hh hk.ok hn hs hr hi hm hk.N hk.Nl hk.rl (fun r hr3 => ?_) w hw).mono ?_
  · rcases d8 r hr3 with h | h
    · rcases b8 r h with h | h
      · rcases a8 r h with h | h
        · exact hk.rh r h
        · rw [h]; omega
      · rw [h]; omega
    · rw [h]; omega
  · rintro e w' ⟨v, S', h1, ⟨h2, sv, rv, iv, gn', gs', gr', gi', e1, e2, e3, e4, h3⟩, h4⟩
    exact ⟨v, S', h1, ⟨h2, { V with seen := sv, ready := rv, ints := iv }, gn', gs', gr', gi', ⟨rfl, rfl, rfl⟩, e1, e2, e3, e4, h3⟩, h4⟩
end Go.Proofs.Qxb6500351aGreat
