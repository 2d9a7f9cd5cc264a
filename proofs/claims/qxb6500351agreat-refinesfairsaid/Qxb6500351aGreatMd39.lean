/- For the walks of RefinesFair. -/
import Derived.Test.Qxb6500351aGreatW105
import Derived.Test.Qxb6500351aGreatW106
import Derived.Test.Qxb6500351aGreatW101
import Derived.Test.Qxb6500351aGreatMd34
import Derived.Test.Qxb6500351aGreatRp14
set_option linter.unusedVariables false
set_option linter.unusedSimpArgs false
namespace Go.Proofs.Qxb6500351aGreat
open Go.Eng
/-- the script as it lies in memory, with its numbers' ranges -/
def ScrPF (p : Option Addr) (n : Nat) (g : List Chunk) : Prop := 0 < n → ∃ b o cs t fz, p = some ⟨b, o, none⟩ ∧ g = [(b, .cells cs t fz)] ∧
  ∀ i, i < n → ∃ (kd oa ob oc : Int) (os ot : ByteArray), (∀ a, a = o + i * 6 → cs.extract a (a + 6) = (Opn.mk kd oa ob oc os ot).enc ∧ a + 6 ≤ cs.size) ∧ ob < 9223372036854775808 ∧ os.size ≤ 140737488355328 ∧ -9223372036854775808 ≤ oa ∧ oa < 9223372036854775808
/-- the first look -/
theorem LF.first1 (P : Prop) : NextZ Wrld.init fun z => LF P z 1 := by
  obtain ⟨w, L, A, F⟩ := LF.first (P := P)
  obtain ⟨L3, z, a, b, c, d⟩ := A.stay
  refine LawK.nextZ ⟨w, L, A⟩ (by decide) a b (LawK.nok ⟨w, L, A⟩ (by decide)) (by have := LawK.nlen ⟨w, L, A⟩ (by decide); omega) rfl ⟨w, L3, b, fun p => (F p).call A b c d ?_⟩
  obtain ⟨Dn, d1, _, d3, _⟩ := c.wire
  have e : w.D ++ Dn = w.D ++ [] := by rw [← d1]; simp
  have : Dn = [] := List.append_cancel_left e
  rw [d3, this]
  show _ + (0 : Int) = _
  omega
theorem wrap_ge {v : Int} (h : v = -9223372036854775809) : IntKind.wrap .i64 v = 9223372036854775807 := by subst h; decide
/-- Foul -/
theorem i18 {A : WA} {q : Bool} {x : Wrld} {V : WV} {m : Nat} {gh gq gw gn gs gr gi go gm : List Chunk} (W : WG A q x V m gh gq gw gn gs gr gi go gm) (hm : m ≤ 2700000000000) (hb : HBnd x) (kd oa ob oc : Int) (os ot : ByteArray) (h1 : -9223372036854775808 ≤ oa) (h2 : oa < 9223372036854775808) :
    Trip Tryz.prog 18 #[.pointer (some ⟨A.b, 0, none⟩), .agg (Opn.mk kd oa ob oc os ot).enc] [[(A.b, .cells (A.wd q x V).enc 53 (0, 0))], gh, gq, gw, gn, gs, gr, gi, go, gm] (fun u S' => u = .bool (foulB x kd oa ob oc) ∧ S' = [[(A.b, .cells (A.wd q x V).enc 53 (0, 0))], gh, gq, gw, gn, gs, gr, gi, go, gm]) := by
  have hT : (IntKind.wrap .i64 (oa - 1) < 0 ∨ 3 ≤ IntKind.wrap .i64 (oa - 1) ↔ oa - 1 < 0 ∨ 3 ≤ oa - 1) ∧ (0 ≤ IntKind.wrap .i64 (oa - 1) → IntKind.wrap .i64 (oa - 1) < 3 → IntKind.wrap .i64 (oa - 1) = oa - 1) := by
    by_cases h : oa = -9223372036854775808
    · rw [wrap_ge (by omega)]
      exact ⟨⟨fun _ => by omega, fun _ => by omega⟩, fun _ k => by omega⟩
    · rw [w64 (by omega)]
      exact ⟨Iff.rfl, fun _ _ => rfl⟩
  cases ho : (x.H oc.toNat).oursB oa with
  | true => exact t18y A q x V m gh gq gw gn gs gr gi go gm W hm hb kd oa ob oc os ot _ rfl hT.1 hT.2 ho
  | false => exact t18n A q x V m gh gq gw gn gs gr gi go gm W hm hb kd oa ob oc os ot _ rfl hT.1 hT.2 ho
end Go.Proofs.Qxb6500351aGreat
