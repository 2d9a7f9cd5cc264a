/- What End's walk asks. -/
import Derived.Test.Qxb6500351aGreatMd26
set_option linter.unusedVariables false
set_option linter.unusedSimpArgs false
namespace Go.Proofs.Qxb6500351aGreat
open Go.Eng
section
variable (A : WA) (q : Bool) (x : Wrld) (V : WV) (gh : List Chunk) (c : Nat) (c3 : c < 3) (sd : Int) (hh : HsG x.H A.hv A.bv gh) (ok : ∀ i, i < 3 → (x.H i).Ok ∧ InfoOk (x.H i))
include c3 hh ok
theorem t55b (b : Bool) (ho : (x.H c).oursB sd = b) : Trip Tryz.prog 55 #[.pointer (some ⟨A.b, 0, none⟩), .int .i64 (c : Int), .int .i64 sd] [[(A.b, .cells (A.wd q x V).enc 53 (0, 0))], gh] (fun u S' => ∃ (pc : Value) (gc : List Chunk), u = .tuple #[.agg (Si.mk ((x.H c).ent sd) pc).enc, .bool b] ∧ InfG ((x.H c).err sd) ((x.H c).infoC sd) pc gc ∧ S' = [gc, [(A.b, .cells (A.wd q x V).enc 53 (0, 0))], gh]) := by
  have := t55 A q x V gh c c3 sd hh ok
  rw [ho] at this; exact this
theorem t92b (b : Bool) (ho : (x.H c).lisB sd = b) : Trip Tryz.prog 92 #[.pointer (some ⟨A.b, 0, none⟩), .int .i64 (c : Int), .int .i64 sd] [[(A.b, .cells (A.wd q x V).enc 53 (0, 0))], gh] (fun u S' => u = .bool b ∧ S' = [[(A.b, .cells (A.wd q x V).enc 53 (0, 0))], gh]) := by
  have := t92 A q x V gh c c3 sd hh ok
  rw [ho] at this; exact this
end
theorem err21 {H : Hst} {sd : Int} (h : H.err sd ≠ 0) : H.err sd = 21 := by
  unfold Hst.err at *; rw [Tb.get_err h]
/-- a list of numbers that grows -/
def intR (xs : List Value) (x : Int) (g : List Chunk) : Prop := xs = [.int .i64 x] ∧ g = []
theorem intR_get {b cap : Nat} {cur : Array Value} {l : List Int} {gd : List Chunk} (h : LOpen 3 1 intR b cap cur l gd) (k : Nat) (hk : k < l.length) {o : Nat} (ho : o = 0 + k * 1) : cur[o]? = some (.int .i64 (l.getD k 0)) := by
  rw [getD_at hk]
  exact LOpen.field h k hk (f := 0) (by omega) (fun x g ⟨hx, _⟩ => by subst hx; rfl) o (by omega)
def kidP (H : Hst) (sd s : Int) : Bool := decide (H.err s = 0) && decide ((H.ent s).parent = sd)
theorem kid_step {H : Hst} {sd : Int} {l : List Int} {k : Nat} (hk : k < l.length) : (l.take (k + 1)).filter (kidP H sd) = (l.take k).filter (kidP H sd) ++ if kidP H sd (l.getD k 0) = true then [l.getD k 0] else [] := by
  rw [take_snoc l k hk, List.filter_append]
  congr 1
  rw [List.filter_cons]; split <;> rfl
end Go.Proofs.Qxb6500351aGreat
