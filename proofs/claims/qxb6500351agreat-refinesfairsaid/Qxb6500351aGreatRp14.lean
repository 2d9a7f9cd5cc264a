/- Untouched over the pools; the script. -/
import Derived.Test.Qxb6500351aGreatW95
set_option linter.unusedVariables false
set_option linter.unusedSimpArgs false
namespace Go.Proofs.Qxb6500351aGreat
open Go.Eng
theorem i16 {A : WA} {q : Bool} {x : Wrld} {V : WV} {m : Nat} {gh gq gw gn gs gr gi go gm : List Chunk} (W : WG A q x V m gh gq gw gn gs gr gi go gm) (hm : m ≤ 2700000000000) :
    Trip Tryz.prog 16 #[.pointer (some ⟨A.b, 0, none⟩)] [[(A.b, .cells (A.wd q x V).enc 53 (0, 0))], gh, gq, gw, gn, gs, gr, gi, go, gm] (fun u S' => u = .bool true ∧ S' = [gh, gq, gw, gn, gs, gr]) := by
  obtain ⟨io, giv, gid, hI, rfl, hi1, hi2⟩ := W.i
  obtain ⟨oo, gov, god, hO, rfl, ho1, ho2⟩ := W.o
  obtain ⟨mo, gmv, gmd, hM, rfl, hm1, hm2⟩ := W.m
  refine (t16 A q x V oo io mo gov god giv gid gmv gmd hO hI hM (by omega) (by omega) (by omega) ho2 hi2 hm2).frame (F := [gh, gq, gw, gn, gs, gr]) ?_ ?_
  · unfold Sel
    simp only [List.flatten_cons, List.flatten_nil, List.append_nil]
    have e : ∀ (w a b c : List Chunk), (w ++ (a ++ (b ++ c))).Perm (w ++ (c ++ (b ++ a))) := fun w a b c => by
      refine List.Perm.append_left w ?_
      refine (List.perm_append_comm (l₁ := a)).trans ?_
      rw [← List.append_assoc]
      refine List.Perm.append_right a ?_
      exact List.perm_append_comm
    have h := e [(A.b, .cells (A.wd q x V).enc 53 (0, 0))] (gh ++ (gq ++ (gw ++ (gn ++ (gs ++ gr))))) (giv ++ gid) ((gov ++ god) ++ (gmv ++ gmd))
    simp only [List.append_assoc] at h ⊢
    refine (List.Perm.trans ?_ h).trans ?_
    · refine List.Perm.of_eq ?_; simp only [List.append_assoc]
    · refine List.Perm.append_left _ ?_
      refine List.Perm.append_left gov (List.Perm.append_left god ?_)
      have h2 : (gmv ++ (gmd ++ (giv ++ (gid ++ (gh ++ (gq ++ (gw ++ (gn ++ (gs ++ gr)))))))) : List Chunk).Perm (giv ++ (gid ++ (gmv ++ (gmd ++ (gh ++ (gq ++ (gw ++ (gn ++ (gs ++ gr))))))))) := by
        have := perm_mid (gmv ++ gmd) (giv ++ gid) (gh ++ (gq ++ (gw ++ (gn ++ (gs ++ gr)))))
        simpa only [List.append_assoc] using this
      exact h2
  · rintro u A' ⟨h1, rfl⟩
    exact ⟨[gh, gq, gw, gn, gs, gr], by simp, h1, rfl⟩
/-- the script as it lies in memory -/
def ScrP (p : Option Addr) (n : Nat) (g : List Chunk) : Prop := 0 < n → ∃ b o cs t fz, p = some ⟨b, o, none⟩ ∧ g = [(b, .cells cs t fz)] ∧
  ∀ i, i < n → ∃ (kd oa ob oc : Int) (os ot : ByteArray), (∀ a, a = o + i * 6 → cs.extract a (a + 6) = (Opn.mk kd oa ob oc os ot).enc ∧ a + 6 ≤ cs.size) ∧ ob < 9223372036854775808 ∧ os.size ≤ 140737488355328
theorem LawK.first : LawK Wrld.init 0 := ⟨_, _, Law.init⟩
end Go.Proofs.Qxb6500351aGreat
