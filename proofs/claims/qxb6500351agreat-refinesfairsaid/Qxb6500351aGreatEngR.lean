/- THE ENGINE, part 11: short loops unrolled; rows of bytes in lists. -/
import Derived.Test.Qxb6500351aGreatEngA
set_option linter.unusedVariables false
set_option linter.unusedSimpArgs false
namespace Go.Eng
def LoopOk (c : Cx) (x : Code) (Q : Exit → Env → SH → Prop) : Nat → Env → SH → Prop
  | 0, _, _ => False
  | n + 1, e, S => OkC c x e S (fun ex e' S' => match ex with | .normal => LoopOk c x Q n e' S' | _ => Q ex e' S')
section
variable {c : Cx} {e : Env} {S : SH} {Q : Exit → Env → SH → Prop} {x : Code}
theorem l_one {n : Nat} (h : OkC c x e S (fun ex e' S' => match ex with | .normal => LoopOk c x Q n e' S' | _ => Q ex e' S')) : LoopOk c x Q (n + 1) e S := h
theorem c_unroll (n : Nat) (h : LoopOk c x Q n e S) : OkC c (.loop x) e S Q := fun a w he hs => by
  refine wp_loop_rel (fun a w m => ∃ e S, EnvOk c.n e a ∧ St c.w0 c.K0 w S ∧ LoopOk c x Q m e S) n ⟨e, S, he, hs, h⟩ ?_
  rintro a w m ⟨e, S, h1, h2, h3⟩
  cases m with
  | zero => exact h3.elim
  | succ m =>
    refine Code.wp_mono (fun ex a' w' ⟨e', S', h4, h5, h6⟩ => ?_) (h3 a w h1 h2)
    cases ex
    case normal => exact ⟨m, by omega, e', S', h4, h5, h6⟩
    all_goals exact ⟨e', S', h4, h5, h6⟩
end
def rm (k : Nat) : Env → Env
  | [] => []
  | p :: r => match Nat.beq p.1 k with
    | true => rm k r
    | false => p :: rm k r
theorem gt_rm {k : Nat} : ∀ {e : Env} {t : Nat} {v : Value}, gt (rm k e) t = some v → gt e t = some v
  | [], t, v, h => h
  | (a, u) :: r, t, v, h => by
    simp only [rm] at h
    simp only [gt]
    split at h
    · rename_i hb
      have h1 := gt_rm h
      have hne : k ≠ t := fun e => by
        subst e
        clear h1
        induction r with
        | nil => simp [rm, gt] at h
        | cons q r ih =>
          obtain ⟨qa, qv⟩ := q
          simp only [rm] at h
          split at h
          · exact ih h
          · rename_i hq
            simp only [gt, hq] at h
            exact ih h
      split
      · rename_i hc
        exact absurd ((Nat.eq_of_beq_eq_true hb).symm.trans (Nat.eq_of_beq_eq_true hc)) hne
      · exact h1
    · simp only [gt] at h
      split
      · rename_i hc; simp only [hc] at h; exact h
      · rename_i hc; simp only [hc] at h; exact gt_rm h
theorem LoopOk.sub {c : Cx} {x : Code} {Q : Exit → Env → SH → Prop} {n : Nat} {e e' : Env} {S : SH} (h : LoopOk c x Q n e' S) (hs : ∀ t v, gt e' t = some v → gt e t = some v) : LoopOk c x Q n e S := by
  cases n with
  | zero => exact h
  | succ n => exact fun a w he hst => h a w (he.sub hs) hst
theorem l_rm (k : Nat) {c : Cx} {x : Code} {Q : Exit → Env → SH → Prop} {n : Nat} {e : Env} {S : SH} (h : LoopOk c x Q n (rm k e) S) : LoopOk c x Q n e S := h.sub fun _ _ => gt_rm
theorem c_rm (k : Nat) {c : Cx} {x : Code} {Q : Exit → Env → SH → Prop} {e : Env} {S : SH} (h : OkC c x (rm k e) S Q) : OkC c x e S Q := c_env (fun _ _ => gt_rm) h
theorem y_compl8 {P : Program} {n : Nat} {e : Env} {ty : TypeId} {x : Operand} {p r : Int} {t2 : TypeId} (hx : gv e x = some (.int .u8 p)) (hr : bXor .u8 255 p = r) : Yields P n e (.unOp .xor t2 x) ty (.int .u8 r) := fun a w d pos af he => by
  subst hr
  have g1 := he.gv hx
  have hm : IntKind.u8.max = 255 := by decide
  generalize a.eval = ρ at *
  simp [execOp, go_sem, g1, Op.unary, Op.intBits, bXor, IntKind.signed, hm]
set_option maxRecDepth 10000 in
theorem compl8n : ∀ n : Fin 256, 255 ^^^ n.val = 255 - n.val := by decide
theorem compl8 {p : Int} (h : 0 ≤ p ∧ p < 256) : bXor .u8 255 p = 255 - p := by
  rw [bXor_nat (f8 (by omega)) (f8 h)]
  have := compl8n ⟨p.toNat, by omega⟩
  have e : (255 : Int).toNat = 255 := rfl
  rw [e]; dsimp only at this; rw [this]; omega
/-- one fresh row of bytes as an element of a list -/
def rowR (xs : List Value) (l : List Int) (g : List Chunk) : Prop := ∃ b, xs = [byV b l] ∧ g = byG b l 5 ∧ Bytes l ∧ l.length ≤ 1000
theorem rowR.mk {b : Nat} {l : List Int} (h : Bytes l) (hl : l.length ≤ 1000) : rowR [byV b l] l (byG b l 5) := ⟨b, rfl, rfl, h, hl⟩
theorem rowR_plain : ∀ xs a g, rowR xs a g → xs.all plainV = true := by rintro xs a g ⟨b, rfl, _, _, _⟩; rfl
theorem made1 (v : Value) : madeCells #[v] (1 * 1) = #[v] := by
  apply Array.ext
  · simp [madeCells]
  · intro i h1 h2
    simp [madeCells, Nat.mod_one]
theorem made2 (v : Value) : madeCells #[v] (2 * 1) = #[v, v] := by
  apply Array.ext
  · simp [madeCells]
  · intro i h1 h2
    have : i = 0 ∨ i = 1 := by simp at h2; omega
    rcases this with rfl | rfl <;> simp [madeCells]
end Go.Eng
