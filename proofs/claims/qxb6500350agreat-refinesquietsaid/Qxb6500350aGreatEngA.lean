/- THE ENGINE, part 10: lists of things: literals and appends. -/
import Derived.Test.Qxb6500350aGreatEngW
set_option linter.unusedVariables false
set_option linter.unusedSimpArgs false
namespace Go.Eng
def Lst {α : Type} (e sz : Nat) (R : List Value → α → List Chunk → Prop) (v : Value) (l : List α) (gv gd : List Chunk) : Prop :=
  v ≠ .slice none 0 0 ∧ ∃ xs, Vec e sz v l.length xs gv ∧ Elems sz R xs l gd
theorem Lst.some {α : Type} {e sz : Nat} {R : List Value → α → List Chunk → Prop} {v : Value} {l : List α} {gv gd : List Chunk} (h : Lst e sz R v l gv gd) :
    ∃ xs b cap cur, v = .slice (some ⟨b, 0, none⟩) l.length cap ∧ gv = [(b, .cells cur e (0, 0))] ∧ l.length ≤ cap ∧ cap ≤ maxLen ∧ cur.size = cap * sz ∧ cur.toList.take (l.length * sz) = xs ∧ Elems sz R xs l gd := by
  obtain ⟨hn, xs, hv, he⟩ := h
  rcases hv with ⟨h1, ⟨rfl, h2, h3⟩ | ⟨b, cap, cur, h2, h3, h4, h5, h6, h7⟩⟩
  · exact absurd rfl hn
  · exact ⟨xs, b, cap, cur, h2, h3, h4, h5, h6, h7, he⟩
theorem Lst.slice {α : Type} {e sz : Nat} {R : List Value → α → List Chunk → Prop} {v : Value} {l : List α} {gv gd : List Chunk} (h : Lst e sz R v l gv gd) : ∃ b cap, v = .slice (Option.some ⟨b, 0, none⟩) l.length cap := by
  obtain ⟨xs, b, cap, cur, rfl, _⟩ := h.some
  exact ⟨b, cap, rfl⟩
theorem Lst.nil {α : Type} {e sz b : Nat} {R : List Value → α → List Chunk → Prop} : Lst e sz R (.slice (Option.some ⟨b, 0, none⟩) 0 0) [] [(b, .cells #[] e (0, 0))] [] :=
  ⟨(fun h => nomatch h), [], ⟨by simp, .inr ⟨b, 0, #[], rfl, rfl, Nat.le_refl _, Nat.zero_le _, by simp, by simp⟩⟩, Elems.nil⟩
theorem Lst.one {α : Type} {e sz b : Nat} {R : List Value → α → List Chunk → Prop} {cs : Array Value} {x : α} {g : List Chunk} (hs : cs.size = sz) (h : R cs.toList x g) : Lst e sz R (.slice (Option.some ⟨b, 0, none⟩) 1 1) [x] [(b, .cells cs e (0, 0))] g :=
  ⟨(fun h => nomatch h), cs.toList, ⟨by simp [hs], .inr ⟨b, 1, cs, rfl, rfl, Nat.le_refl _, Nat.le_trans (by decide : 1 ≤ 4611686018427387903) bigLe, by simp [hs], by simp only [List.length_cons, List.length_nil, Nat.zero_add, Nat.one_mul]; exact List.take_of_length_le (by simp [hs])⟩⟩, Elems.one (by simp [hs]) h⟩
theorem Elems.plain {α : Type} {sz : Nat} {R : List Value → α → List Chunk → Prop} (hp : ∀ xs a g, R xs a g → xs.all plainV = true) : ∀ {xs : List Value} {l : List α} {g : List Chunk}, Elems sz R xs l g → xs.all plainV = true
  | xs, [], g, ⟨h, _⟩ => by rw [h]; rfl
  | xs, a :: l, g, ⟨x, xs', g1, g2, h1, h2, h3, h4, h5⟩ => by
    rw [h1, List.all_append, hp _ _ _ h3, Elems.plain hp h4]; rfl
theorem Lst.to {α : Type} {e sz : Nat} {R : List Value → α → List Chunk → Prop} {v : Value} {l m : List α} {gv gd : List Chunk} (h : Lst e sz R v l gv gd) (k : l = m) : Lst e sz R v m gv gd := k ▸ h
section
variable {c : Cx} {e L T : Env} {S : SH} {Q : Exit → Env → SH → Prop}
theorem c_joinE {x y : Code} {ι : Type} {Q2 : Exit → Env → SH → Prop} (sh : ι → Env) (I : ι → Prop) (hQ : ∀ e' S', OkC c y e' S' Q2 → Q .normal e' S')
    (h : OkC c x e S (fun ex e' S' => match ex with | .normal => Meet sh (fun _ => S) I e e' S' | _ => Q ex e' S'))
    (k : ∀ j, I j → OkC c y (sh j ++ e) S Q2) : OkC c x e S Q := c_mono h fun ex e' S' hq => by
  cases ex
  case normal => obtain ⟨j, hj, h1, h2, F, hF⟩ := hq; exact hQ _ _ (c_drop hF (c_env (env_cov h1 h2) (k j hj)))
  all_goals exact hq
theorem c_joinD {x y : Code} {ι : Type} {Q2 : Exit → Env → SH → Prop} (n : Nat) (sh : ι → Env) (G : ι → SH) (I : ι → Prop) (hQ : ∀ e' S', OkC c y e' S' Q2 → Q .normal e' S')
    (h : OkC c x e S (fun ex e' S' => match ex with | .normal => Meet sh (fun j => G j ++ S.drop n) I e e' S' | _ => Q ex e' S'))
    (k : ∀ j, I j → OkC c y (sh j ++ e) (G j ++ S.drop n) Q2) : OkC c x e S Q := c_mono h fun ex e' S' hq => by
  cases ex
  case normal => obtain ⟨j, hj, h1, h2, F, hF⟩ := hq; exact hQ _ _ (c_drop hF (c_env (env_cov h1 h2) (k j hj)))
  all_goals exact hq
end
section
variable {c : Cx} {all : Array Oper} {rest : List Oper} {T L : Env} {S : SH} {Q : Env → SH → Prop} {pos : String} {af : Array Edge} {ty : TypeId}
theorem sel4 {a b c d : List Chunk} {F : SH} : Sel (a :: b :: c :: d :: F) ([a, b ++ d] ++ F) [c] := by
  unfold Sel
  simp only [List.flatten_cons, List.flatten_append, List.flatten_nil, List.append_nil, List.cons_append, List.nil_append, List.append_assoc]
  refine List.Perm.append_left _ (List.Perm.append_left _ ?_)
  rw [← List.append_assoc d]
  exact List.perm_append_comm
theorem o_lbs0 {α : Type} {R : List Value → α → List Chunk → Prop} {d : Nat} {t e sz bytes : Nat} {z : Array Value} (hf : SlcZ c.P t e sz bytes z) (hd : Nat.blt d c.n = true)
    (h : ∀ v gv, Lst e sz R v [] gv [] → OkO c all rest ((d, v) :: T) L (gv :: [] :: S) Q) : OkO c all (⟨some d, .buildSlice t 0 #[], ty, pos, af, none⟩ :: rest) T L S Q :=
  o_bs0 hf hd fun b => o_perm (List.Perm.refl _) (h _ _ Lst.nil)
theorem o_lapp1 {α : Type} {R : List Value → α → List Chunk → Prop} {d : Nat} {x y : Operand} {t e sz bytes : Nat} {z : Array Value} {v : Value} {l : List α} {gv gd g1 : List Chunk} {u : α} {b2 : Nat} {css : Array Value} {t2 : TypeId} {fz : Nat × Nat} {F : SH}
    (hf : SlcZ c.P t e sz bytes z) (hsz : z.size = sz) (hx : Eng.gv (T ++ L) x = some v) (hy : Eng.gv (T ++ L) y = some (.slice (some ⟨b2, 0, none⟩) 1 1)) (hl : Lst e sz R v l gv gd) (hs : css.size = sz) (hp : css.toList.all plainV = true) (hR : R css.toList u g1)
    (hsel : Sel S [gv, gd, [(b2, .cells css t2 fz)], g1] F) (hb : (l.length + 1 + 4096) * bytes ≤ 70368744177664) (h63 : l.length + 1 ≤ 4611686018427387903) (hd : Nat.blt d c.n = true)
    (h : ∀ v' gv', Lst e sz R v' (l ++ [u]) gv' (gd ++ g1) → OkO c all rest ((d, v') :: T) L ([gv', gd ++ g1] ++ F) Q) :
    OkO c all (⟨some d, .call ⟨.builtin .append, #[x, y], #[t, t]⟩, ty, pos, af, none⟩ :: rest) T L S Q := by
  obtain ⟨hn, xs, hv, he⟩ := hl
  refine o_front hsel ?_
  refine o_append hf hsz hx hy hv (fun g' => q0) (ms (ms m0)) rfl (by omega) (by rw [← hs]; simpa using hp) hb h63 hd fun v' g' hv' hn' => ?_
  refine o_drop sel4 (h v' g' ⟨hn' hn, xs ++ css.toList, ?_, he.app (Elems.one (by simp [hs]) hR)⟩)
  have e1 : (css.extract 0 (0 + 1 * sz)).toList = css.toList := by rw [← hs]; simp
  rw [e1] at hv'
  simpa using hv'
theorem o_lapp {α : Type} {R : List Value → α → List Chunk → Prop} {d : Nat} {x y : Operand} {t e sz bytes : Nat} {z : Array Value} {v v2 : Value} {l m : List α} {gv gd gv2 gd2 : List Chunk} {F : SH}
    (hf : SlcZ c.P t e sz bytes z) (hsz : z.size = sz) (hx : Eng.gv (T ++ L) x = some v) (hy : Eng.gv (T ++ L) y = some v2) (hl : Lst e sz R v l gv gd) (hl2 : Lst e sz R v2 m gv2 gd2) (hp : ∀ xs a g, R xs a g → xs.all plainV = true)
    (hsel : Sel S [gv, gd, gv2, gd2] F) (hb : (l.length + m.length + 4096) * bytes ≤ 70368744177664) (h63 : l.length + m.length ≤ 4611686018427387903) (hd : Nat.blt d c.n = true)
    (h : ∀ v' gv', Lst e sz R v' (l ++ m) gv' (gd ++ gd2) → OkO c all rest ((d, v') :: T) L ([gv', gd ++ gd2] ++ F) Q) :
    OkO c all (⟨some d, .call ⟨.builtin .append, #[x, y], #[t, t]⟩, ty, pos, af, none⟩ :: rest) T L S Q := by
  obtain ⟨hn, xs, hv, he⟩ := hl
  obtain ⟨ys, b2, cap, cur, rfl, rfl, h1, h2, h3, h4, he2⟩ := hl2.some
  refine o_front hsel ?_
  have e1 : (cur.extract 0 (0 + m.length * sz)).toList = ys := by rw [← h4]; simp
  have hfit : 0 + m.length * sz ≤ cur.size := by rw [h3, Nat.zero_add]; exact Nat.mul_le_mul_right _ h1
  have hpl : ys.all plainV = true := he2.plain hp
  refine o_append hf hsz hx hy hv (fun g' => q0) (ms (ms m0)) e1 hfit hpl hb h63 hd fun v' g' hv' hn' => ?_
  refine o_drop sel4 (h v' g' ⟨hn' hn, xs ++ ys, ?_, he.app he2⟩)
  simpa using hv'
end
end Go.Eng
