/- THE ENGINE, part 14: copying from nil; grown rows. -/
import Derived.Test.Qxb6500351aGreatEngS
set_option linter.unusedVariables false
set_option linter.unusedSimpArgs false
namespace Go.Eng
section
variable {c : Cx} {all : Array Oper} {rest : List Oper} {T L : Env} {S : SH} {Q : Env → SH → Prop} {pos : String} {af : Array Edge} {ty : TypeId}
theorem o_copyN {d : Nat} {x y : Operand} {t ts e sz bytes : Nat} {z : Array Value} {a : Addr} {dl dc : Nat}
    (hf : SlcZ c.P t e sz bytes z) (hx : gv (T ++ L) x = some (.slice (some a) dl dc)) (hy : gv (T ++ L) y = some (.slice none 0 0)) (hd : Nat.blt d c.n = true)
    (h : OkO c all rest ((d, .int .i64 0) :: T) L S Q) : OkO c all (⟨some d, .call ⟨.builtin .copy, #[x, y], #[t, ts]⟩, ty, pos, af, none⟩ :: rest) T L S Q := by
  intro Q' hQ ac w he hs
  refine wpList_plain rfl fun K hK => ?_
  have g1 := he.gv hx
  have g2 := he.gv hy
  obtain ⟨i, v, hu, hi, hz, hv, hsz, hby⟩ := hf
  have hrun := run_copy_nil (P := c.P) w t ts ty e a dl dc hu (by rw [hi]; rfl)
  have h2 : (execOp ac.eval ⟨some d, .call ⟨.builtin .copy, #[x, y], #[t, ts]⟩, ty, pos, af, none⟩).run c.P w = .ok (.value (.int .i64 0)) w := by
    generalize ac.eval = ρ at *
    simp [execOp, resolve, invoke, builtin, g1, g2, hrun, Result.andThen]
    rfl
  rw [Oper.wp, h2, Oper.upon_value]
  exact hK _ _ (h Q' hQ _ _ (he.putT _ hd) hs)
theorem o_lapp0 {α : Type} {R : List Value → α → List Chunk → Prop} {d : Nat} {x y : Operand} {t e sz bytes : Nat} {z : Array Value} {v : Value} {l : List α} {gv gd : List Chunk} {u : α} {b2 : Nat} {css : Array Value} {t2 : TypeId} {fz : Nat × Nat} {F : SH}
    (hf : SlcZ c.P t e sz bytes z) (hsz : z.size = sz) (hx : Eng.gv (T ++ L) x = some v) (hy : Eng.gv (T ++ L) y = some (.slice (some ⟨b2, 0, none⟩) 1 1)) (hl : LstN e sz R v l gv gd) (hs : css.size = sz) (hp : css.toList.all plainV = true) (hR : R css.toList u [])
    (hsel : Sel S [gv, gd, [(b2, .cells css t2 fz)]] F) (hb : (l.length + 1 + 4096) * bytes ≤ 70368744177664) (h63 : l.length + 1 ≤ 4611686018427387903) (hd : Nat.blt d c.n = true)
    (h : ∀ v' gv', Lst e sz R v' (l ++ [u]) gv' gd → OkO c all rest ((d, v') :: T) L ([gv', gd] ++ F) Q) :
    OkO c all (⟨some d, .call ⟨.builtin .append, #[x, y], #[t, t]⟩, ty, pos, af, none⟩ :: rest) T L S Q :=
  o_lappN hf hsz hx hy hl hs hp hR (by unfold Sel at *; simpa using hsel) hb h63 hd fun v' gv' hl' => by
    rw [List.append_nil] at hl' ⊢
    exact h v' gv' hl'
/-- a row of bytes grows by a window of another -/
theorem o_gbapp {d : Nat} {x y : Operand} {t bytes : Nat} {z : Array Value} {v : Value} {l m : List Int} {g : List Chunk} {b2 o2 n2 cp : Nat} {css : Array Value} {t2 : TypeId} {fz : Nat × Nat} {F : SH}
    (hf : SlcZ c.P t 5 1 bytes z) (hsz : z.size = 1) (hx : Eng.gv (T ++ L) x = some v) (hy : Eng.gv (T ++ L) y = some (.slice (some ⟨b2, o2, none⟩) n2 cp)) (hv : GB v l g) (hw : BytAt o2 n2 cp css m)
    (hsel : Sel S [g, [(b2, .cells css t2 fz)]] F) (hb : (l.length + n2 + 4096) * bytes ≤ 70368744177664) (h63 : l.length + n2 ≤ 140737488355328) (hd : Nat.blt d c.n = true)
    (h : ∀ v' g', GB v' (l ++ m) g' → OkO c all rest ((d, v') :: T) L ([g', [(b2, .cells css t2 fz)]] ++ F) Q) :
    OkO c all (⟨some d, .call ⟨.builtin .append, #[x, y], #[t, t]⟩, ty, pos, af, none⟩ :: rest) T L S Q := by
  obtain ⟨hv1, hv2, hv3⟩ := hv
  have hn := hw.n_eq
  refine o_front hsel ?_
  refine o_append (news := bV m) hf hsz hx hy hv1 (fun g' => q0) (ms m0) ?_ ?_ ?_ hb (by omega) hd fun v' g' hv' hn' => ?_
  · simpa using hw.shows
  · have := hw.fit; omega
  · simp [bV, plainV]
  · refine h v' g' ⟨?_, ?_, ?_⟩
    · have e1 : (l ++ m).length = l.length + n2 := by rw [List.length_append, hn]
      have e2 : bV (l ++ m) = bV l ++ bV m := by simp [bV]
      rw [e1, e2]; exact hv'
    · intro a ha
      rcases List.mem_append.1 ha with h1 | h1
      · exact hv2 a h1
      · exact hw.bytes a h1
    · rw [List.length_append, hn]; exact h63
end
theorem c_cut2 {c : Cx} {x : Code} {e : Env} {R : SH} {Q : Exit → Env → SH → Prop} {g g1 g2 g3 : List Chunk} (p : g.Perm (g1 ++ (g2 ++ g3))) (h : OkC c x e (g1 :: g2 :: g3 :: R) Q) : OkC c x e (g :: R) Q := by
  refine c_perm ?_ h
  simp only [List.flatten_cons, ← List.append_assoc]
  refine List.Perm.append_right _ ?_
  simpa using p
theorem sel_cut2 {g g1 g2 g3 : List Chunk} (p : g.Perm (g1 ++ (g2 ++ g3))) {n v y : List Chunk} : Sel [g1, g2, g3, n, v, y] [n, v, g, y] [] := by
  unfold Sel
  simp only [List.flatten_cons, List.flatten_nil, List.append_nil]
  have h1 : (g1 ++ (g2 ++ (g3 ++ (n ++ (v ++ y))))).Perm (g ++ (n ++ (v ++ y))) := by
    have := List.Perm.append_right (n ++ (v ++ y)) p.symm
    simpa using this
  refine h1.trans ?_
  have h2 : (g ++ (n ++ (v ++ y))).Perm ((n ++ v) ++ (g ++ y)) := by
    have h3 : (g ++ ((n ++ v) ++ y)).Perm ((n ++ v) ++ (g ++ y)) := List.perm_append_comm_assoc _ _ _
    simpa using h3
  simpa using h2
/-- a call's claim in a wider memory, its parts laid anew behind it -/
theorem Trip.frame {P : Program} {f : FuncId} {args : Array Value} {A F S : SH} {R R2 : Value → SH → Prop} (h : Trip P f args A R) (hp : Sel S A F)
    (hR : ∀ u S', R u S' → ∃ S'', (S' ++ F).flatten.Perm S''.flatten ∧ R2 u S'') : Trip P f args S R2 := by
  intro w hw
  refine (h w (hw.perm hp).left).mono ?_
  rintro e' w' ⟨v, S', rfl, hr, hst⟩
  obtain ⟨S'', hq, h2⟩ := hR v S' hr
  exact ⟨v, S'', rfl, h2, (St.frame ⟨hw, Frm.refl _ _⟩ hp hst).perm hq⟩
theorem GB.byt {v : Value} {l : List Int} {g : List Chunk} (h : GB v l g) : Byt v l g := by
  rcases h.at with h1 | ⟨b, cap, cur, h1, h2, h3⟩
  · exact .inl h1
  · exact .inr ⟨b, 0, l.length, cap, cur, 5, h1, h2, h3⟩
end Go.Eng
