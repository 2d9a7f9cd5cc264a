/- CLOSE and ABORT, all cases together. -/
import Derived.Test.Qxb6500351aGreatMd28
import Derived.Test.Qxb6500351aGreatW88
import Derived.Test.Qxb6500351aGreatW89
import Derived.Test.Qxb6500351aGreatW90
set_option linter.unusedVariables false
set_option linter.unusedSimpArgs false
namespace Go.Proofs.Qxb6500351aGreat
open Go.Eng
theorem lis_ours {H : Hst} {sd : Int} (h : H.lisB sd = true) : H.oursB sd = false := by
  unfold Hst.lisB at h
  have h := of_decide_eq_true h
  unfold Hst.oursB
  exact decide_eq_false (fun k => by omega)
theorem ours_lis {H : Hst} {sd : Int} (h : H.oursB sd = true) : H.lisB sd = false := by
  unfold Hst.oursB at h
  have h := of_decide_eq_true h
  unfold Hst.lisB
  exact decide_eq_false (fun k => by omega)
theorem Hst.closeE_l {H : Hst} {sd : Int} (h : H.lisB sd = true) : H.closeE sd = 0 ∧ H.closeG sd = H.shutF sd H.t.list ∧ H.closeK sd = H.shutdown sd := by
  have e : H.closeE sd = 0 := if_pos h
  exact ⟨e, (if_pos e).trans (if_pos h), (if_pos e).trans (if_pos h)⟩
theorem Hst.abortE_l {H : Hst} {sd : Int} (h : H.lisB sd = true) : H.abortE sd = 0 ∧ H.abortG sd = H.shutF sd H.t.list ∧ H.abortK sd = H.shutdown sd := by
  have e : H.abortE sd = 0 := if_pos h
  exact ⟨e, (if_pos e).trans (if_pos h), (if_pos e).trans (if_pos h)⟩
theorem Hst.closeE_m {H : Hst} {sd : Int} (h : H.oursB sd = true) : H.closeE sd = (H.cn sd).close.2.2 ∧ H.closeF sd = H.emitF (H.ent sd) (H.cn sd).close.2.1 ∧ H.closeH sd = H.aft sd (H.cn sd).close.1 (H.cn sd).close.2.1 := by
  have n : ¬ H.lisB sd = true := by rw [ours_lis h]; exact fun z => nomatch z
  exact ⟨(if_neg n).trans (if_pos h), if_neg n, if_neg n⟩
theorem Hst.abortE_m {H : Hst} {sd : Int} (h : H.oursB sd = true) : H.abortE sd = (H.cn sd).abort.2.2 ∧ H.abortF sd = H.emitF (H.ent sd) (H.cn sd).abort.2.1 ∧ H.abortH sd = H.aft sd (H.cn sd).abort.1 (H.cn sd).abort.2.1 := by
  have n : ¬ H.lisB sd = true := by rw [ours_lis h]; exact fun z => nomatch z
  exact ⟨(if_neg n).trans (if_pos h), if_neg n, if_neg n⟩
section
variable {A : WA} {q : Bool} {x : Wrld} {V : WV} {m k : Nat} {gh gq gw gn gs gr gi go gm : List Chunk} {Z : Wrld → Prop}
theorem t49cZ (W : WG A q x V m gh gq gw gn gs gr gi go gm) (hm : m ≤ 2700000000000) {w : Go.Proofs.Qxb6500351aGreat.W} {L : Nat → Ned} (B : Law w L x (k : Int)) (hk : k ≤ 10900000000) (c : Nat) (c3 : c < 3) (sd : Int) (hZ : CallP w L x k Z) (hC : ∀ w' L3 z, Law w' L3 z ((k : Int) + 1) → CallW w L x w' L3 z → ((x.H c).oursB sd = true → ((x.H c).cn sd).x.st = 3 → CallE w w') → (x.H c).lisB sd = false → Z z) (hA : ∀ w' L3 z, Law w' L3 z ((k : Int) + 1) → (x.H c).lisB sd = true → Z z) :
    Trip Tryz.prog 49 #[.pointer (some ⟨A.b, 0, none⟩), .int .i64 (c : Int), .int .i64 sd, .bool false] [[(A.b, .cells (A.wd q x V).enc 53 (0, 0))], gh, gq, gw, gn, gs, gr, gi, go, gm] (fun u S' => u = .bool true ∧ ∃ y, NextZ y Z ∧ WPost A q y V.cm (m + 60) S') := by
  have h0 : LawK x k := ⟨w, L, B⟩
  have hz := h0.szs (by omega)
  have hb := h0.hb (by omega)
  have hst := B.stayZ hk hZ
  have hn := h0.nok (by omega)
  have hnl := h0.nlen (by omega)
  by_cases hl : (x.H c).lisB sd = true
  · obtain ⟨e1, e2, e3⟩ := Hst.closeE_l hl
    obtain ⟨E, w', L3, z, l1, l2⟩ := B.endLis c3 hl
    have nx : NextZ (({ x with H := upA x.H c ((x.H c).closeK sd) } : Wrld).put c ((x.H c).closeG sd)) Z := by
      rw [e2, e3]
      exact h0.nextZ hk l1 l2 hn (by show x.N.length ≤ _; omega) rfl (hA w' L3 z l2 hl)
    refine t49lc A q x V m gh gq gw gn gs gr gi go gm W hm hz hb c c3 sd (fun y => NextZ y Z) (lis_ours hl) hl (fun z => B.shutOk c3 z) (fun z => by rw [lis_ours hl] at z; cases z) (by rw [e2]; exact E.cn.2) (nx.ok) e1 (fun z => absurd e1 z) nx ?_ ?_
    · rw [upA_at, e3]; exact E.gone
    · intro s hs he hp
      rw [upA_at, e3]
      obtain ⟨q1, q2, _, q3, q4⟩ := E.kids s hs he hp
      exact ⟨q1, q2, q3, q4⟩
  · have hl : (x.H c).lisB sd = false := by revert hl; cases (x.H c).lisB sd <;> simp
    by_cases ho : (x.H c).oursB sd = true
    · obtain ⟨s1, s2, s3, s4⟩ := B.endClose c3 ho
      obtain ⟨e1, e2, e3⟩ := Hst.closeE_m ho
      have eF : ¬ (x.H c).closeE sd = 0 → (x.H c).closeG sd = [] ∧ (x.H c).closeK sd = x.H c := fun z => ⟨if_neg z, if_neg z⟩
      have eG : (x.H c).closeE sd = 0 → (x.H c).closeG sd = (x.H c).emitF ((x.H c).ent sd) ((x.H c).cn sd).close.2.1 ∧ (x.H c).closeK sd = (x.H c).aft sd ((x.H c).cn sd).close.1 ((x.H c).cn sd).close.2.1 := fun z => ⟨(if_pos z).trans e2, (if_pos z).trans e3⟩
      have nx : (x.H c).closeE sd = 0 → NextZ (({ x with H := upA x.H c ((x.H c).closeK sd), N := nUpd x.N (nFind x.N c sd) (fun y => { y with closed := true }) } : Wrld).put c ((x.H c).closeG sd)) Z := fun z => by
        rw [(eG z).1, (eG z).2]
        rw [e1] at z
        obtain ⟨_, _, w', L3, z', l1, l2, l3, l4⟩ := s4 z
        have qq := hn.upd (nFind x.N c sd) (f := fun y => { y with closed := true }) (fun y hy => ⟨rfl, rfl, rfl, (hn.2 y hy).2⟩)
        exact h0.nextZ hk l1 l2 qq.1 (by show (nUpd _ _ _).length ≤ _; rw [qq.2]; omega) rfl (hC w' L3 z' l2 l3 (fun _ => l4) hl)
      refine t49mc A q x V m gh gq gw gn gs gr gi go gm W hm hz hb c c3 sd (fun y => NextZ y Z) ho hl (fun z => by rw [hl] at z; cases z) (fun _ => s1) ?_ ?_ (e1.trans s2) eF (fun z => (s4 (e1.symm.trans z)).1) (fun _ => hst) nx
      · by_cases z : (x.H c).closeE sd = 0
        · rw [(eG z).1]; exact (s4 (e1.symm.trans z)).2.1.2
        · rw [(eF z).1]; decide
      · by_cases z : (x.H c).closeE sd = 0
        · exact (nx z).ok
        · rw [(eF z).2, upA_self]; exact hst.ok
    · have ho : (x.H c).oursB sd = false := by revert ho; cases (x.H c).oursB sd <;> simp
      have e1 : (x.H c).closeE sd = 21 := by unfold Hst.closeE; rw [hl, ho]; rfl
      have z : ¬ (x.H c).closeE sd = 0 := by rw [e1]; decide
      have eF : ¬ (x.H c).closeE sd = 0 → (x.H c).closeG sd = [] ∧ (x.H c).closeK sd = x.H c := fun z => ⟨if_neg z, if_neg z⟩
      exact t49nc A q x V m gh gq gw gn gs gr gi go gm W hm hz hb c c3 sd (fun y => NextZ y Z) ho hl (fun z => by rw [hl] at z; cases z) (fun z => by rw [ho] at z; cases z) (by rw [(eF z).1]; decide) (by rw [(eF z).2, upA_self]; exact hst.ok) e1 eF hst
theorem t49c (W : WG A q x V m gh gq gw gn gs gr gi go gm) (hm : m ≤ 2700000000000) (h : LawK x k) (hk : k ≤ 10900000000) (c : Nat) (c3 : c < 3) (sd : Int) :
    Trip Tryz.prog 49 #[.pointer (some ⟨A.b, 0, none⟩), .int .i64 (c : Int), .int .i64 sd, .bool false] [[(A.b, .cells (A.wd q x V).enc 53 (0, 0))], gh, gq, gw, gn, gs, gr, gi, go, gm] (fun u S' => u = .bool true ∧ ∃ y, NextK y k ∧ WPost A q y V.cm (m + 60) S') := by
  obtain ⟨w, L, B⟩ := h
  exact t49cZ W hm B hk c c3 sd (CallP.law w L x k) (fun w' L3 z A' _ _ _ => ⟨w', L3, A'⟩) (fun w' L3 z A' _ => ⟨w', L3, A'⟩)
theorem t49aZ (W : WG A q x V m gh gq gw gn gs gr gi go gm) (hm : m ≤ 2700000000000) {w : Go.Proofs.Qxb6500351aGreat.W} {L : Nat → Ned} (B : Law w L x (k : Int)) (hk : k ≤ 10900000000) (c : Nat) (c3 : c < 3) (sd : Int) (hZ : CallP w L x k Z) (hA : ∀ w' L3 z, Law w' L3 z ((k : Int) + 1) → Z z) :
    Trip Tryz.prog 49 #[.pointer (some ⟨A.b, 0, none⟩), .int .i64 (c : Int), .int .i64 sd, .bool true] [[(A.b, .cells (A.wd q x V).enc 53 (0, 0))], gh, gq, gw, gn, gs, gr, gi, go, gm] (fun u S' => u = .bool true ∧ ∃ y, NextZ y Z ∧ WPost A q y V.cm (m + 60) S') := by
  have h0 : LawK x k := ⟨w, L, B⟩
  have hz := h0.szs (by omega)
  have hb := h0.hb (by omega)
  have hst := B.stayZ hk hZ
  have hn := h0.nok (by omega)
  have hnl := h0.nlen (by omega)
  by_cases hl : (x.H c).lisB sd = true
  · obtain ⟨e1, e2, e3⟩ := Hst.abortE_l hl
    obtain ⟨E, w', L3, z, l1, l2⟩ := B.endLis c3 hl
    have nx : NextZ (({ x with H := upA x.H c ((x.H c).abortK sd) } : Wrld).put c ((x.H c).abortG sd)) Z := by
      rw [e2, e3]
      exact h0.nextZ hk l1 l2 hn (by show x.N.length ≤ _; omega) rfl (hA w' L3 z l2)
    refine t49la A q x V m gh gq gw gn gs gr gi go gm W hm hz hb c c3 sd (fun y => NextZ y Z) (lis_ours hl) hl (fun z => B.shutOk c3 z) (fun z => by rw [lis_ours hl] at z; cases z) (by rw [e2]; exact E.cn.2) (nx.ok) e1 (fun z => absurd e1 z) nx ?_ ?_
    · rw [upA_at, e3]; exact E.gone
    · intro s hs he hp
      rw [upA_at, e3]
      obtain ⟨q1, q2, _, q3, q4⟩ := E.kids s hs he hp
      exact ⟨q1, q2, q3, q4⟩
  · have hl : (x.H c).lisB sd = false := by revert hl; cases (x.H c).lisB sd <;> simp
    by_cases ho : (x.H c).oursB sd = true
    · obtain ⟨s1, s2, s3, s4, w', L3, z', l1, l2⟩ := B.endAbort c3 ho
      obtain ⟨e1, e2, e3⟩ := Hst.abortE_m ho
      have z := e1.trans s2
      have eF : ¬ (x.H c).abortE sd = 0 → (x.H c).abortG sd = [] ∧ (x.H c).abortK sd = x.H c := fun z => ⟨if_neg z, if_neg z⟩
      have eG : (x.H c).abortG sd = (x.H c).emitF ((x.H c).ent sd) ((x.H c).cn sd).abort.2.1 ∧ (x.H c).abortK sd = (x.H c).aft sd ((x.H c).cn sd).abort.1 ((x.H c).cn sd).abort.2.1 := ⟨(if_pos z).trans e2, (if_pos z).trans e3⟩
      have nx : NextZ (({ x with H := upA x.H c ((x.H c).abortK sd) } : Wrld).put c ((x.H c).abortG sd)) Z := by
        rw [eG.1, eG.2]
        exact h0.nextZ hk l1 l2 hn (by show x.N.length ≤ _; omega) rfl (hA w' L3 z' l2)
      refine t49ma A q x V m gh gq gw gn gs gr gi go gm W hm hz hb c c3 sd (fun y => NextZ y Z) ho hl (fun z => by rw [hl] at z; cases z) (fun _ => s1) (by rw [eG.1]; exact s3.2) nx.ok z eF nx ?_
      rw [upA_at, eG.2]
      exact ⟨s4.2.1, s4.2.2.2.1, s4.2.2.2.2⟩
    · have ho : (x.H c).oursB sd = false := by revert ho; cases (x.H c).oursB sd <;> simp
      have e1 : (x.H c).abortE sd = 21 := by unfold Hst.abortE; rw [hl, ho]; rfl
      have z : ¬ (x.H c).abortE sd = 0 := by rw [e1]; decide
      have eF : ¬ (x.H c).abortE sd = 0 → (x.H c).abortG sd = [] ∧ (x.H c).abortK sd = x.H c := fun z => ⟨if_neg z, if_neg z⟩
      exact t49na A q x V m gh gq gw gn gs gr gi go gm W hm hz hb c c3 sd (fun y => NextZ y Z) ho hl (fun z => by rw [hl] at z; cases z) (fun z => by rw [ho] at z; cases z) (by rw [(eF z).1]; decide) (by rw [(eF z).2, upA_self]; exact hst.ok) e1 eF hst
theorem t49a (W : WG A q x V m gh gq gw gn gs gr gi go gm) (hm : m ≤ 2700000000000) (h : LawK x k) (hk : k ≤ 10900000000) (c : Nat) (c3 : c < 3) (sd : Int) :
    Trip Tryz.prog 49 #[.pointer (some ⟨A.b, 0, none⟩), .int .i64 (c : Int), .int .i64 sd, .bool true] [[(A.b, .cells (A.wd q x V).enc 53 (0, 0))], gh, gq, gw, gn, gs, gr, gi, go, gm] (fun u S' => u = .bool true ∧ ∃ y, NextK y k ∧ WPost A q y V.cm (m + 60) S') := by
  obtain ⟨w, L, B⟩ := h
  exact t49aZ W hm B hk c c3 sd (CallP.law w L x k) (fun w' L3 z A' => ⟨w', L3, A'⟩)
end
end Go.Proofs.Qxb6500351aGreat
