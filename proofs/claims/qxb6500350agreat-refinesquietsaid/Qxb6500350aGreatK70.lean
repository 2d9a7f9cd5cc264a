/- PLAIN LAW: THE REPOSITORY (3): BACK, SAVE, SEAL, MOVE. -/
import Derived.Test.Qxb6500350aGreatK69
import Derived.Test.Qxb6500350aGreatT123
set_option linter.unusedVariables false
set_option linter.unusedSimpArgs false
set_option maxHeartbeats 2000000
namespace Go.Proofs.Qxb6500350aGreat
open Go.Eng Go
abbrev TT : Int → Prop := fun _ => True
/-- the device behind a command that was undone -/
def Spill (d0 : Dev) (A0 : Int → Ob) (d : Dev) : Prop := d.base = d0.base ∧ ∃ W, d.ws = d0.ws ++ W ∧ W.length ≤ 144 ∧ ∀ w, w ∈ W → 1 ≤ w.1 ∧ w.1 < 145 ∧ usedB A0 w.1 = false
theorem Grow.spill {Kd : Int → Prop} {d0 d : Dev} {A0 A : Int → Ob} (h : Grow Kd d0 A0 d A) : Spill d0 A0 d := by
  obtain ⟨k, hd, hk⟩ := h.dev
  obtain ⟨W, h1, h2, h3⟩ := hd.ws
  have := nfr_le A0
  exact ⟨hd.base, W, h1, by omega, h3⟩
theorem Spill.len {d0 d : Dev} {A0 : Int → Ob} (h : Spill d0 A0 d) : d.at_.length ≤ d0.at_.length + 144 := by
  obtain ⟨_, W, h1, h2, _⟩ := h
  have := congrArg List.length h1
  rw [List.length_append, Dev.ws_len, Dev.ws_len] at this
  omega
/-- back where the command began -/
structure Fell (m0 : RepoM) (d0 : Dev) (A0 : Int → Ob) (root : Int) (ord0 : List Int) (K0 : Int → CI) (bs0 : List Brn) (t : Trees) (s : Store) (d : Dev) (g : Graph) (x : Index) : Prop where
  gr : Gr t s d g A0 root ord0 K0 bs0 (histOf m0)
  xf : XF x m0.index
  sp : Spill d0 A0 d
section
variable {n : Nat} {t0 t : Trees} {s0 s : Store} {d0 d : Dev} {g0 g : Graph} {x : Index} {r : RepoR} {A0 A : Int → Ob} {root : Int} {ord0 ord : List Int} {K0 K : Int → CI} {bs0 bs : List Brn} {m0 m : RepoM} {H : Hist}
theorem back_ok {e : Int} (hn : 100010 ≤ n) (h0 : Gr t0 s0 d0 g0 A0 root ord0 K0 bs0 (histOf m0)) (hd0 : d0.at_.length ≤ 1000) (hl : LT t s d A root) (hg : Grow TT d0 A0 d A) :
    Ok (m131 n r g t s d x e) (fun q => q.1 = e ∧ Fell m0 d0 A0 root ord0 K0 bs0 q.2.2.1 q.2.2.2.1 d q.2.1 q.2.2.2.2) := by
  have hsp := hg.spill
  have := hsp.len
  unfold m131
  refine Ok_ob3 ((gabort_ok hn h0 hl (by omega) hg.ext).mono (fun q hq => ?_))
  refine Ok_cl1 (gaux_ok hn hq.toGm) (Ok_ob2 ((load_x (by omega) h0.laux).mono (fun p hp => Ok.some' ⟨rfl, hq, hp.2, hsp⟩)))
theorem root_st (h0 : Gr t0 s0 d0 g0 A0 root ord0 K0 bs0 H) (hg : Grow TT d0 A0 d A) : (A root).st = 2 := by
  have hr := h0.rk
  have hlv : (A0 root).st ≠ 0 := fun e => by
    have := hr.2.2.1
    unfold Ob.lv at this
    omega
  rcases h0.rest root hr.1 hr.2.1 with h | h
  · exact absurd h hlv
  · rw [hg.ext.live hr.1 hr.2.1 hlv]; exact h
theorem save_ok (hn : 100010 ≤ n) (h0 : Gr t0 s0 d0 g0 A0 root ord0 K0 bs0 (histOf m0)) (hd0 : d0.at_.length ≤ 1000) (h : Gm t s d g A root ord K bs H) (hg : Grow TT d0 A0 d A) :
    Ok (m132 n r g t s d x) (fun q => (q.1 = 5 ∧ nfr A = 0 ∧ Fell m0 d0 A0 root ord0 K0 bs0 q.2.2.1 q.2.2.2.1 q.2.2.2.2.1 q.2.1 q.2.2.2.2.2) ∨
      (q.1 = 0 ∧ q.2.2.2.2.2 = x ∧ ∃ A' root', Gr q.2.2.1 q.2.2.2.1 q.2.2.2.2.1 q.2.1 A' root' ord K bs H ∧ Done d0 A0 q.2.2.2.2.1 A' root' ∧ nfr A ≤ nfr A' + 1)) := by
  have := hg.spill.len
  unfold m132
  refine Ok_ob4 ((gsave_ok hn h h0.rest h0.lt.st.freeE hg (by omega) (root_st h0 hg)).mono (fun q hq => ?_))
  rcases hq with ⟨rfl, hz⟩ | ⟨t', s', d', A', root', rfl, hgr, hdn, hnf⟩
  · refine Ok_ite (fun _ => Ok_ob5 ((back_ok hn h0 hd0 h.lt hg).mono (fun p hp => Ok.some' (.inl ⟨hp.1, hz, hp.2⟩)))) (fun e => absurd (show ¬ ((5 : Int) = 0) by decide) e)
  · exact Ok_ite (fun e => absurd rfl e) (fun _ => Ok.some' (.inr ⟨rfl, rfl, A', root', hgr, hdn, hnf⟩))
theorem seal_ok {l : List File} (hn : 100010 ≤ n) (h0 : Gr t0 s0 d0 g0 A0 root ord0 K0 bs0 (histOf m0)) (hd0 : d0.at_.length ≤ 1000) (h : Gm t s d g A root ord K bs H) (hg : Grow TT d0 A0 d A) (hl : Law l) :
    Ok (m123 n r g t s d x l) (fun q => (q.1 = 5 ∧ (nfr A : Int) < cost l + 1 ∧ Fell m0 d0 A0 root ord0 K0 bs0 q.2.2.1 q.2.2.2.1 q.2.2.2.2.1 q.2.1 q.2.2.2.2.2) ∨
      (q.1 = 0 ∧ q.2.2.2.2.2 = x ∧ ∃ A' root', Gr q.2.2.1 q.2.2.2.1 q.2.2.2.2.1 q.2.1 A' root' ord K bs { H with aux := l } ∧ Done d0 A0 q.2.2.2.2.1 A' root' ∧ (nfr A : Int) ≤ nfr A' + (cost l + 1))) := by
  unfold m123
  refine Ok_ob5 ((gsetAux_ok hn h hl).mono (fun q hq => ?_))
  obtain ⟨g', t', s', d', A', l1, l2, hq⟩ := hq
  have hg2 : Grow TT d0 A0 d' A' := hg.trans h0.lt.st.freeE (l2.mono (fun _ _ => trivial))
  rcases hq with ⟨rfl, hc⟩ | ⟨rfl, hc, hm⟩
  · refine Ok_ite (fun _ => Ok_ob5 ((back_ok hn h0 hd0 l1 hg2).mono (fun p hp => Ok.some' (.inl ⟨hp.1, by omega, hp.2⟩)))) (fun e => absurd (show ¬ ((5 : Int) = 0) by decide) e)
  · refine Ok_ite (fun e => absurd rfl e) (fun _ => Ok_ob6 ((save_ok hn h0 hd0 hm hg2).mono (fun p hp => Ok.some' ?_)))
    rcases hp with ⟨p1, p2, p3⟩ | ⟨p1, p2, A2, root2, p3, p4, p5⟩
    · exact .inl ⟨p1, by omega, p3⟩
    · exact .inr ⟨p1, p2, A2, root2, p3, p4, by omega⟩
/-- head moves to a commit: the branch with it -/
def moveH (H : Hist) (q : Int) : Hist := if H.head.name = [] then { H with head := { name := [], seq := q, merge := 0 } } else { H with refs := withR H.refs H.head.name q, head := { name := H.head.name, seq := 0, merge := 0 } }
theorem move_r {q : Int} (hn : 100000 ≤ n) (h : Gm t s d g A root ord K bs H) (hq : ∃ i, i ∈ ord ∧ (K i).seq = q) (hg : H.head.name ≠ [] → goodN H.head.name = true ∧ (findR H.refs H.head.name ≠ none ∨ H.refs.length < 4)) :
    Ok (m130 n r g H.head q) (fun p => p.1 = 0 ∧ ∃ bs', Gm t s d p.2 A root ord K bs' (moveH H q)) := by
  unfold m130 moveH
  refine Ok_ite (fun e => ?_) (fun e => ?_)
  · rw [if_pos e]
    refine Ok_ob2 ((gsetHead_ok hn h (hd := { Head.zero with seq := q }) (fun h => absurd rfl h) (fun _ => hq) (fun h => absurd rfl h)).mono (fun p hp => Ok.some' ⟨hp.1, bs, ?_⟩))
    exact hp.2
  · rw [if_neg e]
    obtain ⟨g1, g2⟩ := hg e
    refine Ok_ob2 ((gsetBranch_ok hn h g1 hq g2).mono (fun p hp => ?_))
    obtain ⟨hp1, bs', hp2⟩ := hp
    rw [hp1]
    refine Ok_ite (fun h => absurd rfl h) (fun _ => Ok_ob2 ((gsetHead_ok hn hp2 (hd := { Head.zero with name := H.head.name }) (fun _ => g1) (fun h => absurd h e) (fun h => absurd rfl h)).mono (fun p' hp' => Ok.some' ⟨hp'.1, bs', ?_⟩)))
    have := hp'.2
    have e2 : (if ({ Head.zero with name := H.head.name } : Head).name = [] then ({ Head.zero with name := H.head.name } : Head).seq else 0) = 0 := if_neg e
    rw [e2] at this
    exact this
theorem move_m {q : Int} (hn : 100000 ≤ n) (hl : m.refs.length < 10000) : m135 n m q = some { m with refs := (moveH (histOf m) q).refs, head := (moveH (histOf m) q).head } := by
  refine Ok.eq ?_
  unfold m135 moveH
  refine Ok_iteN (fun e => ?_) (fun e => ?_)
  · have e := of_decide_eq_false e
    rw [if_neg (show ¬ (histOf m).head.name = [] from e)]
    exact Ok_cl1 (withRef_ok hn hl) (Ok_nm (Ok_nm (Ok.some' rfl)))
  · have e := of_decide_eq_true e
    rw [if_pos (show (histOf m).head.name = [] from e)]
    exact Ok_nm (Ok.some' rfl)
end
/-- what may change of the numbers -/
structure Bnd (m0 m : RepoM) : Prop where
  lax : m.lax = true
  lo : m0.room - 300 ≤ m.room ∨ -2000000 ≤ m.room
  hi : m.room ≤ m0.room ∨ m.room ≤ 48
  nx : m.nxt ≤ m0.nxt + 1
/-- how a command ended -/
inductive Out (m0 : RepoM) (d0 : Dev) (A0 : Int → Ob) (root : Int) (ord0 : List Int) (K0 : Int → CI) (bs0 : List Brn) (t : Trees) (s : Store) (d : Dev) (g : Graph) (x : Index) (r : RepoR) (m : RepoM) (e : Int) : Prop
  | full (h1 : e = 5) (h2 : Fell m0 d0 A0 root ord0 K0 bs0 t s d g x) (h3 : Wk r m0.work) (h4 : (nfr A0 : Int) < m0.room - m.room)
  | went (h1 : e ≠ 5) (h2 : MI m) (h3 : ∃ A' root' ord' K' bs', Sys t s d g x r A' root' ord' K' bs' m ∧ ((d = d0 ∧ A' = A0 ∧ root' = root ∧ histOf m = histOf m0) ∨ Done d0 A0 d A' root') ∧ (nfr A0 : Int) - nfr A' ≤ m0.room - m.room)
section
variable {n : Nat} {t0 t : Trees} {s0 s : Store} {d0 d : Dev} {g0 g : Graph} {x x0 : Index} {r r0 : RepoR} {A0 A : Int → Ob} {root : Int} {ord0 ord : List Int} {K0 K : Int → CI} {bs0 bs : List Brn} {m0 m : RepoM} {H : Hist}
theorem Bnd.refl (h : m0.lax = true) : Bnd m0 m0 := ⟨h, .inl (by omega), .inl (by omega), by omega⟩
/-- nothing was done -/
theorem Out.same {e : Int} (h : Sys t0 s0 d0 g0 x0 r0 A0 root ord0 K0 bs0 m0) (hm : MI m0) (he : e ≠ 5) : Out m0 d0 A0 root ord0 K0 bs0 t0 s0 d0 g0 x0 r0 m0 e :=
  .went he hm ⟨A0, root, ord0, K0, bs0, h, .inl ⟨rfl, rfl, rfl, rfl⟩, by omega⟩
end
end Go.Proofs.Qxb6500350aGreat
