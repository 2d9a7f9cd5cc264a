/- THE WORK, part 8: a settled net. No Go in sight. -/
import Derived.Test.Qxb6500351aGreatLv7
import Derived.Test.Qxb6500351aGreatMd33
set_option linter.unusedVariables false
set_option linter.unusedSimpArgs false
namespace Go.Proofs.Qxb6500351aGreat
open Go.Eng
theorem failed_nf {L : Nat → Ned} {i : Nat} (h : ¬ (L i).failed = true) : Nf L i := fun h4 => by
  by_cases hw : (L i).why = 0
  · exact hw
  · exfalso; apply h; unfold Ned.failed; rw [decide_eq_true h4, decide_eq_true hw]; rfl
/-- all work done: the net is settled -/
theorem settled_of {w : W} {L : Nat → Ned} (I : Inv w) (NI : ∀ i, i < w.n → NetI w L i) (st : ∀ i e c, i < w.n → w.row i e c → c.x.st = 3 ∨ c.x.st = 4) (done : ∀ s v e c, w.mut s v → w.row s e c → c.x.st = 3 → Nf L v → w.goal s v ≤ (w.G s).U) : nSettled (LL L w.n) := fun i hi => by
  rw [LL_len] at hi
  have n := NI i hi
  unfold setOne
  rw [LL_get hi]
  dsimp only
  have hs : (L i).state = 3 ∨ (L i).state = 4 := by
    by_cases hr : ∃ e c, w.row i e c
    · obtain ⟨e, c, r⟩ := hr
      rw [(n.row e c r).2.1]
      exact st i e c hi r
    · exact .inr (n.norow (fun e c r => hr ⟨e, c, r⟩)).2
  rw [if_neg (by omega)]
  by_cases hp : (L i).peer < 0 ∨ (L i).failed = true
  · rw [if_pos hp]
  rw [if_neg hp]
  have nfi : Nf L i := failed_nf (fun k => hp (.inr k))
  obtain ⟨p, hpp⟩ : ∃ p : Nat, (L i).peer = (p : Int) := ⟨(L i).peer.toNat, by omega⟩
  have hpn : p < w.n := by
    refine I.peer_lt hi (j := p) ?_
    rw [← n.peer]; exact hpp
  rw [hpp, Int.toNat_natCast, LL_get hpn]
  dsimp only
  have np := NI p hpn
  unfold setPair
  by_cases c1 : (L p).peer ≠ (i : Int)
  · rw [if_pos c1]
  rw [if_neg c1]
  by_cases c2 : (L p).failed = true
  · rw [if_pos c2]
  rw [if_neg c2]
  have nfp : Nf L p := failed_nf c2
  have c1 : (L p).peer = (i : Int) := Decidable.not_not.1 c1
  have m : w.mut i p := ⟨hi, hpn, by rw [← n.peer]; exact hpp, by rw [← np.peer]; exact c1⟩
  have gi := I.gh i hi
  have gp := I.gh p hpn
  have pip := I.pair i p m
  have ppi := I.pair p i m.symm
  have hsent := np.c.sent
  have hclo := np.c.closed
  have hrd := n.c.rdl
  -- what is needed, plainly
  have key : ((L i).offered = (w.G i).r ∧ (L i).peerFin = (w.G i).pf ∨ (L i).state = 4) ∧ (((w.N p).sent.length : Int) ≤ (w.G i).r ∨ (w.G i).rd + 16 ≤ (w.G i).r) ∧ ((w.N p).closed = true → (w.G i).r = (w.N p).sent.length → (w.G i).pf = true) ∧ ((w.G i).pf = true → (L p).peerFin = true → (L i).state = 4) ∧ ((L i).state = 4 → (L i).peerFin = true ∧ (L i).offered = (w.N p).sent.length) := by
    have fini : (L i).state = 4 → (w.G i).fa = true ∧ (w.G i).pf = true ∧ (L i).peerFin = true ∧ (L i).offered = (w.N p).sent.length := fun h4 => by
      obtain ⟨a, b, c, d⟩ := n.c.fin h4 (nfi h4)
      exact ⟨a, b, c, d p m⟩
    have full : (w.G i).pf = true → (w.G i).r = (w.N p).sent.length := fun k => by
      obtain ⟨a, b⟩ := ppi.pf k
      rw [b]; exact (gp.f1 a).1
    rcases hs with h3 | h4
    · -- open
      have hr : ∃ e c, w.row i e c := by
        by_cases hr : ∃ e c, w.row i e c
        · exact hr
        · have := (n.norow (fun e c r => hr ⟨e, c, r⟩)).2; omega
      obtain ⟨e, c, r⟩ := hr
      obtain ⟨_, r1, r2, r3⟩ := n.row e c r
      have c3 : c.x.st = 3 := by omega
      obtain ⟨q1, q2⟩ := r3 (fun k => by omega)
      have hU := done i p e c m r c3 nfp
      have nfa : ¬ ((w.G i).fa = true ∧ (w.G i).pf = true) := by
        cases I.sta i hi e c r with
        | syn cl pe o => have := o.st; omega
        | srv q cl pe o => have := o.st; omega
        | well q mm rel wl =>
          rcases wl.st with k | k
          · exact k.2
          · have := k.1; omega
        | bad s4 => omega
      -- the peer has given all that it can
      have give : (((w.N p).sent.length : Int) ≤ (w.G i).r ∨ (w.G i).rd + 16 ≤ (w.G i).r) ∧ ((w.N p).closed = true → (w.G i).r = (w.N p).sent.length → (w.G i).pf = true) := by
        by_cases hp4 : (L p).state = 4
        · obtain ⟨a, _⟩ := np.c.fin hp4 (nfp hp4)
          have hpf := ppi.fa a
          exact ⟨.inl (by rw [full hpf]; exact Int.le_refl _), fun _ _ => hpf⟩
        · have hr : ∃ e c, w.row p e c := by
            by_cases hr : ∃ e c, w.row p e c
            · exact hr
            · exact absurd (np.norow (fun e c r => hr ⟨e, c, r⟩)).2 hp4
          obtain ⟨e', c', r'⟩ := hr
          have s1 := (np.row e' c' r').2.1
          have c3' : c'.x.st = 3 := by
            rcases st p e' c' hpn r' with k | k
            · exact k
            · omega
          have hV := done p i e' c' m.symm r' c3' nfi
          have hu := ppi.ur
          have hrw := gi.rw_
          unfold W.goal at hV
          have hUe : (w.G p).U = (w.G p).u + b2 (w.G p).fa := rfl
          cases hfa : (w.G p).fa with
          | true =>
            have hpf := ppi.fa hfa
            exact ⟨.inl (by rw [full hpf]; exact Int.le_refl _), fun _ _ => hpf⟩
          | false =>
            rw [hfa, b2_f] at hUe
            split at hV
            · rename_i hle
              have hb := b2_b (w.N p).closed
              refine ⟨.inl (by omega), fun hc hr => ?_⟩
              rw [hc, b2_t] at hV
              have := gp.ux; have := gp.xn
              omega
            · refine ⟨.inr (by omega), fun hc hr => by omega⟩
      refine ⟨.inl ⟨q1, q2⟩, give.1, give.2, fun k1 k2 => ?_, fun h4 => by omega⟩
      exfalso
      have hpf := np.c.pfn k2
      obtain ⟨a, b⟩ := pip.pf hpf
      obtain ⟨f1, f2⟩ := gi.f1 a
      have hrw := gp.rw_
      unfold W.goal at hU
      rw [if_pos (by omega), f2, b2_t] at hU
      have hUe : (w.G i).U = (w.G i).u + b2 (w.G i).fa := rfl
      cases hfa : (w.G i).fa with
      | true => exact nfa ⟨hfa, k1⟩
      | false =>
        rw [hfa, b2_f] at hUe
        have := gi.ux
        omega
    · obtain ⟨a, b, c, d⟩ := fini h4
      exact ⟨.inr h4, .inl (by rw [full b]; exact Int.le_refl _), fun _ _ => b, fun _ _ => h4, fun _ => ⟨c, d⟩⟩
  obtain ⟨k1, k2, k3, k4, k5⟩ := key
  have hle : ((L i).rcvd.length : Int) = (w.G i).rd := hrd
  have orr : (L i).offered = (w.G i).r ∨ (L i).offered = (w.N p).sent.length := by
    rcases k1 with k | k
    · exact .inl k.1
    · exact .inr (k5 k).2
  have rS : (w.G i).r ≤ (w.N p).sent.length := by have := ppi.rx; have := gp.xn; omega
  unfold setWant
  rw [hsent, hclo, hle]
  rw [if_neg (by
    split <;> omega), if_neg (by
    rintro ⟨a, b, c⟩
    rcases k1 with k | k
    · have := k3 a (by omega)
      rw [k.2, this] at c; cases c
    · rw [(k5 k).1] at c; cases c), if_neg (by
    rintro ⟨a, b, c⟩
    rcases k1 with k | k
    · rw [k.2] at a
      exact c (k4 a b)
    · exact c k)]
end Go.Proofs.Qxb6500351aGreat
