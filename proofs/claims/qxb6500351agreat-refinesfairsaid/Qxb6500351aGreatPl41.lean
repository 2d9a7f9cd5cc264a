/- THE PLAIN LAW of the abstract network, part 4: from a step to a look. No Go in sight. -/
import Derived.Test.Qxb6500351aGreatPl40
set_option linter.unusedVariables false
set_option linter.unusedSimpArgs false
namespace Go.Proofs.Qxb6500351aGreat
open Go.Eng
/-- what may happen to an end between two looks -/
structure EndStep (w w' : W) (del : Nat → Int) (L L' : Nat → Ned) (i : Nat) : Prop where
  id : SameId (w.N i) (w'.N i)
  idL : SameId (L i) (L' i)
  vis : (L' i).gone = (L i).gone ∧ (L' i).state = (L i).state ∧ (L' i).why = (L i).why ∧ (L' i).peer = (L i).peer ∧ (L' i).wasOpen = (L i).wasOpen ∧ (L' i).offered = (L i).offered ∧ (L' i).peerFin = (L i).peerFin
  sent : (L' i).sent = (w'.N i).sent
  closed : (L' i).closed = (w'.N i).closed
  ext : (w.N i).sent <+: (w'.N i).sent
  fix : (w.N i).closed = true → (w'.N i).sent = (w.N i).sent
  rcvd : (L' i).rcvd = (L i).rcvd ∨ ∃ p, w.mut i p ∧ (L' i).rcvd <+: (w.N p).sent
  rdl : ((L' i).rcvd.length : Int) = (w'.G i).rd
  gle : (w.G i).Le (w'.G i)
  pe : (w'.N i).peer = (w.N i).peer ∨ (w'.n = w.n ∧ (w.N i).peer = -1 ∧ (w.N i).client = true)
  stay : ∀ e0 c0, w.row i e0 c0 → (∃ e1 c1, w'.row i e1 c1 ∧ mayStep c0.x.st c1.x.st = true ∧ (c0.x.st = 4 → c1.x.why = c0.x.why ∨ (c0.x.why = 0 ∧ c1.x.why = 20)) ∧ (w'.N i).wasOpen = ((w.N i).wasOpen || decide (c1.x.st = 3)) ∧
      (((w'.N i).peer = (w.N i).peer ∧ ¬ (c0.x.st ≠ 3 ∧ c1.x.st = 3)) ∨ (c0.x.st ≠ 3 ∧ c1.x.st = 3 ∧ del (w.N i).host.toNat ≠ 0 ∧ w'.n = w.n ∧ (∀ j, j < w.n → j ≠ i → (w'.N j).peer = (w.N j).peer) ∧ ∃ p : Nat, (w'.N i).peer = (p : Int) ∧ p < w.n ∧ ((w.N i).client = true → ∀ k, k < w'.n → twin (w'.N p) (w'.N k) → k ≤ p)))) ∨
    ((∀ e c, ¬ w'.row i e c) ∧ c0.x.st = 4 ∧ (w'.N i).peer = (w.N i).peer ∧ (w'.N i).wasOpen = (w.N i).wasOpen)
  absent : (∀ e c, ¬ w.row i e c) → (∀ e c, ¬ w'.row i e c) ∧ (w'.N i).peer = (w.N i).peer ∧ (w'.N i).wasOpen = (w.N i).wasOpen
section
variable {w w' : W} {del : Nat → Int} {L L' : Nat → Ned}
theorem SameId.trans {x y z : Ned} (a : SameId x y) (b : SameId y z) : SameId x z := ⟨b.host.trans a.host, b.sd.trans a.sd, b.lp.trans a.lp, b.rh.trans a.rh, b.rp.trans a.rp, b.cl.trans a.cl⟩
theorem SameId.sym {x y : Ned} (a : SameId x y) : SameId y x := ⟨a.host.symm, a.sd.symm, a.lp.symm, a.rh.symm, a.rp.symm, a.cl.symm⟩
theorem EndStep.netC (I : Inv w) (E : ∀ i, i < w.n → EndStep w w' del L L' i) (mm : ∀ i p, i < w.n → w'.mut i p → p < w.n) {i : Nat} (hi : i < w.n) (C : NetC w L i) : NetC w' L' i := by
  have e := E i hi
  refine ⟨(e.id.sym.trans C.id).trans e.idL, e.sent, e.closed, fun hc => ?_, e.rdl, fun p m => ?_, ?_, fun hp => ?_, fun h4 hw => ?_⟩
  · have hc0 : (w.N i).client = false := by rw [← e.id.cl]; exact hc
    rw [e.vis.2.2.2.1, C.kid hc0]
    rcases e.pe with k | ⟨_, k, k2⟩
    · exact k.symm
    · rw [hc0] at k2; cases k2
  · have hpn := mm i p hi m
    by_cases hq : ∃ q, w.mut i q
    · obtain ⟨q, mq⟩ := hq
      have hqp : q = p := by
        have h1 := mq.ip
        have h2 := m.ip
        rcases e.pe with k | ⟨_, k, _⟩
        · omega
        · omega
      subst hqp
      have ex := (E q hpn).ext
      rcases e.rcvd with k | ⟨q', k1, k2⟩
      · rw [k]; exact (C.pre q mq).trans ex
      · have : q' = q := W.mut.right k1 mq
        subst this; exact k2.trans ex
    · have hn := (I.new i hi (fun p m => hq ⟨p, m⟩)).1
      have : (L' i).rcvd = [] := by
        rcases e.rcvd with k | ⟨q', k1, k2⟩
        · rw [k]
          have := C.rdl
          rw [hn] at this
          have : ((L i).rcvd.length : Int) = 0 := this
          exact List.eq_nil_of_length_eq_zero (by omega)
        · exact absurd ⟨q', k1⟩ hq
      rw [this]; exact List.nil_prefix
  · rw [e.vis.2.2.2.2.2.1]
    have := C.off; have := e.gle.r; omega
  · rw [e.vis.2.2.2.2.2.2] at hp
    exact e.gle.pf (C.pfn hp)
  · rw [e.vis.2.1] at h4
    rw [e.vis.2.2.1] at hw
    obtain ⟨f1, f2, f3, f4⟩ := C.fin h4 hw
    refine ⟨e.gle.fa f1, e.gle.pf f2, by rw [e.vis.2.2.2.2.2.2]; exact f3, fun p m => ?_⟩
    have hpn := mm i p hi m
    have hq : ∃ q, w.mut i q := by
      by_cases hq : ∃ q, w.mut i q
      · exact hq
      · have hn := (I.new i hi (fun p m => hq ⟨p, m⟩)).1
        rw [hn] at f2; exact absurd (show false = true from f2) (by decide)
    obtain ⟨q, mq⟩ := hq
    have hqp : q = p := by
      have h1 := mq.ip
      have h2 := m.ip
      rcases e.pe with k | ⟨_, k, _⟩
      · omega
      · omega
    subst hqp
    rw [e.vis.2.2.2.2.2.1, f4 q mq]
    have hc := ((I.gh q mq.hp).f1 ((I.pair q i mq.symm).pf f2).1).2
    rw [(E q hpn).fix hc]
theorem EndStep.netP (I : Inv w) (E : ∀ i, i < w.n → EndStep w w' del L L' i) (NI : ∀ i, i < w.n → NetI w L i) (hn : w.n ≤ w'.n) {j : Nat} (hj : j < w.n) (C' : NetC w' L' j) : NetP w' L' del j := by
  have e := E j hj
  have n := NI j hj
  refine ⟨C', fun e1 c1 r1 => ?_, fun ha => ?_⟩
  · by_cases hr : ∃ e0 c0, w.row j e0 c0
    · obtain ⟨e0, c0, r0⟩ := hr
      obtain ⟨n1, n2, n3, n4⟩ := n.row e0 c0 r0
      rcases e.stay e0 c0 r0 with ⟨e2, c2, r2, s1, s2, s3, s4⟩ | ⟨ab, _⟩
      · have := (r1.inj r2).2
        subst this
        obtain ⟨v1, v2, v3, v4, v5, v6, v7⟩ := e.vis
        refine ⟨by rw [v1]; exact n1, by rw [v2, n2]; exact s1, fun h4 => ?_, by rw [s3, v5, n.wo], ?_⟩
        · rw [v2, n2] at h4
          rw [v3, n3]; exact s2 h4
        · rcases s4 with ⟨a, b⟩ | ⟨a, b, c, d, e', f⟩
          · refine .inl ⟨by rw [v4, n.peer, a], by rw [v2, n2]; exact b⟩
          · obtain ⟨p, f1, f2, f3⟩ := f
            refine .inr ⟨by rw [v2, n2]; exact a, b, ?_, fun k hk hkj => ?_, p, f1, by omega, fun hc => f3 (by rw [← e.id.cl]; exact hc)⟩
            · rw [e.idL.host, n.c.id.host]; exact c
            · rw [d] at hk
              rw [(E k hk).vis.2.2.2.1, (NI k hk).peer, e' k hk hkj]
      · exact absurd r1 (ab e1 c1)
    · exact absurd r1 ((e.absent (fun a b r => hr ⟨a, b, r⟩)).1 e1 c1)
  · obtain ⟨v1, v2, v3, v4, v5, v6, v7⟩ := e.vis
    by_cases hr : ∃ e0 c0, w.row j e0 c0
    · obtain ⟨e0, c0, r0⟩ := hr
      obtain ⟨n1, n2, n3, n4⟩ := n.row e0 c0 r0
      rcases e.stay e0 c0 r0 with ⟨e2, c2, r2, _⟩ | ⟨_, b, c, d⟩
      · exact absurd r2 (ha e2 c2)
      · exact ⟨by rw [v2, n2]; exact b, by rw [v4, n.peer, c], by rw [v5, n.wo, d]⟩
    · have h0 : ∀ a b, ¬ w.row j a b := fun a b r => hr ⟨a, b, r⟩
      obtain ⟨_, b, c⟩ := e.absent h0
      exact ⟨by rw [v2]; exact (n.norow h0).2, by rw [v4, n.peer, b], by rw [v5, n.wo, c]⟩
/-- FROM A STEP TO A LOOK -/
theorem stage_of (I : Inv w) (E : ∀ i, i < w.n → EndStep w w' del L L' i) (NI : ∀ i, i < w.n → NetI w L i) (hn : w'.n = w.n ∨ ∃ hb, BornAt w' del w.n hb) : Stage w' del L' w.n 0 := by
  have mm : ∀ i p, i < w.n → w'.mut i p → p < w.n := fun i p hi m => by
    rcases hn with k | ⟨hb, B⟩
    · have := m.hp; omega
    · rcases (E i hi).pe with q | ⟨q, _⟩
      · have h1 := m.ip
        rw [q] at h1
        exact I.peer_lt hi h1
      · have := B.n; omega
  have hnn : w.n ≤ w'.n := by
    rcases hn with k | ⟨hb, B⟩
    · omega
    · have := B.n; omega
  have C' : ∀ i, i < w.n → NetC w' L' i := fun i hi => EndStep.netC I E mm hi (NI i hi).c
  refine ⟨C', fun j hj hh => ?_, fun j hj _ => EndStep.netP I E NI hnn hj (C' j hj), mm, ?_⟩
  · have := (I.hostR j hj).1
    rw [(E j hj).id.host] at hh; omega
  · rcases hn with k | ⟨hb, B⟩
    · exact .inl k.symm
    · exact .inr ⟨hb, Nat.zero_le _, B⟩
/-- a new client's end, written down before the look -/
theorem stage_con (I : Inv w) (I' : Inv w') (E : ∀ i, i < w.n → EndStep w w' del L L' i) (NI : ∀ i, i < w.n → NetI w L i) (hn : w'.n = w.n + 1) {h : Int} {e : En} {c : Conn} (hN : w'.N w.n = conN h e) (hL : L' w.n = conN h e) (r : w'.row w.n e c) (st : c.x.st = 1) : Stage w' del L' w'.n 0 := by
  have np : ∀ i, ¬ w'.mut i w.n := fun i m => by
    have := m.pi
    rw [hN] at this
    have : (-1 : Int) = (i : Int) := this
    omega
  have mm : ∀ i p, i < w.n → w'.mut i p → p < w.n := fun i p hi m => by
    have h1 := m.hp
    by_cases hp : p = w.n
    · subst hp; exact absurd m (np i)
    · omega
  have C' : ∀ i, i < w.n → NetC w' L' i := fun i hi => EndStep.netC I E mm hi (NI i hi).c
  have hnew : w'.G w.n = Gh.new (w'.G w.n).iss (w'.G w.n).b := (I'.new w.n (by omega) (fun p m => np p m.symm)).1
  have hg0 : (w'.G w.n).r = 0 ∧ (w'.G w.n).rd = 0 := by rw [hnew]; exact ⟨rfl, rfl⟩
  have Cn : NetC w' L' w.n := by
    refine ⟨by rw [hL, hN]; exact SameId.refl _, by rw [hL, hN], by rw [hL, hN], fun hc => by rw [hN] at hc; exact absurd (show true = false from hc) (by decide), by rw [hL, hg0.2]; rfl, fun p m => absurd m.symm (np p), by rw [hL, hg0.1]; exact ⟨Int.le_refl _, Int.le_refl _⟩, fun hp => by rw [hL] at hp; exact absurd (show false = true from hp) (by decide), fun h4 => by rw [hL] at h4; exact absurd (show (1 : Int) = 4 from h4) (by decide)⟩
  have Call : ∀ i, i < w'.n → NetC w' L' i := fun i hi => by
    by_cases h : i = w.n
    · subst h; exact Cn
    · exact C' i (by omega)
  refine ⟨Call, fun j hj hh => ?_, fun j hj _ => ?_, fun i p hi m => m.hp, .inl rfl⟩
  · have := (I'.hostR j hj).1; omega
  · by_cases hjn : j = w.n
    · subst hjn
      refine ⟨Cn, fun e1 c1 r1 => ?_, fun ha => absurd r (ha e c)⟩
      rw [(r1.inj r).2, hL, hN]
      refine ⟨rfl, ?_, fun h4 => absurd (show (1 : Int) = 4 from h4) (by decide), ?_, .inl ⟨rfl, fun k => ?_⟩⟩
      · show mayStep 1 c.x.st = true
        rw [st]; rfl
      · show false = (false || decide (c.x.st = 3))
        rw [st]; rfl
      · have := k.2; omega
    · exact EndStep.netP I E NI (by omega) (by omega) (C' j (by omega))
end
/-! ### the whole look, as a list -/
structure LookN (del : Nat → Int) (H : Hst) (h : Int) (l l1 l2 : List Ned) : Prop where
  rows : lookRows del H h H.t.list l = some l1
  gone : l2 = goneTo h H.t.list l1 l1.length
  unl : ∀ (k : Nat) x, (goneTo h H.t.list l1 k)[k]? = some x → k < l1.length → goneP h H.t.list x = true → nUnl (goneTo h H.t.list l1 k) (k : Int) = true
theorem look_n {w : W} (I : Inv w) (kc : KC w) {del : Nat → Int} {L : Nat → Ned} {m h : Nat} (h3 : h < 3) (S : Stage w del L m h) : ∃ l1 L' m', LookN del (w.H h) h (LL L m) l1 (LL L' m') ∧ Stage w del L' m' (h + 1) ∧ m ≤ m' ∧ ∀ j, j < m → (∀ e c, ¬ w.row j e c) → (L' j).why = (L j).why := by
  obtain ⟨L1, L', m', a, b, c, d, hmm, dw⟩ := look_host I kc h3 S
  have g : ∀ k, k ≤ m' → goneTo h (w.H h).t.list (LL L1 m') k = LL (goneL h (w.H h).t.list L1 k) m' := by
    intro k hk
    -- the marking of the first k, read off the marking's own law
    have key : ∀ (k : Nat), k ≤ m' → (∀ j, j < k → goneP h (w.H h).t.list (goneL h (w.H h).t.list L1 j j) = true → nUnl (LL (goneL h (w.H h).t.list L1 j) m') j = true) → goneTo h (w.H h).t.list (LL L1 m') k = LL (goneL h (w.H h).t.list L1 k) m' := by
      intro k
      induction k with
      | zero =>
        intro _ _
        have : goneL h (w.H h).t.list L1 0 = L1 := by funext j; unfold goneL; rw [if_neg (by omega)]
        rw [this]; rfl
      | succ k ih =>
        intro hk hu
        have hkm : k < m' := by omega
        have hLk : goneL h (w.H h).t.list L1 k k = L1 k := by unfold goneL; rw [if_neg (by omega)]
        simp only [goneTo]
        rw [ih (by omega) (fun j hj => hu j (by omega))]
        unfold goneStep
        rw [LL_get hkm]
        dsimp only
        have hunl := hu k (by omega)
        rw [hLk] at hunl ⊢
        by_cases hg : goneP h (w.H h).t.list (L1 k) = true
        · rw [if_pos hg]
          unfold nUnlisted
          rw [if_pos (hunl hg)]
          unfold nUpd
          rw [Int.toNat_natCast, LL_get hkm]
          dsimp only
          rw [hLk, LL_set, if_pos (by omega)]
          congr 1
          funext j
          unfold upA goneL
          by_cases hj : j = k
          · subst hj; rw [if_pos rfl, if_pos ⟨by omega, hg⟩]
          · rw [if_neg hj]
            by_cases hx : j < k ∧ goneP h (w.H h).t.list (L1 j) = true
            · rw [if_pos hx, if_pos ⟨by omega, hx.2⟩]
            · rw [if_neg hx, if_neg (fun k' => hx ⟨by omega, k'.2⟩)]
        · rw [if_neg hg]
          congr 1
          funext j
          unfold goneL
          by_cases hx : j < k ∧ goneP h (w.H h).t.list (L1 j) = true
          · rw [if_pos hx, if_pos ⟨by omega, hx.2⟩]
          · rw [if_neg hx, if_neg]
            intro k'
            by_cases hj : j = k
            · subst hj; exact hg k'.2
            · exact hx ⟨by omega, k'.2⟩
    exact key k hk (fun j hj => c j (by omega))
  refine ⟨LL L1 m', L', m', ⟨a, by rw [LL_len]; exact b.symm, fun k x hx hk hg => ?_⟩, d, hmm, dw⟩
  rw [LL_len] at hk
  rw [g k (by omega), LL_get hk] at hx
  cases hx
  rw [g k (by omega)]
  exact c k hk hg
/-- A LOOK AT THE WORLD -/
theorem look_all {w : W} (I : Inv w) (kc : KC w) {del : Nat → Int} {L : Nat → Ned} {m : Nat} (S : Stage w del L m 0) : ∃ l1 l2 l3 l4 l5 L', LookN del (w.H 0) 0 (LL L m) l1 l2 ∧ LookN del (w.H 1) 1 l2 l3 l4 ∧ LookN del (w.H 2) 2 l4 l5 (LL L' w.n) ∧ (∀ i, i < w.n → NetI w L' i) ∧ ∀ j, j < m → (∀ e c, ¬ w.row j e c) → (L' j).why = (L j).why := by
  obtain ⟨l1, L1, m1, a1, S1, q1, v1⟩ := look_n I kc (by omega) S
  obtain ⟨l2, L2, m2, a2, S2, q2, v2⟩ := look_n I kc (by omega) S1
  obtain ⟨l3, L3, m3, a3, S3, q3, v3⟩ := look_n I kc (by omega) S2
  have hm : m3 = w.n := by
    rcases S3.hm with k | ⟨hb, k, B⟩
    · exact k
    · have h1 := B.host
      have h2 := I.hostR m3 (by have := B.n; omega)
      omega
  subst hm
  exact ⟨l1, _, l2, _, l3, L3, a1, a2, a3, fun i hi => S3.done i hi (by have := I.hostR i hi; omega), fun j hj ha => by rw [v3 j (by omega) ha, v2 j (by omega) ha, v1 j hj ha]⟩
end Go.Proofs.Qxb6500351aGreat
