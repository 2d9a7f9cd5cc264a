/- FAIR WEATHER, part 4: a pair of ends when a record comes whole. No Go in sight. -/
import Derived.Test.Qxb6500351aGreatFr3
set_option linter.unusedVariables false
set_option linter.unusedSimpArgs false
namespace Go.Proofs.Qxb6500351aGreat
open Go.Eng
section
variable {w w' : W} {L L' : Nat → Ned} {h : Nat} {r : Rc} {Dn : List Rc} {A B A' B' : List Fly}
/-- what is known when a record comes whole to the row of t -/
structure Come (w w' : W) (L L' : Nat → Ned) (h : Nat) (r : Rc) (Dn : List Rc) (t : Nat) (e0 : En) (c0 : Conn) : Prop where
  d : DStep w w' h r Dn
  NI : ∀ i, i < w.n → NetI w L i
  NI' : ∀ i, i < w'.n → NetI w' L' i
  keep : Keep w.n L L'
  ht : t < w.n
  rt : w.row t e0 c0
  hh : (w.N t).host = (h : Int)
  tu : e0.tup r.g.dp r.src r.g.sp
  fl : r.g.flags / 8 * 8 = 0
  nf : ∀ v, v < w.n → Nf L v
  E : HitE w w' t e0 c0 r Dn
variable {t : Nat} {e0 : En} {c0 : Conn}
theorem Ev.refl' (w : W) : Ev w w := ⟨Nat.le_refl _, fun i _ => SameId.refl _, fun i _ => ⟨rfl, rfl⟩, fun i _ => ⟨Gh.Le.refl _, rfl⟩, fun i _ => .inl rfl, fun i h1 h2 => by omega, fun i e c hi r => ⟨e, c, r, fun h => by omega⟩⟩
theorem Come.row (C : Come w w' L L' h r Dn t e0 c0) {j : Nat} (hj : j < w.n) {e : En} {c : Conn} (rj : w.row j e c) : (j ≠ t ∧ w'.row j e c) ∨ (j = t ∧ c = c0 ∧ ∃ e1, w'.row j e1 (c0.input r.g).1) := by
  by_cases hjt : j = t
  · subst hjt
    obtain ⟨e1, r1⟩ := C.E.row
    exact .inr ⟨rfl, (rj.inj C.rt).2, e1, r1⟩
  · exact .inl ⟨hjt, (C.E.rows j hj hjt e c).2 rj⟩
theorem Come.back (C : Come w w' L L' h r Dn t e0 c0) {j : Nat} (hj : j < w.n) {e : En} {c : Conn} (rj : w'.row j e c) : (j ≠ t ∧ w.row j e c) ∨ (j = t ∧ c = (c0.input r.g).1) := by
  by_cases hjt : j = t
  · subst hjt
    obtain ⟨e1, r1⟩ := C.E.row
    exact .inr ⟨rfl, (rj.inj r1).2⟩
  · exact .inl ⟨hjt, (C.E.rows j hj hjt e c).1 rj⟩
theorem Come.norow (C : Come w w' L L' h r Dn t e0 c0) {j : Nat} (hj : j < w.n) (hn : NoRow w j) : NoRow w' j := fun e c rj => by
  rcases C.back hj rj with ⟨_, k⟩ | ⟨k, _⟩
  · exact hn e c k
  · subst k; exact hn _ _ C.rt
/-- no end has failed -/
theorem Come.nf' (C : Come w w' L L' h r Dn t e0 c0) : ∀ v, v < w'.n → Nf L' v := fun v hv h4 => by
  have hv' : v < w.n := by rw [C.E.n] at hv; exact hv
  have why : ∀ {j : Nat} {e : En} {c : Conn}, j < w.n → w.row j e c → c.x.why = 0 := fun {j e c} hj rj => nf_why C.nf C.d.I C.NI hj rj
  by_cases hr : ∃ e c, w'.row v e c
  · obtain ⟨e, c, rv⟩ := hr
    rw [((C.NI' v hv).row e c rv).2.2.1]
    rcases C.back hv' rv with ⟨_, k⟩ | ⟨k, kc⟩
    · exact why hv' k
    · subst k
      rw [kc, (Conn.input_k c0 C.fl).why]
      exact why C.ht C.rt
  · have hn : ∀ e c, ¬ w'.row v e c := fun e c rv => hr ⟨e, c, rv⟩
    have g := (C.NI' v hv).norow hn
    rw [(C.keep v hv').2 g.1]
    have hn0 : ∀ e c, ¬ w.row v e c := fun e c rv => by
      rcases C.row hv' rv with ⟨_, k⟩ | ⟨_, _, e1, k⟩
      · exact hn _ _ k
      · exact hn _ _ k
    exact C.nf v hv' ((C.NI v hv').norow hn0).2
theorem Come.rs (C : Come w w' L L' h r Dn t e0 c0) {i : Nat} (hi : i < w.n) {e : En} {c : Conn} (ri : w.row i e c) : RowS w i c := nf_row C.nf C.d.I C.NI hi ri
theorem Come.rs' (C : Come w w' L L' h r Dn t e0 c0) {i : Nat} (hi : i < w.n) {e : En} {c : Conn} (ri : w'.row i e c) : RowS w' i c := nf_row C.nf' C.d.I' C.NI' (by rw [C.E.n]; exact hi) ri
theorem Come.qle (C : Come w w' L L' h r Dn t e0 c0) {v : Nat} (hv : v < w.n) {k : Int} (q : Qle w v k) : Qle w' v k := fun e c rv => by
  rcases C.back hv rv with ⟨_, k1⟩ | ⟨k1, k2⟩
  · exact q e c k1
  · subst k1
    have q4 := q e0 c0 C.rt
    rw [k2, (Conn.input_4 q4.1 r.g).1]; exact q4
theorem Come.endd (C : Come w w' L L' h r Dn t e0 c0) {v : Nat} (hv : v < w.n) (q : Endd w v) : Endd w' v := fun e c rv => by
  rcases C.back hv rv with ⟨_, k1⟩ | ⟨k1, k2⟩
  · exact q e c k1
  · subst k1
    have q4 := q e0 c0 C.rt
    rw [k2, (Conn.input_4 q4 r.g).1]; exact q4
theorem Come.qleB (C : Come w w' L L' h r Dn t e0 c0) {v : Nat} (hv : v < w.n) {k : Int} (hk : k ≤ 9) (q : Qle w' v k) : Qle w v k := fun e c rv => by
  rcases C.row hv rv with ⟨_, k1⟩ | ⟨k1, k2, e1, k3⟩
  · exact q e c k1
  · subst k1
    rw [k2]
    have q4 := q e1 _ k3
    have hc := C.rs C.ht C.rt
    rcases Conn.input_st c0 C.fl with s | ⟨s, _⟩ | ⟨s, s2⟩
    · have h4 : c0.x.st = 4 := by rw [← s]; exact q4.1
      rw [(Conn.input_4 h4 r.g).1] at q4; exact q4
    · have := q4.1; omega
    · have := q4.2; omega
theorem Come.mut' (C : Come w w' L L' h r Dn t e0 c0) {s v : Nat} (m : w.mut s v) : w'.mut s v := C.d.ev.mut m
/-- the peer's FIN comes: it is acknowledged -/
theorem Come.fin (C : Come w w' L L' h r Dn t e0 c0) {s v : Nat} (m : w.mut s v) (htv : t = v) (h0 : (w.G v).pf = false) (h1 : (w'.G v).pf = true) : ∃ p, p ∈ frp Dn ∧ FinTok w' s p := by
  subst htv
  have I := C.d.I
  have gok := I.gok r C.d.hr
  have m' := C.mut' m
  have okc := I.row_c C.ht C.rt
  obtain ⟨e1, r1⟩ := C.E.row
  have hc' : (c0.input r.g).1.x.peerFin = true ∧ (c0.input r.g).1.rcvNxt = ((w'.G s).iss + 1 + (w'.G t).R) % 256 := by
    cases C.rs' C.ht r1 with
    | syn st iss nm => have := m'.pi; omega
    | srv st iss cl z => rw [z] at h1; cases h1
    | run p mm st rel rn n =>
      have := m'.symm.right mm; subst this
      exact ⟨rel.pf.trans h1, rel.rcvNxt⟩
    | fin p mm st rel fa pf =>
      have := m'.symm.right mm; subst this
      exact ⟨rel.pf.trans h1, rel.rcvNxt⟩
  obtain ⟨hpf, hrn⟩ := hc'
  have c0pf : c0.x.peerFin = false ∧ (c0.x.st = 2 ∨ c0.x.st = 3) := by
    cases I.sta t C.ht e0 c0 C.rt with
    | syn cl pe => have := m.pi; omega
    | srv p cl pe o => exact ⟨o.pf, .inl o.st⟩
    | well p mm rel wl =>
      refine ⟨rel.pf.trans h0, ?_⟩
      rcases wl.st with k | k
      · exact .inr k.1.st
      · rw [h0] at k; exact absurd k.2.2 (by decide)
    | bad st why => have := nf_why C.nf I C.NI C.ht C.rt; omega
  have key : ∃ g, g ∈ (c0.input r.g).2 ∧ SBare g ∧ g.ack = (c0.input r.g).1.rcvNxt := by
    have e : c0.input r.g = c0.inSync r.g := by
      unfold Conn.input
      rcases c0pf.2 with k | k <;> rw [if_neg (by omega), if_neg (by omega), if_pos (by omega)]
    rw [e] at hpf ⊢
    rcases sync_cases c0 r.g with k | k | ⟨_, k⟩ | ⟨_, k⟩ | ⟨_, k⟩ | ⟨_, _, _, ⟨_, k⟩ | ⟨_, k⟩⟩
    · rw [k] at hpf; exact absurd (show false = true from hpf) (by decide)
    · rw [k] at hpf; rw [c0pf.1] at hpf; cases hpf
    · rw [k] at hpf; rw [c0pf.1] at hpf; cases hpf
    · rw [k] at hpf; rw [c0pf.1] at hpf; cases hpf
    · rw [k] at hpf; rw [c0pf.1] at hpf; cases hpf
    · rw [k] at hpf ⊢; exact Conn.inAck_fin (Conn.ok_opened okc) gok c0pf.1 hpf
    · rw [k] at hpf ⊢; exact Conn.inAck_fin okc gok c0pf.1 hpf
  obtain ⟨g, g1, g2, g3⟩ := key
  obtain ⟨r', a1, a2, a3, a4⟩ := C.E.all g g1
  have hb : SBare r'.g := by rw [a4]; exact g2.stamp e0
  obtain ⟨f, hf⟩ := bare_frame hb.2
  refine ⟨(r', f), frp_mem.2 ⟨a1, by show f ∈ r'.frames; rw [hf]; simp⟩, hb, (ToS.back I m C.rt a2 a3 a4).ev C.d.ev m.hi, ?_⟩
  show r'.g.ack = _
  have e1 : r'.g.ack = g.ack := by rw [a4]; rfl
  have X := (fin_X (w := w') (w' := w') (Ev.refl' w') C.d.I' C.d.I' m' h1).2.1
  obtain ⟨pq1, pq2⟩ := (C.d.I'.pair s t m').pf h1
  have x2 := ((C.d.I'.gh s m'.hi).f1 pq1).1
  have hR : (w'.G t).R = (w'.G s).X := by
    rw [X]; unfold Gh.R; rw [h1, pq2, x2]; rfl
  rw [e1, g3, hrn, hR]
/-- the acknowledgement of its FIN comes: that direction is done -/
theorem Come.tok (C : Come w w' L L' h r Dn t e0 c0) {s v : Nat} (m : w.mut s v) {q : Fly} (hq : q.1 = r) (T : FinTok w s q) (hp : (w.G v).pf = true) : t = s → (w'.G s).fa = true := fun hts => by
  subst hts
  have I := C.d.I
  have m' := C.mut' m
  obtain ⟨X1, X2, X3⟩ := fin_X C.d.ev I C.d.I' m hp
  obtain ⟨e1, r1⟩ := C.E.row
  have to := T.to; rw [hq] at to
  have hb := T.b; unfold FBare at hb; rw [hq] at hb
  have ha := T.ack; rw [hq] at ha
  cases C.rs C.ht C.rt with
  | syn st iss nm => have := m.ip; omega
  | srv st iss cl z => rw [z] at X3; cases X3
  | fin p mm st rel fa pf => exact (C.d.ev.g t m.hi).1.fa fa
  | run p mm st rel rn n =>
    have := m.right mm; subst this
    have hUX := rel.UX
    obtain ⟨_, a2⟩ := C.d.ackA m C.rt rel rn to hb.1 ha hUX.1 (Int.le_refl _) r1
    cases C.rs' C.ht r1 with
    | syn st iss nm => have := m'.ip; omega
    | srv st' iss cl z => rw [z] at X1; have := X2; rcases Conn.input_st c0 C.fl with k | ⟨k, _⟩ | ⟨k, _⟩ <;> omega
    | fin p mm st rel fa pf => exact fa
    | run p mm' st' rel' rn' n' =>
      have hU := a2 st'
      have g' := C.d.I'.gh t m'.hi
      have hse := (C.d.ev.se t m.hi).1
      cases hfa : (w'.G t).fa with
      | true => rfl
      | false =>
        exfalso
        have ux := g'.ux; have xn := g'.xn
        rw [hse] at xn
        unfold Gh.U at hU
        rw [hfa] at hU
        have : b2 false = 0 := rfl
        omega
/-- ONE DIRECTION: what s is owed -/
theorem Come.ps (C : Come w w' L L' h r Dn t e0 c0) {s v : Nat} (m : w.mut s v) (tsv : t = s ∨ t = v) (P : PS w A B s v) {q : Fly} (hq : q.1 = r) (hA : ∀ x, x ∈ A → x = q ∨ x ∈ A') (hB : ∀ x, x ∈ B → x ∈ B') (hD : ∀ x, x ∈ frp Dn → x ∈ B') : PS w' A' B' s v := by
  have I := C.d.I
  have m' := C.mut' m
  -- the token, if it comes, goes to s
  have tos : ∀ x : Fly, x = q → FinTok w s x → t = s := fun x hx T => by
    subst hx
    have to := T.to; rw [hq] at to
    rcases tsv with k | k
    · exact k
    · exfalso
      subst k
      have := to.dst
      have d0 := C.d.hd
      have c1 := C.tu
      have tp := I.tup t C.ht e0 c0 C.rt
      refine ToS.ne I m to ⟨by rw [d0, C.hh], by rw [← c1.2.1]; exact tp.2.1, by rw [← c1.1]; exact tp.1, by rw [← c1.2.2]; exact tp.2.2⟩
  refine ⟨fun hp ha => ?_, fun k k0 k8 Q => ?_, fun Q => ?_⟩
  · have ha0 : (w.G s).fa = false := by
      cases h : (w.G s).fa with
      | false => rfl
      | true => have := (C.d.ev.g s m.hi).1.fa h; rw [ha] at this; cases this
    cases hp0 : (w.G v).pf with
    | true =>
      obtain ⟨x, x1, x2⟩ := P.y1 hp0 ha0
      have T' := x2.ev C.d.ev I C.d.I' m hp0
      rcases List.mem_append.1 x1 with k | k
      · rcases hA x k with k | k
        · have := C.tok m (by rw [k]; exact hq) x2 hp0 (tos x k x2)
          rw [ha] at this; cases this
        · exact ⟨x, List.mem_append_left _ k, T'⟩
      · exact ⟨x, List.mem_append_right _ (hB x k), T'⟩
    | false =>
      have htv : t = v := by
        by_cases htv : t = v
        · exact htv
        exfalso
        by_cases hr : ∃ e c, w.row v e c
        · obtain ⟨e, c, rv⟩ := hr
          have rv' : w'.row v e c := by
            rcases C.row m.hp rv with ⟨_, k⟩ | ⟨k, _⟩
            · exact k
            · exact absurd k.symm htv
          have e1 : c.x.peerFin = true := by
            cases C.rs' m.hp rv' with
            | syn st iss nm => have := m'.pi; omega
            | srv st iss cl z => rw [z] at hp; cases hp
            | run p mm st rel => exact rel.pf.trans hp
            | fin p mm st rel => exact rel.pf.trans hp
          cases I.sta v m.hp e c rv with
          | syn cl pe => have := m.pi; omega
          | srv p cl pe o => rw [o.pf] at e1; cases e1
          | well p mm rel => rw [rel.pf, hp0] at e1; cases e1
          | bad st why => have := nf_why C.nf I C.NI m.hp rv; omega
        · have := (nf_endd C.nf I C.NI m.hp (fun e c rv => absurd ⟨e, c, rv⟩ hr)).2
          rw [hp0] at this; cases this
      obtain ⟨x, x1, x2⟩ := C.fin m htv hp0 hp
      exact ⟨x, List.mem_append_right _ (hD x x1), x2⟩
  · exact C.qle m.hi (P.y2 k k0 k8 (C.qleB m.hp (by omega) Q))
  · have Q0 := C.qleB m.hp (by omega) Q
    rcases P.y3 Q0 with k | ⟨x, x1, x2⟩
    · exact .inl (C.endd m.hi k)
    · obtain ⟨vfa, vpf⟩ := nf_endd C.nf I C.NI m.hp Q0.endd
      rcases hA x x1 with k | k
      · left
        have hts := tos x k x2
        have sfa := C.tok m (by rw [k]; exact hq) x2 vpf hts
        have spf0 := (I.pair v s m.symm).fa vfa
        have spf := (C.d.ev.g s m.hi).1.pf spf0
        intro e c rs
        cases C.rs' m.hi rs with
        | syn st iss nm => have := m'.ip; omega
        | srv st iss cl z => rw [z] at sfa; cases sfa
        | run p mm st rel rn n => exact absurd ⟨sfa, spf⟩ n
        | fin p mm st => exact st
      · exact .inr ⟨x, k, x2.ev C.d.ev I C.d.I' m vpf⟩
theorem Come.pz (C : Come w w' L L' h r Dn t e0 c0) {s v : Nat} (m : w.mut s v) (tsv : t = s ∨ t = v) (Z : PZ w A B s v) {q : Fly} (hq : q.1 = r) (hqA : q ∈ A) (hA : ∀ x, x ∈ A' → x ∈ A) (hB : B' = B ++ frp Dn) : PZ w' A' B' s v := by
  have st4 : ∀ k, k ≤ 9 → Qle w' s k → Qle w' v k → Qle w s k ∧ Qle w v k ∧ c0.x.st = 4 := fun k hk a b => by
    have a0 := C.qleB m.hi hk a
    have b0 := C.qleB m.hp hk b
    refine ⟨a0, b0, ?_⟩
    rcases tsv with k | k
    · subst k; exact (a0 e0 c0 C.rt).1
    · subst k; exact (b0 e0 c0 C.rt).1
  refine ⟨fun a b p hp => ?_, fun a b => ?_, fun a b => ?_⟩
  · obtain ⟨a0, b0, h4⟩ := st4 9 (by omega) a b
    rw [hB] at hp
    rcases List.mem_append.1 hp with k | k
    · exact Z.z9 a0 b0 p k
    · obtain ⟨k1, _⟩ := frp_mem.1 k
      obtain ⟨g, g1, g2⟩ := C.E.only p.1 k1
      unfold FBare; rw [g2]
      exact ((Conn.input_4 h4 r.g).2.1 g g1).stamp e0
  · obtain ⟨a0, b0, h4⟩ := st4 8 (by omega) a b
    obtain ⟨z1, z2⟩ := Z.z8 a0 b0
    have hb : SBare r.g := by have := z1 q hqA; unfold FBare at this; rw [hq] at this; exact this
    have h0 := (Conn.input_4 h4 r.g).2.2 (.inl hb)
    have hDn : Dn = [] := by
      cases hD : Dn with
      | nil => rfl
      | cons x l =>
        obtain ⟨g, g1, _⟩ := C.E.only x (by rw [hD]; simp)
        rw [h0] at g1; exact absurd g1 (by simp)
    exact ⟨fun p hp => z1 p (hA p hp), by rw [hB, z2, hDn]; rfl⟩
  · obtain ⟨a0, b0, h4⟩ := st4 7 (by omega) a b
    have := (Z.z7 a0 b0).1
    rw [this] at hqA; exact absurd hqA (by simp)
end
end Go.Proofs.Qxb6500351aGreat
