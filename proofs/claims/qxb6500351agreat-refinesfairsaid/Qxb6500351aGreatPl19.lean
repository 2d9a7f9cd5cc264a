/- THE PLAIN LAW of the whole network, part 2: one connection changes. No Go in sight. -/
import Derived.Test.Qxb6500351aGreatPl18
set_option linter.unusedVariables false
set_option linter.unusedSimpArgs false
namespace Go.Proofs.Qxb6500351aGreat
open Go.Eng
theorem Rel.peer {c : Conn} {g : Gh} {S : List Int} {p p' : Gh} {P P' : List Int} (h : Rel c g S p P) (l : p.Le p') (hx : 0 ≤ p.x ∧ p.x ≤ P.length) (hP : ∃ l, P' = P ++ l ∧ (p.f = true → l = [])) : Rel c g S p' P' := by
  obtain ⟨m, rfl, hm⟩ := hP
  have hle := l.x
  have e : (P ++ m).take p'.x.toNat = P.take p.x.toNat ++ ((P ++ m).take p'.x.toNat).drop p.x.toNat := by
    have h1 := List.take_append_drop p.x.toNat ((P ++ m).take p'.x.toNat)
    rw [List.take_take, Nat.min_eq_left (by omega), List.take_append_of_le_length (by omega)] at h1
    exact h1.symm
  refine ⟨h.ok, h.s, ?_, h.r0, h.f, h.fa, h.pf, h.wc, h.f1, h.fa1, fun k => ?_, h.rdq⟩
  · rw [e, l.iss]; exact h.r.grow h.r0 _
  · obtain ⟨k1, k2⟩ := h.pf1 k
    refine ⟨l.f k1, ?_⟩
    rw [hm k1, List.append_nil]; exact k2
theorem Inv.peer_lt {w : W} (I : Inv w) {i j : Nat} (hi : i < w.n) (h : (w.N i).peer = (j : Int)) : j < w.n := by
  cases hc : (w.N i).client with
  | false =>
    obtain ⟨p, h1, h2, _⟩ := I.kid i hi hc
    omega
  | true =>
    rcases (I.cli i hi hc).2 with k | ⟨p, h1, h2, _⟩
    · omega
    · omega
structure SameId (x y : Ned) : Prop where
  host : y.host = x.host
  sd : y.sd = x.sd
  lp : y.lPort = x.lPort
  rh : y.rHost = x.rHost
  rp : y.rPort = x.rPort
  cl : y.client = x.client
theorem SameId.refl (x : Ned) : SameId x x := ⟨rfl, rfl, rfl, rfl, rfl, rfl⟩
theorem SameId.twin {x y x' y' : Ned} (h : SameId x x') (k : SameId y y') : twin x' y' ↔ twin x y := by
  unfold Go.Proofs.Qxb6500351aGreat.twin; rw [h.host, h.lp, h.rh, h.rp, k.host, k.lp, k.rh, k.rp]
theorem SameId.mir {x y x' y' : Ned} (h : SameId x x') (k : SameId y y') : mir x' y' ↔ mir x y := by
  unfold Go.Proofs.Qxb6500351aGreat.mir; rw [h.host, h.lp, h.rh, h.rp, k.host, k.lp, k.rh, k.rp]
theorem RecOk.mono {w w' : W} {r : Rc} (h : RecOk w r) (hn : w.n ≤ w'.n) (hN : ∀ j, j < w.n → SameId (w.N j) (w'.N j)) (hP : ∀ j, j < w.n → (w.N j).client = false → (w'.N j).peer = (w.N j).peer) (hPm : ∀ a b, w.mut a b → w'.mut a b) (hPo : ∀ a (j : Nat), a < w.n → (w'.N a).peer = (j : Int) → (w.N a).peer = (j : Int) ∨ w'.pres j (6 - (w'.tk j - r.t))) (hpn : ∀ i j : Nat, i < w.n → (w.N i).peer = (j : Int) → j < w.n) (hG : ∀ j, j < w.n → (w.G j).Le (w'.G j))
    (hS : ∀ j, j < w.n → ∃ l, (w'.N j).sent = (w.N j).sent ++ l ∧ ((w.G j).f = true → l = [])) (hx : ∀ j, j < w.n → (w.G j).x ≤ (w.N j).sent.length)
    (hw : ∀ j B, j < w.n → w.win j B → w'.win j (B + 12 * (w'.tk j - w.tk j))) (hp : ∀ j q, j < w.n → 2 ≤ q → q ≤ 10 + (w'.now - w.tk j) → w.pres j q → w'.pres j (q - (w'.tk j - w.tk j))) (ht : r.t ≤ w'.now) (hage : ∀ j, j < w.n → w.tk j ≤ r.t + 4) : RecOk w' r := by
  have seg : ∀ i, w.seg r i → w'.seg r i := fun i s => by
    have := hN i s.hi
    exact ⟨Nat.lt_of_lt_of_le s.hi hn, by rw [this.host]; exact s.src, by rw [this.rh]; exact s.dst, by rw [this.lp]; exact s.sp, by rw [this.rp]; exact s.dp⟩
  have pres : ∀ j k, j < w.n → 6 ≤ k ∧ k ≤ 10 → w.pres j (k - (w.tk j - r.t)) → w'.pres j (k - (w'.tk j - r.t)) := fun j k hj hk h => by
    have := hp j _ hj (by have := hage j hj; omega) (by omega) h
    have e : k - (w.tk j - r.t) - (w'.tk j - w.tk j) = k - (w'.tk j - r.t) := by omega
    rw [e] at this; exact this
  have win : ∀ j k, j < w.n → w.win j (k + 29 + 12 * (w.tk j - r.t + 1)) → w'.win j (k + 29 + 12 * (w'.tk j - r.t + 1)) := fun j k hj h => by
    have := hw j _ hj h
    have e : k + 29 + 12 * (w.tk j - r.t + 1) + 12 * (w'.tk j - w.tk j) = k + 29 + 12 * (w'.tk j - r.t + 1) := by omega
    rw [e] at this; exact this
  cases h with
  | syn i s k cl fl sq da t pr op =>
    have hi := s.hi
    exact .syn i (seg i s) k (by rw [(hN i hi).cl]; exact cl) fl (by rw [(hG i hi).iss]; exact sq) da (by rw [(hG i hi).b]; exact t) (pres i 10 hi (by omega) pr) (fun j hj => by
      rcases hPo i j hi hj with hj | hj
      · exact pres j 6 (hpn i j hi hj) (by omega) (op j hj)
      · exact hj)
  | sa i p s k cl pe fl sq ak da t pr =>
    have hi := s.hi
    exact .sa i p (seg i s) k (by rw [(hN i hi).cl]; exact cl) (by rw [hP i hi cl]; exact pe) fl (by rw [(hG i hi).iss]; exact sq) (by rw [(hG p (hpn i p hi pe)).iss]; exact ak) da (by rw [(hG i hi).b]; exact t) (pres i 10 hi (by omega) pr)
  | est i p k a s kk m v a0 ar kx w1 w2 pr =>
    have hi := s.hi
    have hpp := m.hp
    obtain ⟨l, hl, hl2⟩ := hS i hi
    refine .est i p k a (seg i s) kk (hPm i p m) ?_ a0 (by have := (hG i hi).R; omega) (by have := (hG i hi).X; omega) (win i k hi w1) (win p a hpp w2) ?_
    · rw [(hG p hpp).iss]
      exact v.mono (hG i hi) (hx i hi) ⟨l, hl⟩ (fun hf => by rw [hl, hl2 hf, List.append_nil])
    · rcases pr with pr | ⟨d1, d2, pr⟩
      · exact .inl (pres i 10 hi (by omega) pr)
      · exact .inr ⟨d1, d2, pres p 6 hpp (by omega) pr⟩
  | rst k fl => exact .rst k fl
/-- a client opens towards the child j -/
structure Opens (w : W) (i j : Nat) (pe' : Int) (g : Gh) : Prop where
  none : (w.N i).peer = -1
  cl : (w.N i).client = true
  pe : pe' = (j : Int)
  hj : j < w.n
  kid : (w.N j).client = false
  pj : (w.N j).peer = (i : Int)
  last : ∀ k, k < w.n → twin (w.N j) (w.N k) → k ≤ j
  p1 : PairOk g (w.G j)
  p2 : PairOk (w.G j) g
  pres : w.pres j 6
  tk : w.tk j = w.now
/-- one connection changes -/
structure Chg (w w' : W) (i : Nat) (e1 : En) (c1 : Conn) : Prop where
  hi : i < w.n
  now : w'.now = w.now
  n : w'.n = w.n
  N : ∀ j, j ≠ i → w'.N j = w.N j
  id : SameId (w.N i) (w'.N i)
  pe : (w'.N i).peer = (w.N i).peer ∨ ∃ j, Opens w i j (w'.N i).peer (w'.G i)
  G : ∀ j, j ≠ i → w'.G j = w.G j
  le : (w.G i).Le (w'.G i)
  S : ∃ l, (w'.N i).sent = (w.N i).sent ++ l ∧ ((w.G i).f = true → l = [])
  cl : (w.N i).closed = true → (w'.N i).closed = true
  tk : ∀ j, j ≠ i → w'.tk j = w.tk j
  tki : w'.tk i = w.now
  row0 : ∃ e0 c0, w.row i e0 c0
  row : ∀ j, j < w.n → j ≠ i → ∀ e c, w'.row j e c ↔ w.row j e c
  rowi : w'.row i e1 c1
  tup : e1.tup (w.N i).lPort (w.N i).rHost (w.N i).rPort
  at_ : ∀ h, h < 3 → ∀ sd e, (w'.H h).t.at sd = some e → e.kind = 2 → ∃ e0, (w.H h).t.at sd = some e0 ∧ e0.kind = 2
  nsd : ∀ h, (w.H h).t.nextSd ≤ (w'.H h).t.nextSd
  hinv : ∀ h, h < 3 → HInv (w'.H h) (w'.q h) h
  hT : ∀ h, (w'.H h).clock ≤ w'.now ∧ 0 ≤ (w'.H h).p.credit ∧ (w'.H h).p.credit ≤ 24
  hist : Hist (dgs w'.D) w'.T w'.M w'.C
  nxt : ∀ h, h < 3 → (w'.H h).p.nxt_ = w'.M ((h : Int) + 1) % 256
  ra : ∀ h, h < 3 → RA (w'.H h).p (dgs w'.D) (w'.H h).clock
  sta : Sta w' i e1 c1
  gh : GhOk (w'.G i) (w'.N i)
  new : (∀ p, ¬ w.mut i p) → w'.G i = w.G i ∧ (w'.N i).sent = (w.N i).sent
  pair : ∀ p, w.mut i p → PairOk (w'.G i) (w.G p) ∧ PairOk (w.G p) (w'.G i)
  rd : e1.parent ≠ 0 → e1.ready = (w'.N i).wasOpen
  win : ∀ B, w.win i B → w'.win i (B + 12 * (w.now - w.tk i))
  pres : ∀ q, q ≤ 10 + (w.now - w.tk i) → w.pres i q → w'.pres i (q - (w.now - w.tk i))
  D : ∀ r, r ∈ w'.D → r ∈ w.D ∨ RecOk w' r
  gok : ∀ r, r ∈ w'.D → r.g.Ok
theorem Inv.chg {w w' : W} (I : Inv w) {i : Nat} {e1 : En} {c1 : Conn} (h : Chg w w' i e1 c1) : Inv w' := by
  have hid : ∀ j, SameId (w.N j) (w'.N j) := fun j => by
    by_cases hj : j = i
    · subst hj; exact h.id
    · rw [h.N j hj]; exact SameId.refl _
  have hpk : ∀ j, (w.N j).client = false → (w'.N j).peer = (w.N j).peer := fun j hc => by
    by_cases hj : j = i
    · subst hj
      rcases h.pe with k | ⟨b, k⟩
      · exact k
      · rw [k.cl] at hc; cases hc
    · rw [h.N j hj]
  have hpo : ∀ a (j : Nat), (w'.N a).peer = (j : Int) → (w.N a).peer = (j : Int) ∨ (a = i ∧ Opens w i j (w'.N i).peer (w'.G i)) := fun a j hp => by
    by_cases ha : a = i
    · subst ha
      rcases h.pe with k | ⟨b, k⟩
      · rw [k] at hp; exact .inl hp
      · right
        have : b = j := by have := k.pe; omega
        subst this; exact ⟨rfl, k⟩
    · rw [h.N a ha] at hp; exact .inl hp
  have hpm : ∀ a (j : Nat), (w.N a).peer = (j : Int) → (w'.N a).peer = (j : Int) := fun a j hp => by
    by_cases ha : a = i
    · subst ha
      rcases h.pe with k | ⟨b, k⟩
      · rw [k]; exact hp
      · have := k.none; omega
    · rw [h.N a ha]; exact hp
  have hle : ∀ j, (w.G j).Le (w'.G j) := fun j => by
    by_cases hj : j = i
    · subst hj; exact h.le
    · rw [h.G j hj]; exact Gh.Le.refl _
  have hS : ∀ j, ∃ l, (w'.N j).sent = (w.N j).sent ++ l ∧ ((w.G j).f = true → l = []) := fun j => by
    by_cases hj : j = i
    · subst hj; exact h.S
    · rw [h.N j hj]; exact ⟨[], by simp, fun _ => rfl⟩
  have hmutm : ∀ a b, w.mut a b → w'.mut a b := fun a b m => ⟨by rw [h.n]; exact m.hi, by rw [h.n]; exact m.hp, hpm a b m.ip, hpm b a m.pi⟩
  have hmut : ∀ a b, w'.mut a b → w.mut a b ∨ (a = i ∧ Opens w i b (w'.N i).peer (w'.G i)) ∨ (b = i ∧ Opens w i a (w'.N i).peer (w'.G i)) := fun a b m => by
    have ha := m.hi; have hb := m.hp
    rw [h.n] at ha hb
    rcases hpo a b m.ip with k1 | k1
    · rcases hpo b a m.pi with k2 | k2
      · exact .inl ⟨ha, hb, k1, k2⟩
      · exact .inr (.inr k2)
    · exact .inr (.inl k1)
  have hself : ∀ p, w.mut i p → p ≠ i := fun p m hp => by
    subst hp
    have := I.mut_cl m
    cases hc : (w.N p).client <;> rw [hc] at this <;> cases this
  have habs : ∀ j, j < w.n → (∀ e c, ¬ w'.row j e c) → j ≠ i ∧ ∀ e c, ¬ w.row j e c := fun j hj ha => by
    have hji : j ≠ i := fun hji => by subst hji; exact ha _ _ h.rowi
    exact ⟨hji, fun e c hr => ha e c ((h.row j hj hji e c).2 hr)⟩
  have habs2 : ∀ j, j < w.n → (∀ e c, ¬ w.row j e c) → ∀ e c, ¬ w'.row j e c := fun j hj ha e c hr => by
    by_cases hji : j = i
    · subst hji
      obtain ⟨e0, c0, h0⟩ := h.row0
      exact ha e0 c0 h0
    · exact ha e c ((h.row j hj hji e c).1 hr)
  refine ⟨h.hinv, h.hT, h.hist, h.nxt, h.ra, ?_, ?_, ?_, ?_, ?_, ?_, ?_, ?_, ?_, ?_, ?_, ?_, ?_, ?_, ?_, ?_, ?_, ?_, h.gok⟩
  · -- tkn
    intro j hj
    rw [h.n] at hj
    obtain ⟨a, b, c⟩ := I.tkn j hj
    rw [h.now, (hle j).b]
    by_cases hji : j = i
    · subst hji; rw [h.tki]; omega
    · rw [h.tk j hji]; exact ⟨a, b, c⟩
  · intro j hj
    rw [h.n] at hj; rw [(hid j).host]; exact I.hostR j hj
  · intro hh h3 sd e he hk
    obtain ⟨e0, a, b⟩ := h.at_ hh h3 sd e he hk
    obtain ⟨j, j1, j2, j3⟩ := I.ends hh h3 sd e0 a b
    exact ⟨j, by rw [h.n]; exact j1, by rw [(hid j).host]; exact j2, by rw [(hid j).sd]; exact j3⟩
  · intro j hj e c hr
    rw [h.n] at hj
    rw [(hid j).lp, (hid j).rh, (hid j).rp]
    by_cases hji : j = i
    · subst hji
      rw [(hr.inj h.rowi).1]; exact h.tup
    · exact I.tup j hj e c ((h.row j hj hji e c).1 hr)
  · intro a b ha hb h1 h2
    rw [h.n] at ha hb
    rw [(hid a).host, (hid b).host] at h1
    rw [(hid a).sd, (hid b).sd] at h2
    exact I.uniq a b ha hb h1 h2
  · intro j hj
    rw [h.n] at hj
    obtain ⟨a, b⟩ := I.old j hj
    rw [(hid j).sd]
    have := h.nsd (w.N j).host.toNat
    refine ⟨a, ?_⟩
    unfold W.host at b ⊢
    rw [(hid j).host]; omega
  · intro j hj
    rw [h.n] at hj
    rw [(hid j).rh, (hid j).rp, (hid j).cl, (hid j).lp]; exact I.ports j hj
  · -- sta
    intro j hj e c hr
    rw [h.n] at hj
    by_cases hji : j = i
    · subst hji
      obtain ⟨q1, q2⟩ := hr.inj h.rowi
      rw [q1, q2]; exact h.sta
    · have hr0 := (h.row j hj hji e c).1 hr
      have eN := h.N j hji
      have eG := h.G j hji
      have eT := h.tk j hji
      cases I.sta j hj e c hr0 with
      | syn cl pe o t pa nc wo z zs => exact .syn (by rw [eN]; exact cl) (by rw [eN]; exact pe) (by rw [eG]; exact o) (by rw [eT, eG]; exact t) pa (by rw [eN]; exact nc) (by rw [eN]; exact wo) (by rw [eG]; exact z) (by rw [eN]; exact zs)
      | srv p cl pe o t pa nx nc wo z zs => exact .srv p (by rw [eN]; exact cl) (by rw [eN]; exact pe) (by rw [eG]; exact o) (by rw [eT, eG]; exact t) pa (by rw [(hle p).iss]; exact nx) (by rw [eN]; exact nc) (by rw [eN]; exact wo) (by rw [eG]; exact z) (by rw [eN]; exact zs)
      | well p m r o wc wo b =>
        refine .well p (hmutm j p m) ?_ (by rw [eG]; exact o) (by rw [eN]; exact wc) (by rw [eN]; exact wo) (fun k => by rw [eG, eT]; exact b k)
        rw [eG, eN]
        have gp := I.gh p m.hp
        exact r.peer (hle p) ⟨by have := gp.u0; have := gp.ux; omega, gp.xn⟩ (hS p)
      | bad st why av pf b => exact .bad st why av pf (by rw [eG, eT]; exact b)
  · intro j hj ha
    rw [h.n] at hj
    obtain ⟨a, b⟩ := habs j hj ha
    rw [h.G j a, h.now]; exact I.gone j hj b
  · intro j hj
    rw [h.n] at hj
    by_cases hji : j = i
    · subst hji; exact h.gh
    · rw [h.G j hji, h.N j hji]; exact I.gh j hj
  · intro j hj hno
    rw [h.n] at hj
    have hno' : ∀ p, ¬ w.mut j p := fun p m => hno p (hmutm j p m)
    obtain ⟨a, b⟩ := I.new j hj hno'
    by_cases hji : j = i
    · subst hji
      obtain ⟨c, d⟩ := h.new hno'
      rw [c, d]; exact ⟨a, b⟩
    · rw [h.G j hji, h.N j hji]; exact ⟨a, b⟩
  · intro j hj hc
    rw [h.n] at hj
    rw [(hid j).cl] at hc
    obtain ⟨p, p1, p2, p3, p4, p5, p6⟩ := I.kid j hj hc
    exact ⟨p, p1, by rw [hpk j hc]; exact p2, by rw [(hid p).cl]; exact p3, ((hid j).mir (hid p)).2 p4, by rw [(hle p).b, (hle j).b]; exact p5, by rw [(hle p).b, (hle j).b]; exact p6⟩
  · intro j hj hc
    rw [h.n] at hj
    rw [(hid j).cl] at hc
    obtain ⟨a, b⟩ := I.cli j hj hc
    refine ⟨by rw [(hle j).iss, (hle j).b]; exact a, ?_⟩
    have old : (w'.N j).peer = (w.N j).peer → (w'.N j).peer = -1 ∨ ∃ p : Nat, p < w'.n ∧ (w'.N j).peer = (p : Int) ∧ (w'.N p).client = false ∧ (w'.N p).peer = (j : Int) := fun he => by
      rw [he]
      rcases b with b | ⟨p, p1, p2, p3, p4⟩
      · exact .inl b
      · exact .inr ⟨p, by rw [h.n]; exact p1, p2, by rw [(hid p).cl]; exact p3, by rw [hpk p p3]; exact p4⟩
    by_cases hji : j = i
    · subst hji
      rcases h.pe with k | ⟨b', k⟩
      · exact old k
      · exact .inr ⟨b', by rw [h.n]; exact k.hj, k.pe, by rw [(hid b').cl]; exact k.kid, by rw [hpk b' k.kid]; exact k.pj⟩
    · exact old (by rw [h.N j hji])
  · intro a b hab hb ht
    rw [h.n] at hb
    obtain ⟨q1, q2⟩ := I.ord a b hab hb (((hid a).twin (hid b)).1 ht)
    exact ⟨habs2 a (by omega) q1, by rw [(hle a).b, (hle b).b]; exact q2⟩
  · intro a b m hc j hj hbj ht
    rw [h.n] at hj
    rw [(hid a).cl] at hc
    have ht0 := ((hid b).twin (hid j)).1 ht
    rcases hmut a b m with m0 | ⟨rfl, k⟩ | ⟨rfl, k⟩
    · have hcj : (w.N j).client = false := by
        have h1 := (I.mut_cl m0).symm
        rw [hc] at h1
        have h2 : (w.N b).client = false := by cases hp : (w.N b).client <;> rw [hp] at h1 <;> simp_all
        have h3 := ((I.ports b m0.hp).2.2.2 h2).1
        cases hcj : (w.N j).client with
        | false => rfl
        | true => have h4 := ((I.ports j hj).2.2.1 hcj).1; have := ht0.2.1; omega
      rw [hpk j hcj]
      exact I.p5 a b m0 hc j hj hbj ht0
    · have := k.last j hj ht0; omega
    · rw [k.kid] at hc; cases hc
  · intro a b m
    rcases hmut a b m with m0 | ⟨rfl, k⟩ | ⟨rfl, k⟩
    · by_cases ha : a = i
      · subst ha
        rw [h.G b (hself b m0)]; exact (h.pair b m0).1
      · rw [h.G a ha]
        by_cases hb : b = i
        · subst hb; exact (h.pair a m0.symm).2
        · rw [h.G b hb]; exact I.pair a b m0
    · have hb : b ≠ a := fun e => by subst e; have := k.cl; rw [k.kid] at this; cases this
      rw [h.G b hb]; exact k.p1
    · have hb : a ≠ b := fun e => by subst e; have := k.cl; rw [k.kid] at this; cases this
      rw [h.G a hb]; exact k.p2
  · intro j hj e c hr hp
    rw [h.n] at hj
    by_cases hji : j = i
    · subst hji
      rw [(hr.inj h.rowi).1] at hp ⊢
      exact h.rd hp
    · rw [h.N j hji]; exact I.rd j hj e c ((h.row j hj hji e c).1 hr) hp
  · intro r hr ht
    rw [h.now] at ht
    rcases h.D r hr with h0 | h0
    · have rt : r.t ≤ w.now := by
        have := (I.hist.ok r.dgr (List.mem_map_of_mem h0)).2
        have h2 := (I.hT (r.src - 1).toNat).1
        have e : r.dgr.t = r.t := rfl
        rw [e] at this
        have e2 : w.T r.dgr.src = (w.H (r.src - 1).toNat).clock := rfl
        rw [e2] at this; omega
      refine (I.recs r h0 ht).mono (by rw [h.n]; exact Nat.le_refl _) (fun j _ => hid j) (fun j _ hc => hpk j hc) hmutm (fun a j ha hp => ?_) (fun a b ha hb => I.peer_lt ha hb) (fun j _ => hle j) (fun j _ => hS j) (fun j hj => (I.gh j hj).xn) (fun j B hj hw => ?_) (fun j q hj _ hq hp => ?_) (by rw [h.now]; exact rt) (fun j hj => by have := (I.tkn j hj).1; omega)
      · rcases hpo a j hp with k | ⟨_, k⟩
        · exact .inl k
        · right
          have hji : j ≠ i := fun e => by subst e; have := k.cl; rw [k.kid] at this; cases this
          rw [h.tk j hji, k.tk]
          obtain ⟨e, c, hr, hq⟩ := k.pres
          exact ⟨e, c, (h.row j k.hj hji e c).2 hr, fun h4 => by have := hq h4; omega⟩
      · by_cases hji : j = i
        · subst hji; rw [h.tki]; exact h.win B hw
        · rw [h.tk j hji]
          have e : B + 12 * (w.tk j - w.tk j) = B := by omega
          rw [e]
          refine ⟨by rw [h.G j hji]; exact hw.1, fun e c hr hs => ?_⟩
          rw [h.G j hji]; exact hw.2 e c ((h.row j hj hji e c).1 hr) hs
      · rw [h.now] at hq
        by_cases hji : j = i
        · subst hji; rw [h.tki]; exact h.pres q hq hp
        · rw [h.tk j hji]
          have e : q - (w.tk j - w.tk j) = q := by omega
          rw [e]
          obtain ⟨e, c, hr, hq⟩ := hp
          exact ⟨e, c, (h.row j hj hji e c).2 hr, hq⟩
    · exact h0
end Go.Proofs.Qxb6500351aGreat
