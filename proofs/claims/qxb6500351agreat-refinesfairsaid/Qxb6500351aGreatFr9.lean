/- FAIR WEATHER, part 9: the world's clock ticks. No Go in sight. -/
import Derived.Test.Qxb6500351aGreatFr8
set_option linter.unusedVariables false
set_option linter.unusedSimpArgs false
namespace Go.Proofs.Qxb6500351aGreat
open Go.Eng
section
variable {w w1 w2 w3 w' : W} {L L' : Nat → Ned} {Dn : List Rc} {A B : List Fly}
/-- no connection gives up at the tick that comes -/
def NoTo (w : W) : Prop := ∀ i e c, i < w.n → w.row i e c → c.x.st = 3 → ¬ (c.x.timer = 1 ∧ c.x.retries = 3)
theorem FI.noto (I : Inv w) (NI : ∀ i, i < w.n → NetI w L i) (F : FI w L A B) (nt : NoTo w) : ∀ i e c, i < w.n → w.row i e c → c.x.st ≠ 4 → ¬ (c.x.timer = 1 ∧ c.x.retries = 3) := fun i e c hi r h4 => by
  by_cases h3 : c.x.st = 3
  · exact nt i e c hi r h3
  rintro ⟨k1, k2⟩
  cases F.ph with
  | idle no => exact no i hi e c r
  | syn j hj only e1 c1 row st tm rt =>
    by_cases hij : i = j
    · subst hij; have := (r.inj row).2; rw [this] at k2; omega
    · exact only i hi hij e c r
  | pre j p hj hp pe cl only e1 c1 row st rt e' c' row' st' rt' =>
    by_cases hij : i = j
    · subst hij; have := (r.inj row).2; rw [this] at k2; omega
    · by_cases hip : i = p
      · subst hip; have := (r.inj row').2; rw [this] at k2; omega
      · exact only i hi hij hip e c r
  | pair j p m cl only op s1 s2 z =>
    by_cases hij : i = j
    · subst hij
      cases nf_row F.nf I NI hi r with
      | syn st iss nm => have := m.ip; omega
      | srv st iss cl' z' => rw [cl] at cl'; cases cl'
      | run p mm st => exact h3 st
      | fin p mm st => exact h4 st
    · by_cases hip : i = p
      · subst hip
        cases nf_row F.nf I NI hi r with
        | syn st iss nm => have := m.pi; omega
        | srv st iss cl' z' =>
          obtain ⟨_, _, k⟩ := op e c r st
          rcases k with k | ⟨k, _⟩ <;> omega
        | run p mm st => exact h3 st
        | fin p mm st => exact h4 st
      · exact only i hi hij hip e c r
/-- what a tick does to a row -/
theorem tick_row (I : Inv w) (NI : ∀ i, i < w.n → NetI w L i) (nf : ∀ v, v < w.n → Nf L v) (ntA : ∀ i e c, i < w.n → w.row i e c → c.x.st ≠ 4 → ¬ (c.x.timer = 1 ∧ c.x.retries = 3)) (T : WTick w w1 w2 w3 w') {i : Nat} (hi : i < w.n) {e : En} {c : Conn} (r : w.row i e c) :
    (c.x.st = 4 ∧ c.tick.2 = [] ∧ ((∃ c', w'.row i e c' ∧ c'.x.st = 4 ∧ c'.x.why = c.x.why ∧ c'.x.quiet = max (c.x.quiet - 1) 0) ∨ (NoRow w' i ∧ c.x.quiet ≤ 1))) ∨ (c.x.st ≠ 4 ∧ w'.row i e c.tick.1 ∧ TickE c c.tick.1 ∧ (∀ s, s ∈ c.tick.2 → s.flags / 8 = 0) ∧ (c.x.st ≠ 3 → 2 ≤ c.x.timer → c.tick.2 = [])) := by
  have ok := I.row_c hi r
  obtain ⟨q1, q0, _⟩ := T.rowT I hi r
  by_cases h4 : c.x.st = 4
  · left
    obtain ⟨a1, a2, a3⟩ := Conn.tick_4 h4 ok.x.quiet.1
    refine ⟨h4, a1, ?_⟩
    rcases a2 with k | ⟨k1, k2, k3⟩
    · exact .inr ⟨q0 k, a3 k⟩
    · exact .inl ⟨_, q1 (by omega), k1, k2, k3⟩
  · right
    have st : c.x.st = 1 ∨ c.x.st = 2 ∨ c.x.st = 3 := by
      cases nf_row nf I NI hi r with
      | syn s => exact .inl s
      | srv s => exact .inr (.inl s)
      | run p m s => exact .inr (.inr s)
      | fin p m s => exact absurd s h4
    obtain ⟨b1, b2, b3⟩ := Conn.tick_live ok st (ntA i e c hi r h4)
    exact ⟨h4, q1 (by rw [b1.st]; omega), b1, b2, b3⟩
/-- THE CLOCK TICKS in fair weather -/
theorem FI.tick (I : Inv w) (NI : ∀ i, i < w.n → NetI w L i) (NI' : ∀ i, i < w'.n → NetI w' L' i) (keep : Keep w.n L L') (T : WTick w w1 w2 w3 w') (hD : w'.D = w.D ++ Dn) (hDt : ∀ r, r ∈ Dn → r.t = w.now + 1) (F : FI w L [] B) (nt : NoTo w) : FI w' L' (B ++ frp Dn) [] := by
  have I' := T.inv
  have ev := T.ev
  have n := T.n
  have now := T.now
  have ntA := F.noto I NI nt
  have tr := fun {i : Nat} (hi : i < w.n) {e : En} {c : Conn} (r : w.row i e c) => tick_row I NI F.nf ntA T hi r
  have onlyT := T.onlyT I Dn hD
  -- rows behind come from rows before
  have back : ∀ i e' c', i < w.n → w'.row i e' c' → ∃ e c, w.row i e c ∧ ((c.x.st = 4 ∧ c'.x.st = 4 ∧ c'.x.why = c.x.why ∧ c'.x.quiet = max (c.x.quiet - 1) 0) ∨ (c.x.st ≠ 4 ∧ c' = c.tick.1 ∧ TickE c c')) := fun i e' c' hi r' => by
    obtain ⟨e, c, r, _⟩ := ev.op i e' c' hi r'
    refine ⟨e, c, r, ?_⟩
    rcases tr hi r with ⟨h4, _, ⟨c2, k1, k2, k3, k4⟩ | ⟨k1, _⟩⟩ | ⟨h4, k1, k2, _⟩
    · have := (r'.inj k1).2; subst this
      exact .inl ⟨h4, k2, k3, k4⟩
    · exact absurd r' (k1 e' c')
    · have := (r'.inj k1).2; subst this
      exact .inr ⟨h4, rfl, k2⟩
  have nf' : ∀ v, v < w'.n → Nf L' v := fun v hv => by
    rw [n] at hv
    refine nf_same NI NI' keep I F.nf (by rw [n]; exact Nat.le_refl _) (fun j hj e' c' r' => ?_) (fun j hj hno => ?_) hv
    · obtain ⟨e, c, r, k⟩ := back j e' c' hj r'
      refine ⟨e, c, r, fun h4 => ?_⟩
      rcases k with ⟨_, _, k, _⟩ | ⟨_, _, k⟩
      · exact k
      · exact k.why
    · by_cases hr : ∃ e c, w.row j e c
      · obtain ⟨e, c, r⟩ := hr
        rcases tr hj r with ⟨h4, _⟩ | ⟨_, k, _⟩
        · rw [((NI j hj).row e c r).2.1]; exact h4
        · exact absurd k (hno _ _)
      · exact norow_state NI hj fun e c r => hr ⟨e, c, r⟩
  have fls : ∀ p, p ∈ B ++ frp Dn → FlW w' p 1 := fun p hp => by
    rcases List.mem_append.1 hp with k | k
    · have f := F.fb p k
      exact ⟨by rw [hD]; exact List.mem_append_left _ f.d, by rw [now]; have := f.t; omega, f.f, f.fl⟩
    · obtain ⟨k1, k2⟩ := frp_mem.1 k
      refine ⟨by rw [hD]; exact List.mem_append_right _ k1, by rw [now, hDt _ k1]; omega, k2, ?_⟩
      obtain ⟨i, e, c, hi, r, s, s1, s2⟩ := onlyT p.1 k1
      rw [s2]
      show s.flags / 8 = 0
      rcases tr hi r with ⟨_, k, _⟩ | ⟨_, _, _, k, _⟩
      · rw [k] at s1; exact absurd s1 (by simp)
      · exact k s s1
  -- nothing goes out where no row has anything to say
  have silent : (∀ i e c, i < w.n → w.row i e c → c.tick.2 = []) → Dn = [] := fun h => by
    cases hd : Dn with
    | nil => rfl
    | cons r l =>
      obtain ⟨i, e, c, hi, rr, s, s1, _⟩ := onlyT r (by rw [hd]; simp)
      rw [h i e c hi rr] at s1; exact absurd s1 (by simp)
  have gone : ∀ j, j < w.n → NoRow w j → NoRow w' j := fun j hj hno e' c' r' => by
    obtain ⟨e, c, r, _⟩ := back j e' c' hj r'
    exact hno e c r
  refine ⟨nf', fls, fun p hp => absurd hp (by simp), ?_⟩
  cases F.ph with
  | idle no a b =>
    have hDn := silent fun i e c hi r => absurd r (no i hi e c)
    exact .idle (fun j hj => gone j (by omega) (no j (by omega))) (by rw [b, hDn]; rfl) rfl
  | syn i hi only e c row st tm rt p a => exact absurd a (by simp)
  | pre i p hi hp pe cl only e c row st rt e' c' row' st' rt' tm q wire fl =>
    rcases wire with ⟨a, _⟩ | ⟨_, b, t2⟩
    · exact absurd a (by simp)
    have hDn := silent fun j ej cj hj rj => by
      by_cases hji : j = i
      · subst hji
        have := (rj.inj row).2; subst this
        rcases tr hj rj with ⟨h4, _⟩ | ⟨_, _, _, _, k⟩
        · omega
        · exact k (by omega) (by omega)
      · by_cases hjp : j = p
        · subst hjp
          have := (rj.inj row').2; subst this
          rcases tr hj rj with ⟨h4, _⟩ | ⟨_, _, _, _, k⟩
          · omega
          · exact k (by omega) (by omega)
        · exact absurd rj (only j hj hji hjp ej cj)
    have ri : w'.row i e c.tick.1 ∧ TickE c c.tick.1 := by
      rcases tr hi row with ⟨h4, _⟩ | ⟨_, k1, k2, _⟩
      · omega
      · exact ⟨k1, k2⟩
    have rp : w'.row p e' c'.tick.1 ∧ TickE c' c'.tick.1 := by
      rcases tr hp row' with ⟨h4, _⟩ | ⟨_, k1, k2, _⟩
      · omega
      · exact ⟨k1, k2⟩
    obtain ⟨x1, x2⟩ := ri.2.t2 (by omega)
    obtain ⟨y1, y2⟩ := rp.2.t2 (by omega)
    have pe' : (w'.N p).peer = (i : Int) := by
      rcases ev.pe p hp with k | ⟨k, _⟩
      · rw [k]; exact pe
      · omega
    exact .pre i p (by omega) (by omega) pe' (by rw [(ev.id p hp).cl]; exact cl) (fun j hj h1 h2 => gone j (by omega) (only j (by omega) h1 h2)) e _ ri.1 (by rw [ri.2.st]; exact st) (by rw [x1]; exact rt) e' _ rp.1 (by rw [rp.2.st]; exact st') (by rw [y1]; exact rt') (by rw [x2, y2, tm]) q (.inl ⟨by rw [b, hDn]; rfl, rfl, by rw [x2]; omega⟩) fl
  | pair i p m cl only op s1 s2 z =>
    have m' := ev.mut m
    have qb : ∀ v, v < w.n → ∀ k, 0 ≤ k → k ≤ 9 → Qle w' v k → Qle w v (k + 1) := fun v hv k k0 k9 Q e c r => by
      have ok := (I.row_c hv r).x.quiet
      rcases tr hv r with ⟨h4, _, ⟨c2, a1, a2, a3, a4⟩ | ⟨a1, a2⟩⟩ | ⟨h4, a1, a2, _⟩
      · have := (Q e c2 a1).2
        exact ⟨h4, by omega⟩
      · exact ⟨h4, by omega⟩
      · exact absurd (a2.st.symm.trans (Q e _ a1).1) h4
    have qf : ∀ v, v < w.n → ∀ k, 0 ≤ k → Qle w v (k + 1) → Qle w' v k := fun v hv k k0 Q e' c' r' => by
      obtain ⟨e, c, r, a⟩ := back v e' c' hv r'
      obtain ⟨q1, q2⟩ := Q e c r
      rcases a with ⟨_, a1, _, a2⟩ | ⟨a1, _⟩
      · exact ⟨a1, by omega⟩
      · exact absurd q1 a1
    have ps : ∀ s v, w.mut s v → (∀ e c, w.row s e c → c.x.st = 2 → Endd w v → False) → PS w [] B s v → PS w' (B ++ frp Dn) [] s v := fun s v mm no2 P => by
      have mm' := ev.mut mm
      have pfv : (w'.G v).pf = true → (w.G v).pf = true := fun hp => by
        by_cases hr : ∃ e c, w.row v e c
        · obtain ⟨e, c, r⟩ := hr
          cases nf_row F.nf I NI mm.hp r with
          | syn st iss nm => have := mm.pi; omega
          | fin q mq st rel fa pf => exact pf
          | srv st iss cl z =>
            rcases tr mm.hp r with ⟨h4, _⟩ | ⟨_, a1, a2, _⟩
            · omega
            · cases nf_row nf' I' NI' (by rw [n]; exact mm.hp) a1 with
              | syn st' iss nm => rw [a2.st] at st'; omega
              | srv st' iss cl' z' => rw [z'] at hp; cases hp
              | run q mq st' => rw [a2.st] at st'; omega
              | fin q mq st' => rw [a2.st] at st'; omega
          | run q mq st rel rn nn =>
            rcases tr mm.hp r with ⟨h4, _⟩ | ⟨_, a1, a2, _⟩
            · omega
            · rw [← rel.pf, ← a2.pf]
              cases nf_row nf' I' NI' (by rw [n]; exact mm.hp) a1 with
              | syn st' iss nm => rw [a2.st] at st'; omega
              | srv st' iss cl' z' => rw [a2.st] at st'; omega
              | run q mq st' rel' => exact rel'.pf.trans hp
              | fin q mq st' rel' => exact rel'.pf.trans hp
        · exact (nf_endd F.nf I NI mm.hp fun e c r => absurd ⟨e, c, r⟩ hr).2
      have y1' : (w'.G v).pf = true → (w'.G s).fa = false → ∃ x, x ∈ B ++ frp Dn ∧ FinTok w' s x := fun hp ha => by
        have hp0 := pfv hp
        have ha0 : (w.G s).fa = false := by
          cases h : (w.G s).fa with
          | false => rfl
          | true => have := (ev.g s mm.hi).1.fa h; rw [ha] at this; cases this
        obtain ⟨x, x1, x2⟩ := P.y1 hp0 ha0
        exact ⟨x, List.mem_append_left _ x1, x2.ev ev I I' mm hp0⟩
      refine ⟨by rw [List.append_nil]; exact y1', fun k k0 k8 Q => ?_, fun Q => ?_⟩
      · have Q1 := qb v mm.hp k k0 (by omega) Q
        refine qf s mm.hi (k + 1) (by omega) ?_
        by_cases k7 : k + 1 ≤ 8
        · exact P.y2 (k + 1) (by omega) k7 Q1
        · have Q9 : Qle w v 9 := Q1.mono (by omega)
          rcases P.y3 Q9 with a | ⟨x, x1, _⟩
          · exact (Endd.qle I mm.hi a).mono (by omega)
          · exact absurd x1 (by simp)
      · by_cases he : Endd w' s
        · exact .inl he
        · right
          have Q1 := (qb v mm.hp 9 (by omega) (by omega) Q).endd
          obtain ⟨vfa, vpf⟩ := nf_endd F.nf I NI mm.hp Q1
          have vpf' := (ev.g v mm.hp).1.pf vpf
          refine y1' vpf' ?_
          cases h : (w'.G s).fa with
          | false => rfl
          | true =>
            exfalso
            apply he
            intro e c r
            have spf := (I'.pair v s mm'.symm).fa ((ev.g v mm.hp).1.fa vfa)
            cases nf_row nf' I' NI' (by rw [n]; exact mm.hi) r with
            | syn st iss nm => have := mm'.ip; omega
            | srv st iss cl z => rw [z] at h; cases h
            | run q mq st rel rn nn => exact absurd ⟨h, spf⟩ nn
            | fin q mq st => exact st
    have pz : PZ w' (B ++ frp Dn) [] i p := by
      have sil : Endd w i → Endd w p → Dn = [] := fun a b => silent fun j e c hj r => by
        have h4 : c.x.st = 4 := by
          by_cases h1 : j = i
          · subst h1; exact a e c r
          · by_cases h2 : j = p
            · subst h2; exact b e c r
            · exact absurd r (only j hj h1 h2 e c)
        exact (Conn.tick_4 h4 (I.row_c hj r).x.quiet.1).1
      refine ⟨fun _ _ x hx => absurd hx (by simp), fun a b => ?_, fun a b => ?_⟩
      · have a1 := qb i m.hi 8 (by omega) (by omega) a
        have b1 := qb p m.hp 8 (by omega) (by omega) b
        rw [sil a1.endd b1.endd]
        refine ⟨fun x hx => z.z9 a1 b1 x (by rw [frp_nil, List.append_nil] at hx; exact hx), rfl⟩
      · have a1 := qb i m.hi 7 (by omega) (by omega) a
        have b1 := qb p m.hp 7 (by omega) (by omega) b
        rw [sil a1.endd b1.endd, (z.z8 a1 b1).2]
        exact ⟨rfl, rfl⟩
    refine .pair i p m' (by rw [(ev.id i m.hi).cl]; exact cl) (fun j hj h1 h2 => gone j (by omega) (only j (by omega) h1 h2)) (fun e' c' r' st' => ?_) (ps i p m (fun e c r st k => ?_) s1) (ps p i m.symm (fun e c r st k => ?_) s2) pz
    · obtain ⟨e, c, r, a⟩ := back p e' c' m.hp r'
      rcases a with ⟨_, a1, _⟩ | ⟨a1, _, a2⟩
      · omega
      have st : c.x.st = 2 := by rw [← a2.st]; exact st'
      obtain ⟨⟨ei, ci, ri, sti⟩, ⟨x, x1, x2⟩, k⟩ := op e c r st
      have x1 : x ∈ B := by simpa using x1
      have k : c.x.retries = 0 := by
        rcases k with k | ⟨_, y, y1, _⟩
        · exact k
        · exact absurd y1 (by simp)
      have tok := x2.ev ev m.hp
      have xm : x ∈ B ++ frp Dn := List.mem_append_left _ x1
      refine ⟨?_, ⟨x, by rw [List.append_nil]; exact xm, tok⟩, ?_⟩
      · rcases tr m.hi ri with ⟨h4, _⟩ | ⟨_, b1, b2, _⟩
        · omega
        · exact ⟨ei, _, b1, by rw [b2.st]; exact sti⟩
      · have ok := (I.row_c m.hp r).x
        by_cases t0 : c.x.timer = 0
        · left; rw [a2.t0 t0]; exact k
        · by_cases t1 : c.x.timer = 1
          · right; exact ⟨by rw [(a2.t1 t1).1, k]; rfl, x, xm, tok⟩
          · left; rw [(a2.t2 (by have := ok.timer; omega)).1]; exact k
    · cases nf_row F.nf I NI m.hi r with
      | syn s iss nm => omega
      | srv s iss cl' z => rw [cl] at cl'; cases cl'
      | run q mq s => omega
      | fin q mq s => omega
    · obtain ⟨⟨ei, ci, ri, sti⟩, _⟩ := op e c r st
      have := k ei ci ri; omega
end
end Go.Proofs.Qxb6500351aGreat
