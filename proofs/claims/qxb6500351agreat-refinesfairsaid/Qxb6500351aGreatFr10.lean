/- FAIR WEATHER, part 10: nobody gives up waiting. No Go in sight. -/
import Derived.Test.Qxb6500351aGreatFr9
set_option linter.unusedVariables false
set_option linter.unusedSimpArgs false
namespace Go.Proofs.Qxb6500351aGreat
open Go.Eng
/-- an acknowledgement that is not old -/
structure Ack0 (w : W) (r : Rc) (s : Nat) : Prop where
  to : ToS w r s
  fl : r.g.flags = 2
  a : ∃ a, r.g.ack = ((w.G s).iss + 1 + a) % 256 ∧ (w.G s).U ≤ a ∧ a ≤ (w.G s).X
/-- what v will acknowledge -/
structure Dat0 (w : W) (r : Rc) (v : Nat) : Prop where
  row : ∃ e c, w.row v e c
  to : ToS w r v
  kind : (r.g.flags = 2 ∧ 0 < r.g.data.length) ∨ r.g.flags = 6
/-- what keeps an open end from giving up; P is to come, Q was put out -/
inductive TS (w : W) (P Q : List Rc) (s v : Nat) (c : Conn) (R : Int) : Prop
  | zero (h : c.x.retries = 0)
  | ack (h : c.x.retries ≤ 1 ∨ R ≤ 28) (t0 : 0 < c.x.timer) (t : ∃ r, r ∈ P ∧ Ack0 w r s)
  | dat (h : c.x.retries ≤ 1 ∨ R ≤ 27) (t2 : 2 ≤ c.x.timer) (t : (∃ r, r ∈ P ∧ Dat0 w r v) ∨ ∃ r, r ∈ Q ∧ Ack0 w r s)
  | res (h : c.x.retries ≤ 2) (t0 : 0 < c.x.timer) (tm : c.x.timer + R ≤ 25)
/-- for all ends, if none has failed and both ends of a pair are there while something is under way -/
def NfA (w : W) (L : Nat → Ned) : Prop := ∀ v, v < w.n → Nf L v
def MidT (w : W) (L : Nat → Ned) (P Q : List Rc) (R : Int) : Prop := NfA w L → ∀ s v e c, w.mut s v → w.row s e c → c.x.st = 3 → TS w P Q s v c R
section
variable {w w' : W} {L L' : Nat → Ned}
theorem Ack0.ev (E : Ev w w') {r : Rc} {s : Nat} (hs : s < w.n) (hU : (w'.G s).U = (w.G s).U) (t : Ack0 w r s) : Ack0 w' r s := by
  obtain ⟨a, a1, a2, a3⟩ := t.a
  have le := (E.g s hs).1
  exact ⟨t.to.ev E hs, t.fl, a, by rw [le.iss]; exact a1, by omega, by have := le.X; omega⟩
theorem Dat0.ev (E : Ev w w') (keep : ∀ i e c, i < w.n → w.row i e c → ∃ e' c', w'.row i e' c') {r : Rc} {v : Nat} (hv : v < w.n) (t : Dat0 w r v) : Dat0 w' r v := ⟨by obtain ⟨e, c, q⟩ := t.row; exact keep v e c hv q, t.to.ev E hv, t.kind⟩
theorem Dat0.fl {r : Rc} {v : Nat} (t : Dat0 w r v) : r.g.flags / 8 * 8 = 0 ∧ r.g.flags % 2 = 0 ∧ ¬ r.g.flags / 2 % 2 * 2 = 0 ∧ (0 < r.g.data.length ∨ ¬ r.g.flags / 4 % 2 * 4 = 0) := by
  rcases t.kind with ⟨k, l⟩ | k
  · rw [k]; exact ⟨by decide, by decide, by decide, .inl l⟩
  · rw [k]; exact ⟨by decide, by decide, by decide, .inr (by decide)⟩
theorem NfA.back (E : Ev w w') (k : Keep w.n L L') (h : NfA w' L') : NfA w L := fun v hv => k.nf hv (h v (by have := E.n; omega))
/-- what is sent to an end that is there comes back acknowledged -/
theorem DStep.resp0 {h : Nat} {r : Rc} {Dn : List Rc} (d : DStep w w' h r Dn) (NI : ∀ i, i < w.n → NetI w L i) (nf : NfA w L) {s v : Nat} (m : w.mut s v) (t : Dat0 w r v) {ev : En} {cv : Conn} (rv : w.row v ev cv) : ∃ r', r' ∈ Dn ∧ Ack0 w' r' s := by
  have I := d.I
  have I' := d.I'
  have m' := d.ev.mut m
  obtain ⟨f1, f2, f3, f4⟩ := t.fl
  obtain ⟨hh, tu⟩ := I.hits m.hp rv t.to d.hd
  have E := d.hitE m.hp rv hh tu
  have gok := I.gok r d.hr
  have okc := I.row_c m.hp rv
  obtain ⟨e1, r1⟩ := E.row
  have key : ∃ g, g ∈ (cv.input r.g).2 ∧ SBare g ∧ g.ack = (cv.input r.g).1.rcvNxt := by
    cases nf_row nf I NI m.hp rv with
    | syn st iss nm => have := m.pi; omega
    | srv st iss cl z =>
      obtain ⟨k, n, vv, n0, nR, _⟩ := I.est_row d.sy d.hr d.age m.symm rv (by rw [hh]; exact d.hd) tu f1 f2
      have R0 := (R_zero I m z).1
      have hn : n = 0 := by omega
      rw [(Conn.input_ack f1 f2 f3).2 st (by rw [vv.ack, hn, iss]; unfold seqAdd; congr 1; omega)]
      exact Conn.inAck_ack (Conn.ok_opened okc) gok f4
    | run p mm st rel rn nn =>
      rw [(Conn.input_ack f1 f2 f3).1 st]
      exact Conn.inAck_ack okc gok f4
    | fin p mm st rel fa pf =>
      have hw := nf_why nf I NI m.hp rv
      have e : cv.input r.g = (cv, cv.inQuiet r.g) := by unfold Conn.input; rw [if_pos st]
      have e2 : cv.inQuiet r.g = [cv.ack] := by unfold Conn.inQuiet; rw [if_pos ⟨hw, f1, f4.symm⟩]
      rw [e, e2]
      exact ⟨cv.ack, by simp, Conn.ack_bare cv, rfl⟩
  obtain ⟨g, g1, g2, g3⟩ := key
  obtain ⟨r', a1, a2, a3, a4⟩ := E.all g g1
  have rn' : (cv.input r.g).1.rcvNxt = ((w'.G s).iss + 1 + (w'.G v).R) % 256 := by
    have wy : (cv.input r.g).1.x.why = 0 := by rw [(Conn.input_k cv f1).why]; exact nf_why nf I NI m.hp rv
    have ns : (cv.input r.g).1.x.st ≠ 2 := fun k => by
      rcases Conn.input_st cv f1 with q | ⟨q, _⟩ | ⟨q, _⟩
      · have st2 : cv.x.st = 2 := by rw [← q]; exact k
        cases nf_row nf I NI m.hp rv with
        | syn st iss nm => omega
        | run p mm st => omega
        | fin p mm st => omega
        | srv st iss cl z =>
          obtain ⟨k', n, vv, n0, nR, _⟩ := I.est_row d.sy d.hr d.age m.symm rv (by rw [hh]; exact d.hd) tu f1 f2
          have R0 := (R_zero I m z).1
          have hn : n = 0 := by omega
          rw [(Conn.input_ack f1 f2 f3).2 st (by rw [vv.ack, hn, iss]; unfold seqAdd; congr 1; omega)] at k
          rcases Conn.inAck_st cv.opened r.g with q2 | ⟨q2, _⟩
          · rw [q2] at k; exact absurd (show (3 : Int) = 2 from k) (by decide)
          · omega
      · omega
      · omega
    cases I'.sta v m'.hp e1 _ r1 with
    | syn cl pe => have := m'.pi; omega
    | srv p cl pe o => exact absurd o.st ns
    | well p mm rel wl => have := m'.symm.right mm; subst this; exact rel.rcvNxt
    | bad st why => omega
  refine ⟨r', a1, (ToS.back I m rv a2 a3 a4).ev d.ev m.hi, by rw [a4]; exact g2.1, (w'.G v).R, ?_, (I'.pair s v m').UR, (I'.pair s v m').RX⟩
  have e : r'.g.ack = g.ack := by rw [a4]; rfl
  rw [e, g3, rn']
/-- who opens has sent nothing again -/
theorem Conn.input_opn (c : Conn) (s : Seg) (h : (c.input s).1.x.st = 3) (h3 : c.x.st ≠ 3) : (c.input s).1.x.retries = 0 := by
  unfold Conn.input at h ⊢
  by_cases k4 : c.x.st = 4
  · rw [if_pos k4] at h; exact absurd h h3
  rw [if_neg k4] at h ⊢
  by_cases k1 : c.x.st = 1
  · rw [if_pos k1] at h ⊢
    rcases synSent_cases c s with k | k | k | ⟨_, _, _, _, k⟩
    · rw [k] at h; exact absurd h h3
    · rw [k] at h; exact absurd h h3
    · rw [k] at h; exact absurd (show (4 : Int) = 3 from h) (by decide)
    · rw [k]; rfl
  rw [if_neg k1] at h ⊢
  by_cases k2 : c.x.st = 2 ∨ c.x.st = 3
  · rw [if_pos k2] at h ⊢
    rcases sync_cases c s with k | k | ⟨_, k⟩ | ⟨_, k⟩ | ⟨_, k⟩ | ⟨_, _, _, ⟨_, k⟩ | ⟨q, k⟩⟩
    · rw [k] at h; exact absurd (show (4 : Int) = 3 from h) (by decide)
    · rw [k] at h; exact absurd h h3
    · rw [k] at h; exact absurd h h3
    · rw [k] at h; exact absurd h h3
    · rw [k] at h; exact absurd h h3
    · rw [k]
      rcases (Conn.inAck_k c.opened s).ret with q | ⟨q, _⟩
      · exact q
      · rw [q]; rfl
    · omega
  · rw [if_neg k2] at h; exact absurd h h3
/-- A RECORD COMES WHOLE -/
theorem MidT.step {h : Nat} {r : Rc} {Dn P Q : List Rc} {R : Int} (d : DStep w w' h r Dn) (NI : ∀ i, i < w.n → NetI w L i) (k : Keep w.n L L') (keep : ∀ i e c, i < w.n → w.row i e c → ∃ e' c', w'.row i e' c') (M : MidT w L (r :: P) Q R) : MidT w' L' P (Q ++ Dn) R := fun nf' s v e' c' m' r' st' => by
  have I := d.I
  have nf := NfA.back d.ev k nf'
  have hs : s < w.n := by
    by_cases k : s < w.n
    · exact k
    · exact absurd st' ((d.ev.nw s (by omega) m'.hi).2 e' c' r')
  obtain ⟨e, c, rs, hne⟩ := d.ev.op s e' c' hs r'
  by_cases st : c.x.st = 3
  · have m : w.mut s v := by
      have mm : ∃ p, w.mut s p := by
        cases nf_row nf I NI hs rs with
        | syn st iss nm => omega
        | srv st iss cl z => omega
        | run p mm st rel rn nn => exact ⟨p, mm⟩
        | fin p mm st => omega
      obtain ⟨p, mm⟩ := mm
      have : p = v := (d.ev.mut mm).right m'
      subst this; exact mm
    have T := M nf s v e c m rs st
    obtain ⟨s1, s2, s3, s4, s5, s6⟩ := d.sndr m rs st r' st'
    -- how the row changed
    have hk : InK c c' := by
      by_cases hit : (w.N s).host = (h : Int) ∧ e.tup r.g.dp r.src r.g.sp
      · obtain ⟨⟨e1, r1⟩, _⟩ := d.disp.hit s e c m.hi hit.1 rs hit.2
        have hc := (r'.inj r1).2
        by_cases hf : r.g.flags / 8 * 8 = 0
        · rw [hc]; exact Conn.input_k c hf
        · have e0 : c.input r.g = c.inSync r.g := by
            unfold Conn.input; rw [if_neg (by omega), if_neg (by omega), if_pos (.inr st)]
          rw [e0] at hc
          unfold Conn.inSync at hc
          rw [if_pos hf] at hc
          split at hc
          · rw [hc] at st'; exact absurd (show (4 : Int) = 3 from st') (by decide)
          · rw [hc]; exact InK.refl c
      · have r1 := d.disp.miss s e c m.hi rs hit
        rw [(r'.inj r1).2]; exact InK.refl c
    rcases hk.ret with k0 | ⟨k1, k2⟩
    · exact .zero k0
    by_cases hU : (w.G s).U < (w'.G s).U
    · exact .zero (s3 hU).r
    have hU : (w'.G s).U = (w.G s).U := by omega
    cases T with
    | zero h => exact .zero (by rw [k1]; exact h)
    | ack h t0 t =>
      obtain ⟨r1, t1, t2⟩ := t
      rcases List.mem_cons.1 t1 with q | q
      · subst q
        have rel : ∃ p, w.mut s p ∧ Rel c (w.G s) (w.N s).sent (w.G p) (w.N p).sent ∧ Run c (w.G s) := by
          cases nf_row nf I NI m.hi rs with
          | syn st iss nm => omega
          | srv st iss cl z => omega
          | run p mm st rel rn nn => exact ⟨p, mm, rel, rn⟩
          | fin p mm st => omega
        obtain ⟨p, mm, rel, rn⟩ := rel
        have := m.right mm; subst this
        obtain ⟨a, a1, a2, a3⟩ := t2.a
        exact .zero (d.ackA m rs rel rn t2.to t2.fl a1 a2 a3 r').1
      · exact .ack (by rw [k1]; exact h) (by rw [k2 t0]; exact t0) ⟨r1, q, t2.ev d.ev m.hi hU⟩
    | dat h t2 t =>
      refine .dat (by rw [k1]; exact h) (by rw [k2 (by omega)]; exact t2) ?_
      rcases t with ⟨r1, t1, t3⟩ | ⟨r1, t1, t3⟩
      · rcases List.mem_cons.1 t1 with q | q
        · subst q
          obtain ⟨ev, cv, rv⟩ := t3.row
          obtain ⟨r2, q1, q2⟩ := d.resp0 NI nf m t3 rv
          exact .inr ⟨r2, List.mem_append_right _ q1, q2⟩
        · exact .inl ⟨r1, q, t3.ev d.ev keep m.hp⟩
      · exact .inr ⟨r1, List.mem_append_left _ t1, t3.ev d.ev m.hi hU⟩
    | res h t0 tm => exact .res (by rw [k1]; exact h) (by rw [k2 t0]; exact t0) (by rw [k2 t0]; exact tm)
  · -- just opened
    by_cases hit : (w.N s).host = (h : Int) ∧ e.tup r.g.dp r.src r.g.sp
    · obtain ⟨⟨e1, r1⟩, _⟩ := d.disp.hit s e c hs hit.1 rs hit.2
      have hc := (r'.inj r1).2
      rw [hc] at st'
      rw [hc]
      exact .zero (Conn.input_opn c r.g st' st)
    · have r1 := d.disp.miss s e c hs rs hit
      rw [(r'.inj r1).2] at st'; exact absurd st' st
/-- nothing happens to the ends -/
theorem MidT.noeff {P Q : List Rc} {R : Int} (E : Ev w w') (e : NoEff w w') (k : Keep w.n L L') (M : MidT w L P Q R) : MidT w' L' P Q R := fun nf' s v e' c' m' r' st' => by
  have m : w.mut s v := ⟨by rw [← e.n]; exact m'.hi, by rw [← e.n]; exact m'.hp, by rw [← e.N]; exact m'.ip, by rw [← e.N]; exact m'.pi⟩
  have T := M (NfA.back E k nf') s v e' c' m ((e.rows s m.hi e' c').1 r') st'
  have ea : ∀ r, Ack0 w r s → Ack0 w' r s := fun r t => t.ev E m.hi (by rw [e.G])
  cases T with
  | zero h => exact .zero h
  | ack h t0 t => exact .ack h t0 (t.imp fun r q => ⟨q.1, ea r q.2⟩)
  | dat h t2 t => exact .dat h t2 (t.imp (fun ⟨r, a, b⟩ => ⟨r, a, b.ev E (fun i e1 c1 hi q => ⟨e1, c1, (e.rows i hi e1 c1).2 q⟩) m.hp⟩) (fun ⟨r, a, b⟩ => ⟨r, a, ea r b⟩))
  | res h t0 tm => exact .res h t0 tm
/-- a record for nobody is passed over -/
theorem MidT.skip {r : Rc} {P Q : List Rc} {R : Int} (I : Inv w) (hd : ¬ (1 ≤ r.dst ∧ r.dst ≤ 3)) (M : MidT w L (r :: P) Q R) : MidT w L P Q R := fun nf s v e c m rs st => by
  have no : ∀ i, i < w.n → ¬ ToS w r i := fun i hi t => by
    have := I.hostR i hi
    have := t.dst
    omega
  cases M nf s v e c m rs st with
  | zero h => exact .zero h
  | ack h t0 t =>
    obtain ⟨r1, r2, r3⟩ := t
    rcases List.mem_cons.1 r2 with q | q
    · subst q; exact absurd r3.to (no s m.hi)
    · exact .ack h t0 ⟨r1, q, r3⟩
  | dat h t2 t =>
    rcases t with ⟨r1, r2, r3⟩ | t
    · rcases List.mem_cons.1 r2 with q | q
      · subst q; exact absurd r3.to (no v m.hp)
      · exact .dat h t2 (.inl ⟨r1, q, r3⟩)
    · exact .dat h t2 (.inr t)
  | res h t0 tm => exact .res h t0 tm
theorem MidT.more {P Q : List Rc} {R : Int} (h : MidT w L P Q R) (D : List Rc) : MidT w L P (Q ++ D) R := fun nf s v e c m rs st => by
  cases h nf s v e c m rs st with
  | zero h => exact .zero h
  | ack h t0 t => exact .ack h t0 t
  | dat h t2 t => exact .dat h t2 (t.imp id fun ⟨r, a, b⟩ => ⟨r, List.mem_append_left _ a, b⟩)
  | res h t0 tm => exact .res h t0 tm
/-- in the first rounds -/
def Early (w : W) (R : Int) : Prop := ∀ s e c, s < w.n → w.row s e c → c.x.st = 3 → c.x.retries = 0 ∨ (0 < c.x.timer ∧ (c.x.retries ≤ 1 ∨ (c.x.retries = 2 ∧ 9 ≤ c.x.timer + R)))
/-- at rest -/
def RT (w : W) : Prop := ∀ s e c, s < w.n → w.row s e c → c.x.st = 3 → c.x.retries = 0 ∨ (0 < c.x.timer ∧ c.x.retries ≤ 1)
theorem Early.noto {R : Int} (h : Early w R) : NoTo w := fun i e c hi r st ⟨k1, k2⟩ => by
  rcases h i e c hi r st with q | ⟨_, q | ⟨q, _⟩⟩ <;> omega
theorem MidT.noto {Q : List Rc} {R : Int} (I : Inv w) (NI : ∀ i, i < w.n → NetI w L i) (nf : NfA w L) (h : MidT w L [] Q R) : NoTo w := fun i e c hi r st ⟨k1, k2⟩ => by
  cases nf_row nf I NI hi r with
  | syn s iss nm => omega
  | srv s iss cl z => omega
  | fin p m s => omega
  | run p m s rel =>
    cases h nf i p e c m r st with
    | zero h => omega
    | ack h t0 t => obtain ⟨r1, r2, _⟩ := t; simp at r2
    | dat h t2 t => omega
    | res h t0 tm => omega
theorem RT.early (h : RT w) : Early w 0 := fun s e c hs r st => (h s e c hs r st).imp id fun ⟨a, b⟩ => ⟨a, .inl b⟩
theorem MidT.rt {P : List Rc} {R : Int} (I : Inv w) (NI : ∀ i, i < w.n → NetI w L i) (nf : NfA w L) (hR : 40 ≤ R) (h : MidT w L P [] R) : RT w := fun i e c hi r st => by
  cases nf_row nf I NI hi r with
  | syn s iss nm => omega
  | srv s iss cl z => omega
  | fin p m s => omega
  | run p m s rel =>
    cases h nf i p e c m r st with
    | zero h => exact .inl h
    | ack h t0 t => exact .inr ⟨t0, by omega⟩
    | dat h t2 t => exact .inr ⟨by omega, by omega⟩
    | res h t0 tm => omega
end
section
variable {w w1 w2 w3 w' : W} {L L' : Nat → Ned} {Dn Q : List Rc} {R : Int}
/-- an open end ticks -/
theorem tick_open (I : Inv w) (NI : ∀ i, i < w.n → NetI w L i) (nf : NfA w L) (nt : NoTo w) (T : WTick w w1 w2 w3 w') {s : Nat} (hs : s < w.n) {e' : En} {c' : Conn} (r' : w'.row s e' c') (st' : c'.x.st = 3) : ∃ e c v, w.row s e c ∧ c.x.st = 3 ∧ w.mut s v ∧ c' = c.tick.1 ∧ TickE c c' ∧ 0 ≤ c.x.timer ∧ c.x.timer ≤ 16 ∧ (c.x.timer = 1 → ∀ Dn, w'.D = w.D ++ Dn → (∀ h, h < 3 → (w'.H h).lost = (w.H h).lost) → ∃ r, r ∈ Dn ∧ ToS w' r v ∧ ((r.g.flags = 2 ∧ 0 < r.g.data.length) ∨ r.g.flags = 6)) := by
  have ev := T.ev
  obtain ⟨e, c, r, hne⟩ := ev.op s e' c' hs r'
  have h4 := hne st'
  obtain ⟨q1, q0, q2⟩ := T.rowT I hs r
  have hc' : c' = c.tick.1 := by
    by_cases k : c.tick.1.x.st = 0
    · exact absurd r' (q0 k e' c')
    · exact (r'.inj (q1 k)).2
  have ok := I.row_c hs r
  have no12 : ∀ st, (st = 1 ∨ st = 2) → ∀ iss, Ong c st iss → False := fun st h12 iss o => by
    rcases o.tick h12 with ⟨k, _⟩ | ⟨k, _⟩
    · rw [hc', k] at st'; exact absurd (show (4 : Int) = 3 from st') (by decide)
    · rw [hc', k.st] at st'; omega
  cases I.sta s hs e c r with
  | syn cl pe o => exact (no12 1 (.inl rfl) _ o).elim
  | srv p cl pe o => exact (no12 2 (.inr rfl) _ o).elim
  | bad st => exact absurd st h4
  | well p m rel wl =>
    rcases wl.st with ⟨rn, nn⟩ | ⟨k, _⟩
    case inr => exact absurd k h4
    have st := rn.st
    obtain ⟨tl1, _, _⟩ := Conn.tick_live ok (.inr (.inr st)) (nt s e c hs r st)
    have tm := ok.x.timer
    refine ⟨e, c, p, r, st, m, hc', by rw [hc']; exact tl1, by omega, by omega, fun t1 Dn hD hl => ?_⟩
    have ux := rel.ux
    have hu : (w.G s).U < (w.N s).sent.length + b2 c.x.weClosed := by
      have h1 := rn.tm (by omega)
      have h2 : (w.G s).X = (w.G s).x + b2 (w.G s).f := rfl
      have h3 : b2 (w.G s).f ≤ b2 (c.x.weClosed) := by
        cases hf : (w.G s).f with
        | false => have hbb := b2_b (c.x.weClosed); show (0 : Int) ≤ _; omega
        | true => rw [rel.wc hf]; exact Int.le_refl _
      omega
    rcases rel.tickT rn hu with k | ⟨_, _, k, _⟩ | ⟨_, _, _, σ, s1, s2⟩
    · rw [hc', k] at st'; omega
    · omega
    · obtain ⟨r1, a1, a2, a3, a4⟩ := q2 Dn hD hl σ s1
      refine ⟨r1, a1, (ToS.back I m.symm r a2 a3 a4).ev ev m.hp, ?_⟩
      rw [a4]
      rcases s2.kind with k | ⟨k, _⟩
      · exact .inl k
      · exact .inr k
theorem mut_back (T : WTick w w1 w2 w3 w') {s v : Nat} (m : w'.mut s v) : w.mut s v := ⟨by rw [← T.n]; exact m.hi, by rw [← T.n]; exact m.hp, by rw [← T.N]; exact m.ip, by rw [← T.N]; exact m.pi⟩
theorem pow_small {k : Int} (h0 : 0 ≤ k) (h2 : k ≤ 2) : 4 ≤ 2 * (2 : Int) ^ (k + 1).toNat ∧ (k = 1 → 2 * (2 : Int) ^ (k + 1).toNat = 8) := by
  have : k = 0 ∨ k = 1 ∨ k = 2 := by omega
  rcases this with rfl | rfl | rfl
  · exact ⟨by decide, fun h => by omega⟩
  · exact ⟨by decide, fun _ => by decide⟩
  · exact ⟨by decide, fun h => by omega⟩
/-- A ROUND's END, later -/
theorem MidT.tick (I : Inv w) (NI : ∀ i, i < w.n → NetI w L i) (keep : Keep w.n L L') (T : WTick w w1 w2 w3 w') (hD : w'.D = w.D ++ Dn) (hl : ∀ h, h < 3 → (w'.H h).lost = (w.H h).lost) (hR : 0 ≤ R) (rowv : NfA w' L' → Dn ≠ [] → ∀ s v, w'.mut s v → (∃ e c, w'.row s e c) → ∃ e c, w'.row v e c) (M : MidT w L [] Q R) : MidT w' L' (Q ++ Dn) [] (R + 1) := fun nf' s v e' c' m' r' st' => by
  have ev := T.ev
  have nf := NfA.back ev keep nf'
  have m := mut_back T m'
  obtain ⟨e, c, p, r, st, mp, hc, k, t0, t16, again⟩ := tick_open I NI nf (M.noto I NI nf) T m.hi r' st'
  have : p = v := mp.right m
  subst this
  have ok := (I.row_c m.hi r).x.retr
  have hU : (w'.G s).U = (w.G s).U := by
    have a := ev.g s m.hi
    -- nothing is acknowledged at a tick
    have h1 : ∃ g', Rel c.tick.1 g' (w.N s).sent (w.G p) (w.N p).sent ∧ g'.U = (w.G s).U ∧ g'.iss = (w.G s).iss := by
      cases I.sta s m.hi e c r with
      | syn cl pe o => have := o.st; omega
      | srv q cl pe o => have := o.st; omega
      | bad s4 => omega
      | well q mq rel wl =>
        have := mq.right m; subst this
        rcases wl.st with ⟨rn, _⟩ | ⟨k4, _⟩
        · rcases rel.tick rn with ⟨k1, _⟩ | ⟨g', g1, _, g3, _⟩
          · rw [← hc] at k1
            rw [k1] at st'; exact absurd (show (4 : Int) = 3 from st') (by decide)
          · exact ⟨g', g3, g1.U, g1.le.iss⟩
        · omega
    obtain ⟨g', h1, h2, h3⟩ := h1
    have hu := h1.sndUna
    rw [← hc, h2, h3] at hu
    exact I.U_eq T.inv ev m r st r' st' (by omega) hu
  have datT : c.x.timer = 1 → ∃ r, r ∈ Q ++ Dn ∧ Dat0 w' r p := fun h1 => by
    obtain ⟨r1, a1, a2, a3⟩ := again h1 Dn hD hl
    refine ⟨r1, List.mem_append_right _ a1, rowv nf' (fun hn => by rw [hn] at a1; exact absurd a1 (by simp)) s p m' ⟨e', c', r'⟩, a2, a3⟩
  have hle : 0 < c.x.timer ∨ c.x.timer = 0 := by omega
  cases M nf s p e c m r st with
  | zero h =>
    by_cases h1 : c.x.timer = 1
    · obtain ⟨x1, x2⟩ := k.t1 h1
      have := (pow_small (k := c.x.retries) (by omega) (by omega)).1
      exact .dat (by left; omega) (by rw [x2]; omega) (.inl (datT h1))
    · by_cases h0 : c.x.timer = 0
      · exact .zero (by rw [k.t0 h0]; exact h)
      · exact .zero (by rw [(k.t2 (by omega)).1]; exact h)
  | ack h t0 t => obtain ⟨r1, r2, _⟩ := t; simp at r2
  | dat h t2 t =>
    obtain ⟨x1, x2⟩ := k.t2 t2
    rcases t with ⟨r1, r2, _⟩ | ⟨r1, r2, r3⟩
    · simp at r2
    · exact .ack (by rw [x1]; omega) (by rw [x2]; omega) ⟨r1, List.mem_append_left _ r2, r3.ev ev m.hi hU⟩
  | res h t0 tm =>
    by_cases h1 : c.x.timer = 1
    · obtain ⟨x1, x2⟩ := k.t1 h1
      have := (pow_small (k := c.x.retries) (by omega) (by omega)).1
      exact .dat (by right; omega) (by rw [x2]; omega) (.inl (datT h1))
    · obtain ⟨x1, x2⟩ := k.t2 (by omega)
      exact .res (by rw [x1]; exact h) (by rw [x2]; omega) (by rw [x2]; omega)
/-- a round's end among the first eight -/
theorem Early.tick (I : Inv w) (NI : ∀ i, i < w.n → NetI w L i) (nf : NfA w L) (T : WTick w w1 w2 w3 w') (hR : 0 ≤ R) (h8 : R + 1 ≤ 8) (h : Early w R) : Early w' (R + 1) := fun s e' c' hs r' st' => by
  have hs' : s < w.n := by rw [← T.n]; exact hs
  obtain ⟨e, c, p, r, st, mp, hc, k, t0, t16, _⟩ := tick_open I NI nf h.noto T hs' r' st'
  have ok := (I.row_c hs' r).x.retr
  rcases h s e c hs' r st with q | ⟨q0, q⟩
  · by_cases h1 : c.x.timer = 1
    · obtain ⟨x1, x2⟩ := k.t1 h1
      have := (pow_small (k := c.x.retries) (by omega) (by omega)).1
      right; refine ⟨by rw [x2]; omega, by left; omega⟩
    · by_cases h0 : c.x.timer = 0
      · left; rw [k.t0 h0]; exact q
      · left; rw [(k.t2 (by omega)).1]; exact q
  · right
    by_cases h1 : c.x.timer = 1
    · obtain ⟨x1, x2⟩ := k.t1 h1
      have p1 := pow_small (k := c.x.retries) (by omega) (by omega)
      refine ⟨by rw [x2]; omega, ?_⟩
      rcases q with q | ⟨q, q2⟩
      · by_cases h0 : c.x.retries = 0
        · left; omega
        · right
          have := p1.2 (by omega)
          exact ⟨by omega, by rw [x2]; omega⟩
      · omega
    · obtain ⟨x1, x2⟩ := k.t2 (by omega)
      exact ⟨by rw [x2]; omega, by rcases q with q | ⟨q, q2⟩; (left; omega); (right; exact ⟨by omega, by omega⟩)⟩
/-- the ninth round begins -/
theorem Early.live (I : Inv w) (NI : ∀ i, i < w.n → NetI w L i) (keep : Keep w.n L L') (T : WTick w w1 w2 w3 w') (hD : w'.D = w.D ++ Dn) (hl : ∀ h, h < 3 → (w'.H h).lost = (w.H h).lost) (rowv : NfA w' L' → Dn ≠ [] → ∀ s v, w'.mut s v → (∃ e c, w'.row s e c) → ∃ e c, w'.row v e c) (h : Early w 8) : MidT w' L' (Q ++ Dn) [] 9 := fun nf' s v e' c' m' r' st' => by
  have nf := NfA.back T.ev keep nf'
  have m := mut_back T m'
  obtain ⟨e, c, p, r, st, mp, hc, k, t0, t16, again⟩ := tick_open I NI nf h.noto T m.hi r' st'
  have : p = v := mp.right m
  subst this
  have ok := (I.row_c m.hi r).x.retr
  have datT : c.x.timer = 1 → ∃ r, r ∈ Q ++ Dn ∧ Dat0 w' r p := fun h1 => by
    obtain ⟨r1, a1, a2, a3⟩ := again h1 Dn hD hl
    refine ⟨r1, List.mem_append_right _ a1, rowv nf' (fun hn => by rw [hn] at a1; exact absurd a1 (by simp)) s p m' ⟨e', c', r'⟩, a2, a3⟩
  have r2 : c.x.retries ≤ 2 := by rcases h s e c m.hi r st with q | ⟨_, q | ⟨q, _⟩⟩ <;> omega
  by_cases h1 : c.x.timer = 1
  · obtain ⟨x1, x2⟩ := k.t1 h1
    have := (pow_small (k := c.x.retries) (by omega) r2).1
    exact .dat (by right; decide) (by rw [x2]; omega) (.inl (datT h1))
  · by_cases h0 : c.x.timer = 0
    · have : c.x.retries = 0 := by rcases h s e c m.hi r st with q | ⟨q, _⟩ <;> omega
      exact .zero (by rw [k.t0 h0]; exact this)
    · obtain ⟨x1, x2⟩ := k.t2 (by omega)
      exact .res (by rw [x1]; exact r2) (by rw [x2]; omega) (by rw [x2]; omega)
end
end Go.Proofs.Qxb6500351aGreat
