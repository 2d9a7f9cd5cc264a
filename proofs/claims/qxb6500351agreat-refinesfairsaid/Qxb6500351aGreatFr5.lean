/- FAIR WEATHER, part 5: a frame comes to its host. No Go in sight. -/
import Derived.Test.Qxb6500351aGreatFr4
set_option linter.unusedVariables false
set_option linter.unusedSimpArgs false
namespace Go.Proofs.Qxb6500351aGreat
open Go.Eng
section
variable {w w' : W} {L L' : Nat → Ned} {h : Nat} {r : Rc} {Dn : List Rc} {A B A' B' : List Fly} {t : Nat} {e0 : En} {c0 : Conn}
theorem Come.to (C : Come w w' L L' h r Dn t e0 c0) : ToS w r t := by
  have tp := C.d.I.tup t C.ht e0 c0 C.rt
  have c1 := C.tu
  exact ⟨by rw [C.d.hd, C.hh], by rw [← c1.2.1]; exact tp.2.1, by rw [← c1.1]; exact tp.1, by rw [← c1.2.2]; exact tp.2.2⟩
theorem Come.client (C : Come w w' L L' h r Dn t e0 c0) {i : Nat} (hi : i < w.n) : (w'.N i).client = (w.N i).client := (C.d.ev.id i hi).cl
theorem Come.op (C : Come w w' L L' h r Dn t e0 c0) {i p : Nat} (m : w.mut i p) (cl : (w.N i).client = true) (htt : t = i ∨ t = p) (op : ∀ e c, w.row p e c → c.x.st = 2 → (∃ e c, w.row i e c ∧ c.x.st = 3) ∧ (∃ q, q ∈ A ++ B ∧ OpTok w p q) ∧ (c.x.retries = 0 ∨ c.x.retries = 1 ∧ ∃ q, q ∈ A ∧ OpTok w p q)) {q : Fly} (hq : q.1 = r) (hA : ∀ x, x ∈ A → x = q ∨ x ∈ A') (hB : ∀ x, x ∈ B → x ∈ B') :
    ∀ e c, w'.row p e c → c.x.st = 2 → (∃ e c, w'.row i e c ∧ c.x.st = 3) ∧ (∃ q, q ∈ A' ++ B' ∧ OpTok w' p q) ∧ (c.x.retries = 0 ∨ c.x.retries = 1 ∧ ∃ q, q ∈ A' ∧ OpTok w' p q) := fun e c rp st => by
  have I := C.d.I
  have m' := C.mut' m
  have hip : p ≠ i := I.mut_ne m
  -- the token is not the frame that comes
  have stay : ∀ x : Fly, OpTok w p x → x ≠ q → (x ∈ A → x ∈ A') := fun x T hne hx => (hA x hx).resolve_left hne
  have use : ∀ c, (∃ q, q ∈ A ++ B ∧ OpTok w p q) ∧ (c = (0 : Int) ∨ c = 1 ∧ ∃ q, q ∈ A ∧ OpTok w p q) → (∀ x, OpTok w p x → x ≠ q) → (∃ q, q ∈ A' ++ B' ∧ OpTok w' p q) ∧ (c = 0 ∨ c = 1 ∧ ∃ q, q ∈ A' ∧ OpTok w' p q) := fun c ⟨⟨x, x1, x2⟩, hc⟩ hne => by
    refine ⟨⟨x, ?_, x2.ev C.d.ev m.hp⟩, hc.imp id fun ⟨k1, y, y1, y2⟩ => ⟨k1, y, stay y y2 (hne y y2) y1, y2.ev C.d.ev m.hp⟩⟩
    rcases List.mem_append.1 x1 with k | k
    · exact List.mem_append_left _ (stay x x2 (hne x x2) k)
    · exact List.mem_append_right _ (hB x k)
  rcases C.back m.hp rp with ⟨k1, k2⟩ | ⟨k1, k2⟩
  · have hti : t = i := htt.resolve_right fun k => k1 k.symm
    obtain ⟨⟨ei, ci, ri, sti⟩, hrest⟩ := op e c k2 st
    refine ⟨?_, use _ hrest fun x T hx => ?_⟩
    · subst hti
      obtain ⟨e1, r1⟩ := C.E.row
      refine ⟨e1, _, r1, ?_⟩
      cases C.rs' C.ht r1 with
      | syn s iss nm => have := m'.ip; omega
      | srv s iss cl' z => rw [C.client C.ht, cl] at cl'; cases cl'
      | run pp mm s => exact s
      | fin pp mm s rel fa pf =>
        exfalso
        have hf := ((C.d.I'.pair p t m'.symm).pf pf).1
        cases C.rs' m.hp rp with
        | syn s1 iss nm => omega
        | srv s1 iss cl' z => rw [z] at hf; cases hf
        | run pp mm s1 => omega
        | fin pp mm s1 => omega
    · subst hx
      have to := T.to; rw [hq] at to
      have t2 := C.to; rw [hti] at t2
      exact ToS.ne I m t2 to
  · have htp : t = p := k1.symm
    subst htp
    rw [k2] at st ⊢
    have st0 : c0.x.st = 2 := by
      rcases Conn.input_st c0 C.fl with k | ⟨k, _⟩ | ⟨k, _⟩
      · rw [← k]; exact st
      · omega
      · omega
    obtain ⟨⟨ei, ci, ri, sti⟩, hrest⟩ := op e0 c0 C.rt st0
    refine ⟨⟨ei, ci, (C.E.rows i m.hi (fun k => hip k.symm) ei ci).2 ri, sti⟩, ?_⟩
    have hne : ∀ x, OpTok w t x → x ≠ q := fun x T hx => by
      subst hx
      have hb := T.b; unfold FBare at hb; rw [hq] at hb
      have ha := T.ack; rw [hq] at ha
      obtain ⟨f1, f2, f3⟩ := hb.fl
      have hiss : c0.x.iss = (w.G t).iss := by
        cases C.rs C.ht C.rt with
        | syn s iss nm => omega
        | srv s iss cl z => exact iss
        | run pp mm s => omega
        | fin pp mm s => omega
      rw [(Conn.input_ack f1 f2 f3).2 st0 (by rw [ha, hiss]; rfl)] at st
      rcases Conn.inAck_st c0.opened r.g with k | ⟨k, _⟩
      · rw [k] at st; exact absurd (show (3 : Int) = 2 from st) (by decide)
      · omega
    obtain ⟨u1, u2⟩ := use _ hrest hne
    refine ⟨u1, ?_⟩
    rcases (Conn.input_k c0 C.fl).ret with k | ⟨k, _⟩
    · exact .inl k
    · rw [k]; exact u2
/-- what goes out is no refusal -/
theorem Come.noRst (C : Come w w' L L' h r Dn t e0 c0) {s : Nat} (m : w.mut s t) (hf : From w r s t) : ∀ r', r' ∈ Dn → r'.g.flags / 8 = 0 := fun r' hr' => by
  have I := C.d.I
  obtain ⟨g, g1, g2⟩ := C.E.only r' hr'
  rw [g2]
  show g.flags / 8 = 0
  refine Conn.input_fl c0 C.fl (fun st => ?_) (fun st ev => ?_) g g1
  · exfalso
    cases C.rs C.ht C.rt with
    | syn s1 iss nm => have := m.pi; omega
    | srv s1 iss cl z => omega
    | run pp mm s1 => omega
    | fin pp mm s1 => omega
  · cases hf with
    | syn fl => rw [fl] at ev; exact absurd ev (by decide)
    | sa fl => rw [fl] at ev; exact absurd ev (by decide)
    | est k a v a0 ar =>
      cases C.rs C.ht C.rt with
      | syn s1 iss nm => omega
      | srv s1 iss cl z =>
        have := (R_zero I m z).1
        have ha : a = 0 := by omega
        rw [v.ack, ha, iss]; unfold seqAdd; congr 1; omega
      | run pp mm s1 => omega
      | fin pp mm s1 => omega
theorem FlW.ev {p : Fly} {a : Int} (h : FlW w p a) (hD : w'.D = w.D ++ Dn) (now : w'.now = w.now) : FlW w' p a := ⟨by rw [hD]; exact List.mem_append_left _ h.d, by rw [now]; exact h.t, h.f, h.fl⟩
theorem frp_flW (hD : w'.D = w.D ++ Dn) (now : w'.now = w.now) (ht : ∀ r, r ∈ Dn → r.t = w.now) (hf : ∀ r, r ∈ Dn → r.g.flags / 8 = 0) : ∀ p, p ∈ frp Dn → FlW w' p 0 := fun p hp => by
  obtain ⟨a, b⟩ := frp_mem.1 hp
  exact ⟨by rw [hD]; exact List.mem_append_right _ a, by rw [now, ht _ a]; omega, b, hf _ a⟩
/-- A PAIR: a record comes whole -/
theorem Come.pair (C : Come w w' L L' h r Dn t e0 c0) (now : w'.now = w.now) (hDt : ∀ r, r ∈ Dn → r.t = w.now) {A1 A2 : List Fly} {q : Fly} (hq : q.1 = r) (F : FI w L (A1 ++ q :: A2) B) {i p : Nat} (m : w.mut i p) (cl : (w.N i).client = true) (only : ∀ j, j < w.n → j ≠ i → j ≠ p → NoRow w j)
    (op : ∀ e c, w.row p e c → c.x.st = 2 → (∃ e c, w.row i e c ∧ c.x.st = 3) ∧ (∃ x, x ∈ (A1 ++ q :: A2) ++ B ∧ OpTok w p x) ∧ (c.x.retries = 0 ∨ c.x.retries = 1 ∧ ∃ x, x ∈ A1 ++ q :: A2 ∧ OpTok w p x)) (s1 : PS w (A1 ++ q :: A2) B i p) (s2 : PS w (A1 ++ q :: A2) B p i) (z : PZ w (A1 ++ q :: A2) B i p) {s : Nat} (st : s = i ∧ t = p ∨ s = p ∧ t = i) (hf : From w r s t) : FI w' L' (A1 ++ A2) (B ++ frp Dn) := by
  have hA : ∀ x, x ∈ A1 ++ q :: A2 → x = q ∨ x ∈ A1 ++ A2 := fun x hx => by
    rcases List.mem_append.1 hx with k | k
    · exact .inr (List.mem_append_left _ k)
    · rcases List.mem_cons.1 k with k | k
      · exact .inl k
      · exact .inr (List.mem_append_right _ k)
  have hA' : ∀ x, x ∈ A1 ++ A2 → x ∈ A1 ++ q :: A2 := fun x hx => by
    rcases List.mem_append.1 hx with k | k
    · exact List.mem_append_left _ k
    · exact List.mem_append_right _ (List.mem_cons_of_mem _ k)
  have hqA : q ∈ A1 ++ q :: A2 := List.mem_append_right _ (List.mem_cons_self ..)
  have hB : ∀ x, x ∈ B → x ∈ B ++ frp Dn := fun x hx => List.mem_append_left _ hx
  have hD : ∀ x, x ∈ frp Dn → x ∈ B ++ frp Dn := fun x hx => List.mem_append_right _ hx
  have tt : t = i ∨ t = p := by rcases st with k | k; exact .inr k.2; exact .inl k.2
  have mst : w.mut s t := by
    rcases st with ⟨k1, k2⟩ | ⟨k1, k2⟩
    · rw [k1, k2]; exact m
    · rw [k1, k2]; exact m.symm
  refine ⟨C.nf', fun x hx => (F.fa x (hA' x hx)).ev C.d.D now, fun x hx => ?_, .pair i p (C.mut' m) (by rw [C.client m.hi]; exact cl) (fun j hj h1 h2 => ?_) (C.op m cl tt op hq hA hB) (C.ps m tt s1 hq hA hB hD) (C.ps m.symm tt.symm s2 hq hA hB hD) (C.pz m tt z hq hqA hA' rfl)⟩
  · rcases List.mem_append.1 hx with k | k
    · exact (F.fb x k).ev C.d.D now
    · exact frp_flW C.d.D now hDt (C.noRst mst hf) x k
  · rw [C.E.n] at hj
    exact C.norow hj (only j hj h1 h2)
end
end Go.Proofs.Qxb6500351aGreat
