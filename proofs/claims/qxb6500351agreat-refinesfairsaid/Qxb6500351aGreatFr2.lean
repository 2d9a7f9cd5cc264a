/- FAIR WEATHER, part 2: what holds; a record that comes whole. No Go in sight. -/
import Derived.Test.Qxb6500351aGreatFr1
set_option linter.unusedVariables false
set_option linter.unusedSimpArgs false
namespace Go.Proofs.Qxb6500351aGreat
open Go.Eng
/-- a frame in flight: its record, its bytes -/
abbrev Fly := Rc × List Int
def NoRow (w : W) (j : Nat) : Prop := ∀ e c, ¬ w.row j e c
/-- ended or gone, at most k quiet ticks left -/
def Qle (w : W) (v : Nat) (k : Int) : Prop := ∀ e c, w.row v e c → c.x.st = 4 ∧ c.x.quiet ≤ k
def Endd (w : W) (v : Nat) : Prop := ∀ e c, w.row v e c → c.x.st = 4
structure FlW (w : W) (p : Fly) (a : Int) : Prop where
  d : p.1 ∈ w.D
  t : w.now ≤ p.1.t + a
  f : p.2 ∈ p.1.frames
  fl : p.1.g.flags / 8 = 0
def FBare (p : Fly) : Prop := SBare p.1.g
/-- the acknowledgement of s's FIN -/
structure FinTok (w : W) (s : Nat) (p : Fly) : Prop where
  b : FBare p
  to : ToS w p.1 s
  ack : p.1.g.ack = ((w.G s).iss + 1 + (w.G s).X) % 256
/-- the acknowledgement of s's SYN -/
structure OpTok (w : W) (s : Nat) (p : Fly) : Prop where
  b : FBare p
  to : ToS w p.1 s
  ack : p.1.g.ack = ((w.G s).iss + 1) % 256
/-- between two ends that know each other; A is to come in this round, B was put out in it -/
structure PS (w : W) (A B : List Fly) (s v : Nat) : Prop where
  y1 : (w.G v).pf = true → (w.G s).fa = false → ∃ p, p ∈ A ++ B ∧ FinTok w s p
  y2 : ∀ k, 0 ≤ k → k ≤ 8 → Qle w v k → Qle w s (k + 1)
  y3 : Qle w v 9 → Endd w s ∨ ∃ p, p ∈ A ∧ FinTok w s p
structure PZ (w : W) (A B : List Fly) (s v : Nat) : Prop where
  z9 : Qle w s 9 → Qle w v 9 → ∀ p, p ∈ B → FBare p
  z8 : Qle w s 8 → Qle w v 8 → (∀ p, p ∈ A → FBare p) ∧ B = []
  z7 : Qle w s 7 → Qle w v 7 → A = [] ∧ B = []
/-- the one connection's life -/
inductive Ph (w : W) (A B : List Fly) : Prop
  | idle (no : ∀ j, j < w.n → NoRow w j) (a : A = []) (b : B = [])
  | syn (i : Nat) (hi : i < w.n) (only : ∀ j, j < w.n → j ≠ i → NoRow w j) (e : En) (c : Conn) (row : w.row i e c) (st : c.x.st = 1) (tm : c.x.timer = 2) (rt : c.x.retries = 0) (p : Fly) (a : A = [p]) (b : B = []) (fl : p.1.g.flags = 1) (h : Nat) (h3 : h < 3) (dst : p.1.dst = (h : Int) + 1) (nh : (w.N i).host ≠ (h : Int)) (lis : ∃ sd f, (w.H h).t.at sd = some f ∧ f.kind = 1 ∧ f.lPort = p.1.g.dp)
  | pre (i p : Nat) (hi : i < w.n) (hp : p < w.n) (pe : (w.N p).peer = (i : Int)) (cl : (w.N p).client = false) (only : ∀ j, j < w.n → j ≠ i → j ≠ p → NoRow w j) (e : En) (c : Conn) (row : w.row i e c) (st : c.x.st = 1) (rt : c.x.retries = 0) (e' : En) (c' : Conn) (row' : w.row p e' c') (st' : c'.x.st = 2) (rt' : c'.x.retries = 0) (tm : c.x.timer = c'.x.timer) (q : Fly) (wire : A = [q] ∧ B = [] ∧ 1 ≤ c.x.timer ∨ A = [] ∧ B = [q] ∧ c.x.timer = 2) (fl : q.1.g.flags = 3)
  | pair (i p : Nat) (m : w.mut i p) (cl : (w.N i).client = true) (only : ∀ j, j < w.n → j ≠ i → j ≠ p → NoRow w j) (op : ∀ e c, w.row p e c → c.x.st = 2 → (∃ e c, w.row i e c ∧ c.x.st = 3) ∧ (∃ q, q ∈ A ++ B ∧ OpTok w p q) ∧ (c.x.retries = 0 ∨ c.x.retries = 1 ∧ ∃ q, q ∈ A ∧ OpTok w p q)) (s1 : PS w A B i p) (s2 : PS w A B p i) (z : PZ w A B i p)
structure FI (w : W) (L : Nat → Ned) (A B : List Fly) : Prop where
  nf : ∀ v, v < w.n → Nf L v
  fa : ∀ p, p ∈ A → FlW w p 1
  fb : ∀ p, p ∈ B → FlW w p 0
  ph : Ph w A B
theorem PZ.symm {w : W} {A B : List Fly} {s v : Nat} (z : PZ w A B s v) : PZ w A B v s := ⟨fun a b => z.z9 b a, fun a b => z.z8 b a, fun a b => z.z7 b a⟩
/-! ### rounds end and begin -/
theorem PS.merge {w : W} {A B : List Fly} {s v : Nat} (h : PS w A B s v) : PS w (A ++ B) [] s v := ⟨by rw [List.append_nil]; exact h.y1, h.y2, fun k => (h.y3 k).imp id fun ⟨p, a, b⟩ => ⟨p, List.mem_append_left _ a, b⟩⟩
theorem PZ.merge {w : W} {A B : List Fly} {s v : Nat} (h : PZ w A B s v) : PZ w (A ++ B) [] s v := by
  refine ⟨fun _ _ p hp => absurd hp (by simp), fun a b => ⟨?_, rfl⟩, fun a b => ⟨?_, rfl⟩⟩
  · obtain ⟨h1, h2⟩ := h.z8 a b
    rw [h2, List.append_nil]; exact h1
  · obtain ⟨h1, h2⟩ := h.z7 a b
    rw [h1, h2]; rfl
theorem Ph.merge {w : W} {A B : List Fly} (h : Ph w A B) : Ph w (A ++ B) [] := by
  cases h with
  | idle no a b => exact .idle no (by rw [a, b]; rfl) rfl
  | syn i hi only e c row st tm rt p a b fl h h3 dst nh lis => exact .syn i hi only e c row st tm rt p (by rw [a, b]; rfl) rfl fl h h3 dst nh lis
  | pre i p hi hp pe cl only e c row st rt e' c' row' st' rt' tm q wire fl =>
    refine .pre i p hi hp pe cl only e c row st rt e' c' row' st' rt' tm q (.inl ?_) fl
    rcases wire with ⟨a, b, t⟩ | ⟨a, b, t⟩
    · exact ⟨by rw [a, b]; rfl, rfl, t⟩
    · exact ⟨by rw [a, b]; rfl, rfl, by omega⟩
  | pair i p m cl only op s1 s2 z =>
    refine .pair i p m cl only (fun e c r st => ?_) s1.merge s2.merge z.merge
    obtain ⟨a, ⟨q, b1, b2⟩, k⟩ := op e c r st
    refine ⟨a, ⟨q, by rw [List.append_nil]; exact b1, b2⟩, k.imp id fun ⟨k1, q, k2, k3⟩ => ⟨k1, q, List.mem_append_left _ k2, k3⟩⟩
theorem FlW.mono {w : W} {p : Fly} {a b : Int} (h : FlW w p a) (k : a ≤ b) : FlW w p b := ⟨h.d, by have := h.t; omega, h.f, h.fl⟩
theorem FI.merge {w : W} {L : Nat → Ned} {A B : List Fly} (h : FI w L A B) : FI w L (A ++ B) [] :=
  ⟨h.nf, fun p hp => (List.mem_append.1 hp).elim (h.fa p) (fun k => (h.fb p k).mono (by omega)), fun p hp => absurd hp (by simp), h.ph.merge⟩
/-! ### rows -/
theorem nf_why {w : W} {L : Nat → Ned} (F : ∀ v, v < w.n → Nf L v) (I : Inv w) (NI : ∀ i, i < w.n → NetI w L i) {i : Nat} (hi : i < w.n) {e : En} {c : Conn} (r : w.row i e c) : c.x.why = 0 := by
  cases I.sta i hi e c r with
  | syn cl pe o => exact o.why
  | srv p cl pe o => exact o.why
  | well p m rel wl => exact wl.why
  | bad st => exact Nf.row (NI i hi) (F i hi) e c r st
/-- a row's state -/
inductive RowS (w : W) (i : Nat) (c : Conn) : Prop
  | syn (st : c.x.st = 1) (iss : c.x.iss = (w.G i).iss) (nm : (w.N i).peer = -1)
  | srv (st : c.x.st = 2) (iss : c.x.iss = (w.G i).iss) (cl : (w.N i).client = false) (z : w.G i = Gh.new (w.G i).iss (w.G i).b)
  | run (p : Nat) (m : w.mut i p) (st : c.x.st = 3) (rel : Rel c (w.G i) (w.N i).sent (w.G p) (w.N p).sent) (rn : Run c (w.G i)) (n : ¬ ((w.G i).fa = true ∧ (w.G i).pf = true))
  | fin (p : Nat) (m : w.mut i p) (st : c.x.st = 4) (rel : Rel c (w.G i) (w.N i).sent (w.G p) (w.N p).sent) (fa : (w.G i).fa = true) (pf : (w.G i).pf = true)
theorem nf_row {w : W} {L : Nat → Ned} (F : ∀ v, v < w.n → Nf L v) (I : Inv w) (NI : ∀ i, i < w.n → NetI w L i) {i : Nat} (hi : i < w.n) {e : En} {c : Conn} (r : w.row i e c) : RowS w i c := by
  cases I.sta i hi e c r with
  | syn cl pe o => exact .syn o.st o.iss pe
  | srv p cl pe o t pa nx nc wo z => exact .srv o.st o.iss cl z
  | well p m rel wl =>
    rcases wl.st with ⟨rn, n⟩ | ⟨st, fa, pf⟩
    · exact .run p m rn.st rel rn n
    · exact .fin p m st rel fa pf
  | bad st why => have := nf_why F I NI hi r; omega
/-- an end that is ended or gone has closed on both sides -/
theorem nf_endd {w : W} {L : Nat → Ned} (F : ∀ v, v < w.n → Nf L v) (I : Inv w) (NI : ∀ i, i < w.n → NetI w L i) {i : Nat} (hi : i < w.n) (h : Endd w i) : (w.G i).fa = true ∧ (w.G i).pf = true := by
  by_cases hr : ∃ e c, w.row i e c
  · obtain ⟨e, c, r⟩ := hr
    have h4 := h e c r
    cases nf_row F I NI hi r with
    | syn st => omega
    | srv st => omega
    | run p m st => omega
    | fin p m st rel fa pf => exact ⟨fa, pf⟩
  · have hn : ∀ e c, ¬ w.row i e c := fun e c r => hr ⟨e, c, r⟩
    have n := NI i hi
    have h4 := (n.norow hn).2
    have f := n.c.fin h4 (F i hi h4)
    exact ⟨f.1, f.2.1⟩
theorem Qle.endd {w : W} {v : Nat} {k : Int} (h : Qle w v k) : Endd w v := fun e c r => (h e c r).1
theorem Qle.mono {w : W} {v : Nat} {k l : Int} (h : Qle w v k) (kl : k ≤ l) : Qle w v l := fun e c r => ⟨(h e c r).1, by have := (h e c r).2; omega⟩
theorem NoRow.qle {w : W} {v : Nat} (h : NoRow w v) (k : Int) : Qle w v k := fun e c r => absurd r (h e c)
theorem Endd.qle {w : W} (I : Inv w) {v : Nat} (hv : v < w.n) (h : Endd w v) : Qle w v 10 := fun e c r => ⟨h e c r, by have := (I.row_c hv r).x.quiet; omega⟩
/-- while frames fly both ends are there -/
theorem rows_of {w : W} {A B : List Fly} {s v : Nat} (s1 : PS w A B s v) (z : PZ w A B s v) (h : A ++ B ≠ []) : ∃ e c, w.row v e c := by
  by_cases hr : ∃ e c, w.row v e c
  · exact hr
  · exfalso
    have hn : NoRow w v := fun e c r => hr ⟨e, c, r⟩
    have q := s1.y2 0 (by omega) (by omega) (hn.qle 0)
    obtain ⟨a, b⟩ := z.z7 (q.mono (by omega)) (hn.qle 7)
    exact h (by rw [a, b]; rfl)
/-! ### whose a frame is -/
theorem ToS.of {w : W} (I : Inv w) {r : Rc} {a b : Nat} (s : w.seg r a) (hm : mir (w.N a) (w.N b)) : ToS w r b := by
  obtain ⟨m1, m2, m3, m4⟩ := hm
  exact ⟨by rw [s.dst]; exact m1.symm, by rw [s.src]; exact m2, by rw [s.dp]; exact m4, by rw [s.sp]; exact m3⟩
/-- between two ends: from one to the other -/
inductive From (w : W) (r : Rc) (s t : Nat) : Prop
  | syn (fl : r.g.flags = 1)
  | sa (fl : r.g.flags = 3) (da : r.g.data = [])
  | est (k a : Int) (v : SegV r.g (w.G s) (w.N s).sent (w.G t).iss k a) (a0 : 0 ≤ a) (ar : a ≤ (w.G s).R)
theorem frame_from {w : W} (I : Inv w) {i p : Nat} (m : w.mut i p) (cl : (w.N i).client = true) (only : ∀ j, j < w.n → j ≠ i → j ≠ p → NoRow w j) {r : Rc} (hr : r ∈ w.D) (hage : w.now - r.t ≤ 4) (hf : r.g.flags / 8 = 0) : ∃ s t, (s = i ∧ t = p ∨ s = p ∧ t = i) ∧ w.mut s t ∧ ToS w r t ∧ From w r s t := by
  have who : ∀ a, a < w.n → (∃ e c, w.row a e c) → a = i ∨ a = p := fun a ha ⟨e, c, ra⟩ => by
    by_cases h1 : a = i
    · exact .inl h1
    · by_cases h2 : a = p
      · exact .inr h2
      · exact absurd ra (only a ha h1 h2 e c)
  have clp : (w.N p).client = false := by
    have := I.mut_cl m
    rw [cl] at this
    cases h : (w.N p).client with
    | false => rfl
    | true => rw [h] at this; cases this
  cases I.recs r hr hage with
  | rst k fl => omega
  | syn a s k ca fl sq da t pr op =>
    rcases who a s.hi (pres_row pr) with rfl | rfl
    · exact ⟨a, p, .inl ⟨rfl, rfl⟩, m, ToS.of I s (I.mir_of_mut m), .syn fl⟩
    · rw [clp] at ca; cases ca
  | sa a b s k ca pe fl sq ak da t pr =>
    rcases who a s.hi (pres_row pr) with rfl | rfl
    · rw [cl] at ca; cases ca
    · exact ⟨a, i, .inr ⟨rfl, rfl⟩, m.symm, ToS.of I s (I.mir_of_mut m.symm), .sa fl da⟩
  | est a b k n s kk mm v a0 ar kx w1 w2 pr =>
    have hab : a = i ∨ a = p := by
      rcases pr with pr | ⟨_, _, pr⟩
      · exact who a s.hi (pres_row pr)
      · rcases who b mm.hp (pres_row pr) with rfl | rfl
        · exact .inr (mm.symm.right m)
        · exact .inl (mm.symm.right m.symm)
    rcases hab with rfl | rfl
    · have := m.right mm
      subst this
      exact ⟨a, p, .inl ⟨rfl, rfl⟩, m, ToS.of I s (I.mir_of_mut m), .est k n v a0 ar⟩
    · have := m.symm.right mm
      subst this
      exact ⟨a, i, .inr ⟨rfl, rfl⟩, m.symm, ToS.of I s (I.mir_of_mut m.symm), .est k n v a0 ar⟩
end Go.Proofs.Qxb6500351aGreat
