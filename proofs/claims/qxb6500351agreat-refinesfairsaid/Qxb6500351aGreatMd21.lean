/- THE WORLD in memory: its parts as single groups; the calls over them. -/
import Derived.Test.Qxb6500351aGreatPl51
import Derived.Test.Qxb6500351aGreatW66
import Derived.Test.Qxb6500351aGreatW37
import Derived.Test.Qxb6500351aGreatW44
set_option linter.unusedVariables false
set_option linter.unusedSimpArgs false
namespace Go.Proofs.Qxb6500351aGreat
open Go.Eng
/-- a call's claim in a wider memory, laid anew -/
theorem _root_.Go.Eng.Trip.over {P : Program} {f : FuncId} {args : Array Value} {A S : SH} {F : List Chunk} {R R2 : Value → SH → Prop} (h : Trip P f args A R) (p : S.flatten.Perm (A.flatten ++ F))
    (hR : ∀ u A', R u A' → ∃ S', R2 u S' ∧ (A'.flatten ++ F).Perm S'.flatten) : Trip P f args S R2 :=
  h.frame (F := [F]) (by unfold Sel; simpa using p) fun u A' hu => by
    obtain ⟨S', h1, h2⟩ := hR u A' hu
    exact ⟨S', by simpa using h2, h1⟩
/-! ### hosts -/
def hG (q : HP) (lk : Lk) (dr : Nat → Int) (H : Hst) : List Chunk := (q.h, .cells (q.hs H dr).enc 111 (0, 0)) :: (q.l, .cells lk.enc 146 (0, 0)) :: (q.p, .cells H.p.enc 153 (0, 0)) :: (q.t, .cells H.t.enc 159 (0, 0)) :: q.csG H.c
def HP.v (q : HP) : Value := ptr q.h
def HP.bl (q : HP) : Bl := ⟨ptr q.l, ptr q.p, fun j => ptr (q.b j), ptr q.t⟩
def HsP (H : Nat → Hst) (P : Nat → HP) (g : List Chunk) : Prop := ∃ (lk : Nat → Lk) (dr : Nat → Nat → Int), (∀ i, i < 3 → (lk i).addr = (H i).addr) ∧ g = hG (P 0) (lk 0) (dr 0) (H 0) ++ (hG (P 1) (lk 1) (dr 1) (H 1) ++ hG (P 2) (lk 2) (dr 2) (H 2))
/-- three hosts: their pointers, their layers, their blocks -/
def HsG (H : Nat → Hst) (hv : Nat → Value) (bv : Nat → Bl) (g : List Chunk) : Prop := ∃ P : Nat → HP, (∀ i, i < 3 → hv i = (P i).v ∧ bv i = (P i).bl) ∧ HsP H P g
theorem perm_mid (a b c : List Chunk) : (a ++ (b ++ c)).Perm (b ++ (a ++ c)) := List.perm_append_comm_assoc a b c
theorem perm_end (a b c : List Chunk) : (a ++ (b ++ c)).Perm (c ++ (a ++ b)) := by
  rw [← List.append_assoc]; exact List.perm_append_comm
theorem HsP.at {H : Nat → Hst} {P : Nat → HP} {g : List Chunk} (h : HsP H P g) {c : Nat} (c3 : c < 3) :
    ∃ lk dr rest, lk.addr = (H c).addr ∧ g.Perm (hG (P c) lk dr (H c) ++ rest) ∧ ∀ H' lk' dr', lk'.addr = H'.addr → ∃ g', HsP (upA H c H') P g' ∧ (hG (P c) lk' dr' H' ++ rest).Perm g' := by
  obtain ⟨lk, dr, ha, rfl⟩ := h
  have key : ∀ H' lk', lk'.addr = H'.addr → ∀ i, i < 3 → (upA lk c lk' i).addr = (upA H c H' i).addr := fun H' lk' e i i3 => by
    unfold upA; split
    · exact e
    · exact ha i i3
  have hc : c = 0 ∨ c = 1 ∨ c = 2 := by omega
  rcases hc with rfl | rfl | rfl
  · exact ⟨lk 0, dr 0, _, ha 0 (by omega), List.Perm.refl _, fun H' lk' dr' e => ⟨_, ⟨upA lk 0 lk', upA dr 0 dr', key H' lk' e, rfl⟩, List.Perm.refl _⟩⟩
  · exact ⟨lk 1, dr 1, _, ha 1 (by omega), perm_mid _ _ _, fun H' lk' dr' e => ⟨_, ⟨upA lk 1 lk', upA dr 1 dr', key H' lk' e, rfl⟩, perm_mid _ _ _⟩⟩
  · exact ⟨lk 2, dr 2, _, ha 2 (by omega), perm_end _ _ _, fun H' lk' dr' e => ⟨_, ⟨upA lk 2 lk', upA dr 2 dr', key H' lk' e, rfl⟩, (perm_end _ _ _).symm⟩⟩
theorem HsG.at {H : Nat → Hst} {hv : Nat → Value} {bv : Nat → Bl} {g : List Chunk} (h : HsG H hv bv g) {c : Nat} (c3 : c < 3) :
    ∃ q lk dr rest, hv c = ptr q.h ∧ bv c = q.bl ∧ lk.addr = (H c).addr ∧ g.Perm (hG q lk dr (H c) ++ rest) ∧ ∀ H' lk' dr', lk'.addr = H'.addr → ∃ g', HsG (upA H c H') hv bv g' ∧ (hG q lk' dr' H' ++ rest).Perm g' := by
  obtain ⟨P, hP, hs⟩ := h
  obtain ⟨lk, dr, rest, a1, a2, a3⟩ := hs.at c3
  exact ⟨P c, lk, dr, rest, (hP c c3).1, (hP c c3).2, a1, a2, fun H' lk' dr' e => by
    obtain ⟨g', b1, b2⟩ := a3 H' lk' dr' e
    exact ⟨g', ⟨P, hP, b1⟩, b2⟩⟩
theorem HsG.same {H H' : Nat → Hst} {hv : Nat → Value} {bv : Nat → Bl} {g : List Chunk} (h : HsG H hv bv g) (e : ∀ i, i < 3 → H' i = H i) : HsG H' hv bv g := by
  obtain ⟨P, hP, lk, dr, ha, hg⟩ := h
  exact ⟨P, hP, lk, dr, fun i i3 => by rw [e i i3]; exact ha i i3, by rw [e 0 (by omega), e 1 (by omega), e 2 (by omega)]; exact hg⟩
/-- a frame list, maybe nil -/
abbrev Frs (v : Value) (fr : List (List Int)) (gv gd : List Chunk) : Prop := LstN 81 1 rowR v fr gv gd
section
variable {H : Nat → Hst} {hv : Nat → Value} {bv : Nat → Bl} {g : List Chunk} {c : Nat}
/-- what a call leaves: frames, the host's new state, and what was lent -/
def HPost (H : Nat → Hst) (hv : Nat → Value) (bv : Nat → Bl) (c : Nat) (FR : List (List Int)) (H' : Hst) (X : SH) (mk : Value → Value) (u : Value) (S' : SH) : Prop :=
  ∃ (v : Value) (gv gd g' : List Chunk), u = mk v ∧ Frs v FR gv gd ∧ HsG (upA H c H') hv bv g' ∧ S' = gv :: gd :: g' :: X
theorem o5 (q : HP) (lk : Lk) (dr : Nat → Int) (K : Hst) (X : SH) (rest : List Chunk) : ([(q.h, .cells (q.hs K dr).enc 111 (0, 0))] :: [(q.l, .cells lk.enc 146 (0, 0))] :: [(q.p, .cells K.p.enc 153 (0, 0))] :: [(q.t, .cells K.t.enc 159 (0, 0))] :: q.csG K.c :: X : SH).flatten ++ rest = hG q lk dr K ++ (X.flatten ++ rest) := by
  simp [hG]
theorem o5p {g : List Chunk} {q : HP} {lk : Lk} {dr : Nat → Int} {K : Hst} {rest : List Chunk} (X : SH) (h : g.Perm (hG q lk dr K ++ rest)) : (g :: X : SH).flatten.Perm (([(q.h, .cells (q.hs K dr).enc 111 (0, 0))] :: [(q.l, .cells lk.enc 146 (0, 0))] :: [(q.p, .cells K.p.enc 153 (0, 0))] :: [(q.t, .cells K.t.enc 159 (0, 0))] :: q.csG K.c :: X : SH).flatten ++ rest) := by
  rw [o5, List.flatten_cons]
  refine (List.Perm.append_right _ h).trans ?_
  rw [List.append_assoc]
  exact List.Perm.append_left _ List.perm_append_comm
theorem o5q {g : List Chunk} {q : HP} {lk : Lk} {dr : Nat → Int} {K : Hst} {rest : List Chunk} (X : SH) (h : (hG q lk dr K ++ rest).Perm g) : (([(q.h, .cells (q.hs K dr).enc 111 (0, 0))] :: [(q.l, .cells lk.enc 146 (0, 0))] :: [(q.p, .cells K.p.enc 153 (0, 0))] :: [(q.t, .cells K.t.enc 159 (0, 0))] :: q.csG K.c :: X : SH).flatten ++ rest).Perm (g :: X : SH).flatten := (o5p X h.symm).symm
/-- the way back behind a call that answered frames -/
theorem HPost.mk {q : HP} {rest g' gv gd : List Chunk} {H' : Hst} {lk' : Lk} {dr' : Nat → Int} {FR : List (List Int)} {v u : Value} {m : Value → Value} {X : SH} (hu : u = m v) (hF : Frs v FR gv gd) (hg : HsG (upA H c H') hv bv g') (hp : (hG q lk' dr' H' ++ rest).Perm g') {A' : SH}
    (hA : A' = gv :: gd :: [(q.h, .cells (q.hs H' dr').enc 111 (0, 0))] :: [(q.l, .cells lk'.enc 146 (0, 0))] :: [(q.p, .cells H'.p.enc 153 (0, 0))] :: [(q.t, .cells H'.t.enc 159 (0, 0))] :: q.csG H'.c :: X) : ∃ S', HPost H hv bv c FR H' X m u S' ∧ (A'.flatten ++ rest).Perm S'.flatten := by
  refine ⟨_, ⟨v, gv, gd, g', hu, hF, hg, rfl⟩, ?_⟩
  subst hA
  rw [List.flatten_cons, List.flatten_cons, List.flatten_cons, List.flatten_cons, List.append_assoc, List.append_assoc]
  exact List.Perm.append_left _ (List.Perm.append_left _ (o5q X hp))
theorem HPost.mk0 {q : HP} {rest g' : List Chunk} {H' : Hst} {lk' : Lk} {dr' : Nat → Int} {FR : List (List Int)} {u : Value} {m : Value → Value} {X : SH} (hu : u = m (.slice none 0 0)) (hF : FR = []) (hg : HsG (upA H c H') hv bv g') (hp : (hG q lk' dr' H' ++ rest).Perm g') {A' : SH}
    (hA : A' = [(q.h, .cells (q.hs H' dr').enc 111 (0, 0))] :: [(q.l, .cells lk'.enc 146 (0, 0))] :: [(q.p, .cells H'.p.enc 153 (0, 0))] :: [(q.t, .cells H'.t.enc 159 (0, 0))] :: q.csG H'.c :: X) : ∃ S', HPost H hv bv c FR H' X m u S' ∧ (A'.flatten ++ rest).Perm S'.flatten := by
  subst hF
  refine ⟨_, ⟨_, [], [], g', hu, LstN.nil, hg, rfl⟩, ?_⟩
  subst hA
  exact o5q X hp
/-! #### calls -/
theorem Hst.dispH_addr (K : Hst) (s : Int) (sg : Seg) : (K.dispH s sg).addr = K.addr := by
  unfold Hst.dispH
  repeat' split
  · exact Hst.emitH_addr _ _ _
  · unfold Hst.toLisH; split
    · rfl
    · exact Hst.emitH_addr _ _ _
  · rfl
  · exact Hst.sendH_addr _ _ _
theorem Hst.pIn_addr (K : Hst) (l : List Int) : (K.pIn l).addr = K.addr := by unfold Hst.pIn; split <;> rfl
theorem Hst.inputH_addr (K : Hst) (l : List Int) : (K.inputH l).addr = K.addr := by
  unfold Hst.inputH; split
  · exact Hst.pIn_addr _ _
  · exact (Hst.dispH_addr _ _ _).trans (Hst.pIn_addr _ _)
theorem Hst.conH_addr (K : Hst) (a b : Int) : (K.conH a b).addr = K.addr := by
  unfold Hst.conH; split
  · rfl
  · exact Hst.emitH_addr _ _ _
theorem Hst.shutdown_addr (K : Hst) (sd : Int) : (K.shutdown sd).addr = K.addr := Hst.shutH_addr _ _ _
theorem i85 (hh : HsG H hv bv g) (c3 : c < 3) (ok : (H c).Ok) (hlo : (H c).lost + 200 ≤ 1152921504606846976) (hcl : (H c).clock < 1152921504606846976) (h0k : (H c).tick0.Ok) (htk : (H c).tick0.tickOk (H c).t.list) :
    Trip Tryz.prog 85 #[hv c] [g] (HPost H hv bv c ((H c).tick0.tickF (H c).t.list) ((H c).tick0.tickH (H c).t.list) [] id) := by
  obtain ⟨q, lk, dr, rest, e1, e2, a1, a2, a3⟩ := hh.at c3
  rw [e1]
  refine (t85 q (H c) lk dr ok a1 hlo hcl h0k htk).over (F := rest) (o5p [] a2) ?_
  rintro u A' ⟨lk', dr', v', gv', gd', b1, b2, b3, b4⟩
  obtain ⟨g', d1, d2⟩ := a3 ((H c).tick0.tickH (H c).t.list) lk' dr' (b1.trans (Hst.tickH_addr (H c).t.list (H c).tick0).symm)
  exact HPost.mk b2 (.of b3) d1 d2 b4
theorem i79 (hh : HsG H hv bv g) (c3 : c < 3) (ok : (H c).Ok) (hlo : (H c).lost + 50 ≤ 1152921504606846976) (b : Nat) (l : List Int) (hb : Bytes l) (hl : l.length ≤ 1000) (hD : ∀ s g, (H c).segIn l = some (s, g) → (H c).DispOk s g) :
    Trip Tryz.prog 79 #[hv c, byV b l] [g, byG b l 5] (HPost H hv bv c ((H c).inputF l) ((H c).inputH l) [byG b l 5] id) := by
  obtain ⟨q, lk, dr, rest, e1, e2, a1, a2, a3⟩ := hh.at c3
  rw [e1]
  refine (t79 q (H c) lk dr b 0 l.length l.length 5 (bV l).toArray l ok a1 hlo (BytAt.full hb (by omega)) hD).over (F := rest) (o5p _ a2) ?_
  rintro u A' ⟨lk', dr', v', gv', gd', b1, b2, b3, b4⟩
  obtain ⟨g', d1, d2⟩ := a3 _ lk' dr' (b1.trans (Hst.inputH_addr _ _).symm)
  exact HPost.mk b2 (.of b3) d1 d2 b4
def Hst.conS (K : Hst) (a b : Int) : Int := if (K.t.connect a b).2.1 = 0 then (K.t.connect a b).1 else 0
theorem i90 (hh : HsG H hv bv g) (c3 : c < 3) (ok : (H c).Ok) (hlo : (H c).lost + 50 ≤ 1152921504606846976) (h5 : (H c).t.nextSd < 1152921504606846976) (rh rp : Int) (h7 : ((H c).t.connect rh rp).2.1 = 0 → (((H c).t.connect rh rp).2.2.get ((H c).t.connect rh rp).1).2 = 0 ∧ (0 ≤ ((H c).conEn rh rp).slot ∧ ((H c).conEn rh rp).slot < 4) ∧ ((H c).c ((H c).conEn rh rp).slot.toNat).x.st = 0) :
    Trip Tryz.prog 90 #[hv c, .int .i64 rh, .int .i64 rp] [g] (HPost H hv bv c ((H c).conF rh rp) ((H c).conH rh rp) [] (fun v => .tuple #[.int .i64 ((H c).conS rh rp), v, .int .i64 ((H c).t.connect rh rp).2.1])) := by
  obtain ⟨q, lk, dr, rest, e1, e2, a1, a2, a3⟩ := hh.at c3
  rw [e1]
  refine (t90 q (H c) lk dr rh rp ok a1 hlo h5 h7).over (F := rest) (o5p _ a2) ?_
  rintro u A' (⟨b1, b2, b3⟩ | ⟨b1, lk', dr', v', gv', gd', b2, b3, b4, b5⟩)
  · obtain ⟨g', d1, d2⟩ := a3 ((H c).conH rh rp) lk dr (a1.trans (Hst.conH_addr _ _ _).symm)
    exact HPost.mk0 (by unfold Hst.conS; rw [if_neg b1]; exact b2) (by unfold Hst.conF; rw [if_pos b1]) d1 d2 b3
  · obtain ⟨g', d1, d2⟩ := a3 _ lk' dr' (b2.trans (Hst.conH_addr _ _ _).symm)
    exact HPost.mk (by unfold Hst.conS; rw [if_pos b1, b1]; exact b3) (.of b4) d1 d2 b5
def Hst.sndN (K : Hst) (sd : Int) (l : List Int) : Int := if K.sendE sd l = 0 then ((K.cn sd).send l).2.1 else 0
def Hst.sndF (K : Hst) (sd : Int) (l : List Int) : List (List Int) := if K.sendE sd l = 0 then K.emitF (K.ent sd) ((K.cn sd).send l).2.2.1 else []
def Hst.sndH (K : Hst) (sd : Int) (l : List Int) : Hst := if K.sendE sd l = 0 then K.aft sd ((K.cn sd).send l).1 ((K.cn sd).send l).2.2.1 else K
theorem upA_self {α : Type} (f : Nat → α) (i : Nat) : upA f i (f i) = f := by funext j; unfold upA; split <;> simp_all
theorem i95 (hh : HsG H hv bv g) (c3 : c < 3) (ok : (H c).Ok) (hlo : (H c).lost + 50 ≤ 1152921504606846976) (sd : Int) (b : Nat) (l : List Int) (hb : Bytes l) (hl : l.length ≤ 1099511627776) (hsl : (H c).oursB sd = true → 0 ≤ ((H c).ent sd).slot ∧ ((H c).ent sd).slot < 4) :
    Trip Tryz.prog 95 #[hv c, .int .i64 sd, byV b l] [g, byG b l 5] (HPost H hv bv c ((H c).sndF sd l) ((H c).sndH sd l) [byG b l 5] (fun v => .tuple #[.int .i64 ((H c).sndN sd l), v, .int .i64 ((H c).sendE sd l)])) := by
  obtain ⟨q, lk, dr, rest, e1, e2, a1, a2, a3⟩ := hh.at c3
  rw [e1]
  refine (t95 q (H c) lk dr sd b 0 l.length l.length 5 (bV l).toArray l ok a1 hlo (BytAt.full hb (by omega)) hsl).over (F := rest) (o5p _ a2) ?_
  unfold Hst.sndF Hst.sndH Hst.sndN
  rintro u A' (⟨b1, b2, b3⟩ | ⟨b1, lk', dr', v', gv', gd', b2, b3, b4, b5⟩)
  · obtain ⟨g', d1, d2⟩ := a3 (H c) lk dr a1
    rw [if_neg b1, if_neg b1, if_neg b1]
    exact HPost.mk0 b2 rfl d1 d2 b3
  · obtain ⟨g', d1, d2⟩ := a3 _ lk' dr' (b2.trans (Hst.aft_addr _ _ _ _).symm)
    rw [if_pos b1, if_pos b1, if_pos b1, b1]
    exact HPost.mk b3 (.of b4) d1 d2 b5
/-- a row of bytes, maybe nil -/
def RwG (v : Value) (l : List Int) (g : List Chunk) : Prop := Bytes l ∧ l.length ≤ 1000 ∧ ((v = .slice none 0 0 ∧ l = [] ∧ g = []) ∨ ∃ b, v = byV b l ∧ g = byG b l 5)
theorem RwG.byt {v : Value} {l : List Int} {g : List Chunk} (h : RwG v l g) : Byt v l g := by
  obtain ⟨h1, h2, ⟨rfl, rfl, rfl⟩ | ⟨b, rfl, rfl⟩⟩ := h
  · exact .inl ⟨rfl, rfl, rfl⟩
  · exact .inr ⟨b, 0, l.length, l.length, _, 5, rfl, rfl, BytAt.full h1 (by omega)⟩
def Hst.rcvB (K : Hst) (sd mx : Int) : List Int := if K.recvE sd mx = 0 then ((K.cn sd).recv mx).2.1 else []
def Hst.rcvF (K : Hst) (sd mx : Int) : List (List Int) := if K.recvE sd mx = 0 then K.emitF (K.ent sd) ((K.cn sd).recv mx).2.2.1 else []
def Hst.rcvH (K : Hst) (sd mx : Int) : Hst := if K.recvE sd mx = 0 then K.aft sd ((K.cn sd).recv mx).1 ((K.cn sd).recv mx).2.2.1 else K
theorem i98 (hh : HsG H hv bv g) (c3 : c < 3) (ok : (H c).Ok) (hlo : (H c).lost + 50 ≤ 1152921504606846976) (sd mx : Int) (hq : (H c).oursB sd = true → ((H c).cn sd).x.st = 4 → ((H c).cn sd).x.why = 0 → ((H c).cn sd).x.peerFin = true) (hsl : (H c).oursB sd = true → 0 ≤ ((H c).ent sd).slot ∧ ((H c).ent sd).slot < 4) (hrb : Bytes ((H c).rcvB sd mx) ∧ ((H c).rcvB sd mx).length ≤ 1000) :
    Trip Tryz.prog 98 #[hv c, .int .i64 sd, .int .i64 mx] [g] (fun u S' => ∃ (bb : Value) (gb : List Chunk) (v : Value) (gv gd g' : List Chunk), u = .tuple #[bb, v, .int .i64 ((H c).recvE sd mx)] ∧ RwG bb ((H c).rcvB sd mx) gb ∧ Frs v ((H c).rcvF sd mx) gv gd ∧ HsG (upA H c ((H c).rcvH sd mx)) hv bv g' ∧ S' = [gb, gv, gd, g']) := by
  obtain ⟨q, lk, dr, rest, e1, e2, a1, a2, a3⟩ := hh.at c3
  rw [e1]
  refine (t98 q (H c) lk dr sd mx ok a1 hlo hq hsl).over (F := rest) (o5p _ a2) ?_
  unfold Hst.rcvB at hrb
  unfold Hst.rcvB Hst.rcvF Hst.rcvH
  rintro u A' (⟨b1, b2, b3⟩ | ⟨b1, lk', dr', v', gv', gd', bb, b2, b3, b4, b5⟩)
  · obtain ⟨g', d1, d2⟩ := a3 (H c) lk dr a1
    rw [if_neg b1] at hrb
    rw [if_neg b1, if_neg b1, if_neg b1]
    refine ⟨[[], [], [], g'], ⟨_, [], _, [], [], g', b2, ⟨hrb.1, hrb.2, .inl ⟨rfl, rfl, rfl⟩⟩, LstN.nil, d1, rfl⟩, ?_⟩
    subst b3
    exact o5q [] d2
  · obtain ⟨g', d1, d2⟩ := a3 _ lk' dr' (b2.trans (Hst.aft_addr _ _ _ _).symm)
    rw [if_pos b1] at hrb
    rw [if_pos b1, if_pos b1, if_pos b1, b1]
    refine ⟨[byG bb _ 5, gv', gd', g'], ⟨_, _, _, _, _, g', b3, ⟨hrb.1, hrb.2, .inr ⟨bb, rfl, rfl⟩⟩, .of b4, d1, rfl⟩, ?_⟩
    subst b5
    rw [List.flatten_cons, List.flatten_cons, List.flatten_cons, List.flatten_cons, List.flatten_cons, List.flatten_cons, List.append_assoc, List.append_assoc, List.append_assoc]
    exact List.Perm.append_left _ (List.Perm.append_left _ (List.Perm.append_left _ (o5q [] d2)))
def Hst.closeG (K : Hst) (sd : Int) : List (List Int) := if K.closeE sd = 0 then K.closeF sd else []
def Hst.closeK (K : Hst) (sd : Int) : Hst := if K.closeE sd = 0 then K.closeH sd else K
theorem Hst.closeH_addr (K : Hst) (sd : Int) : (K.closeH sd).addr = K.addr := by
  unfold Hst.closeH; split
  · exact Hst.shutdown_addr _ _
  · exact Hst.aft_addr _ _ _ _
theorem i104 (hh : HsG H hv bv g) (c3 : c < 3) (ok : (H c).Ok) (hlo : (H c).lost + 200 ≤ 1152921504606846976) (sd : Int) (hsh : (H c).lisB sd = true → (H c).ShutOk sd) (hsl : (H c).oursB sd = true → 0 ≤ ((H c).ent sd).slot ∧ ((H c).ent sd).slot < 4) :
    Trip Tryz.prog 104 #[hv c, .int .i64 sd] [g] (HPost H hv bv c ((H c).closeG sd) ((H c).closeK sd) [] (fun v => .tuple #[v, .int .i64 ((H c).closeE sd)])) := by
  obtain ⟨q, lk, dr, rest, e1, e2, a1, a2, a3⟩ := hh.at c3
  rw [e1]
  refine (t104 q (H c) lk dr sd ok a1 hlo hsh hsl).over (F := rest) (o5p _ a2) ?_
  unfold Hst.closeG Hst.closeK
  rintro u A' (⟨b1, b2, b3⟩ | ⟨b1, lk', dr', v', gv', gd', b2, b3, b4, b5⟩)
  · obtain ⟨g', d1, d2⟩ := a3 (H c) lk dr a1
    rw [if_neg b1, if_neg b1]
    exact HPost.mk0 b2 rfl d1 d2 b3
  · obtain ⟨g', d1, d2⟩ := a3 _ lk' dr' (b2.trans (Hst.closeH_addr _ _).symm)
    rw [if_pos b1, if_pos b1, b1]
    exact HPost.mk b3 (.of b4) d1 d2 b5
def Hst.abortG (K : Hst) (sd : Int) : List (List Int) := if K.abortE sd = 0 then K.abortF sd else []
def Hst.abortK (K : Hst) (sd : Int) : Hst := if K.abortE sd = 0 then K.abortH sd else K
theorem Hst.abortH_addr (K : Hst) (sd : Int) : (K.abortH sd).addr = K.addr := by
  unfold Hst.abortH; split
  · exact Hst.shutdown_addr _ _
  · exact Hst.aft_addr _ _ _ _
theorem i103 (hh : HsG H hv bv g) (c3 : c < 3) (ok : (H c).Ok) (hlo : (H c).lost + 200 ≤ 1152921504606846976) (sd : Int) (hsh : (H c).lisB sd = true → (H c).ShutOk sd) (hsl : (H c).oursB sd = true → 0 ≤ ((H c).ent sd).slot ∧ ((H c).ent sd).slot < 4) :
    Trip Tryz.prog 103 #[hv c, .int .i64 sd] [g] (HPost H hv bv c ((H c).abortG sd) ((H c).abortK sd) [] (fun v => .tuple #[v, .int .i64 ((H c).abortE sd)])) := by
  obtain ⟨q, lk, dr, rest, e1, e2, a1, a2, a3⟩ := hh.at c3
  rw [e1]
  refine (t103 q (H c) lk dr sd ok a1 hlo hsh hsl).over (F := rest) (o5p _ a2) ?_
  unfold Hst.abortG Hst.abortK
  rintro u A' (⟨b1, b2, b3⟩ | ⟨b1, lk', dr', v', gv', gd', b2, b3, b4, b5⟩)
  · obtain ⟨g', d1, d2⟩ := a3 (H c) lk dr a1
    rw [if_neg b1, if_neg b1]
    exact HPost.mk0 b2 rfl d1 d2 b3
  · obtain ⟨g', d1, d2⟩ := a3 _ lk' dr' (b2.trans (Hst.abortH_addr _ _).symm)
    rw [if_pos b1, if_pos b1, b1]
    exact HPost.mk b3 (.of b4) d1 d2 b5
/-! #### reading -/
/-- what Info answers -/
def InfG (e : Int) (ci : Ci) (v : Value) (g : List Chunk) : Prop := (e ≠ 0 ∧ v = .pointer none ∧ g = []) ∨ (e = 0 ∧ ∃ b, v = .pointer (some ⟨b, 0, none⟩) ∧ g = [(b, .cells ci.enc 95 (0, 0))])
theorem Tb.get_err {t : Tb} {sd : Int} (h : (t.get sd).2 ≠ 0) : t.get sd = (En.zero, 21) := by
  unfold Tb.get at *; split
  · rfl
  · rename_i k; rw [if_neg k] at h; exact absurd rfl h
theorem i32 (hh : HsG H hv bv g) (c3 : c < 3) (ok : (H c).Ok) (sd : Int) (hsl : (H c).err sd = 0 → ((H c).ent sd).kind = 2 → 0 ≤ ((H c).ent sd).slot ∧ ((H c).ent sd).slot < 4) :
    Trip Tryz.prog 32 #[hv c, .int .i64 sd] [g] (fun u S' => ∃ (pc : Value) (gc : List Chunk), u = .tuple #[.agg (Si.mk ((H c).ent sd) pc).enc, .int .i64 ((H c).err sd)] ∧ InfG ((H c).err sd) ((H c).infoC sd) pc gc ∧ S' = [gc, g]) := by
  obtain ⟨q, lk, dr, rest, e1, e2, a1, a2, a3⟩ := hh.at c3
  rw [e1]
  have p1 : g.Perm ([(q.h, .cells (q.hs (H c) dr).enc 111 (0, 0))] ++ ([(q.t, .cells (H c).t.enc 159 (0, 0))] ++ (q.csG (H c).c ++ ([(q.l, .cells lk.enc 146 (0, 0)), (q.p, .cells (H c).p.enc 153 (0, 0))] ++ rest)))) := by
    refine a2.trans (List.Perm.cons _ ?_)
    exact (perm_mid [(q.l, .cells lk.enc 146 (0, 0)), (q.p, .cells (H c).p.enc 153 (0, 0))] [(q.t, .cells (H c).t.enc 159 (0, 0))] (q.csG (H c).c ++ rest)).trans (List.Perm.cons _ (perm_mid _ (q.csG (H c).c) rest))
  refine (t32 q (H c) lk dr sd ok hsl).over (F := [(q.l, .cells lk.enc 146 (0, 0)), (q.p, .cells (H c).p.enc 153 (0, 0))] ++ rest) (by simpa using p1) ?_
  rintro u A' (⟨b1, b2, b3⟩ | ⟨b1, e', ci, b, rfl, rfl, b4, b5⟩)
  · refine ⟨[[], g], ⟨.pointer none, [], ?_, .inl ⟨b1, rfl, rfl⟩, rfl⟩, ?_⟩
    · rw [b2]
      have := Tb.get_err b1
      have h1 : (H c).ent sd = En.zero := by unfold Hst.ent; rw [this]
      have h2 : (H c).err sd = 21 := by unfold Hst.err; rw [this]
      rw [h1, h2]; rfl
    · subst b3; simpa using p1.symm
  · refine ⟨[_, g], ⟨_, _, ?_, .inr ⟨b1, b, rfl, rfl⟩, rfl⟩, ?_⟩
    · rw [b4, b1]
    · subst b5; simpa using p1.symm
theorem i25 (hh : HsG H hv bv g) (c3 : c < 3) (ok : (H c).Ok) (hck : (H c).ChkOk) : Trip Tryz.prog 25 #[hv c] [g] (fun u S' => u = .bool true ∧ S' = [g]) := by
  obtain ⟨q, lk, dr, rest, e1, e2, a1, a2, a3⟩ := hh.at c3
  rw [e1]
  refine (t25 q (H c) lk dr ok a1 hck).over (F := rest) (o5p _ a2) ?_
  rintro u A' ⟨b1, b2⟩
  exact ⟨_, ⟨b1, rfl⟩, by subst b2; exact o5q [] a2.symm⟩
theorem hG1 {q : HP} {lk : Lk} {dr : Nat → Int} {K : Hst} {g rest : List Chunk} (h : g.Perm (hG q lk dr K ++ rest)) : ([g] : SH).flatten.Perm (([[(q.h, .cells (q.hs K dr).enc 111 (0, 0))]] : SH).flatten ++ (([(q.l, .cells lk.enc 146 (0, 0)), (q.p, .cells K.p.enc 153 (0, 0)), (q.t, .cells K.t.enc 159 (0, 0))] ++ q.csG K.c) ++ rest)) := by
  simpa [hG] using h
theorem hG2 {q : HP} {lk : Lk} {dr : Nat → Int} {K : Hst} {g rest : List Chunk} (h : g.Perm (hG q lk dr K ++ rest)) : ([g] : SH).flatten.Perm (([[(q.h, .cells (q.hs K dr).enc 111 (0, 0))], [(q.t, .cells K.t.enc 159 (0, 0))]] : SH).flatten ++ (([(q.l, .cells lk.enc 146 (0, 0)), (q.p, .cells K.p.enc 153 (0, 0))] ++ q.csG K.c) ++ rest)) := by
  have h2 : g.Perm ((q.h, .cells (q.hs K dr).enc 111 (0, 0)) :: ((q.t, .cells K.t.enc 159 (0, 0)) :: ([(q.l, .cells lk.enc 146 (0, 0)), (q.p, .cells K.p.enc 153 (0, 0))] ++ (q.csG K.c ++ rest)))) := by
    refine h.trans ?_
    unfold hG
    simp only [List.cons_append, List.nil_append]
    exact List.Perm.cons _ (perm_mid [_, _] [_] _)
  simpa using h2
theorem hG3 {q : HP} {lk : Lk} {dr : Nat → Int} {K : Hst} {g rest : List Chunk} (h : g.Perm (hG q lk dr K ++ rest)) : ([g] : SH).flatten.Perm (([[(q.t, .cells K.t.enc 159 (0, 0))]] : SH).flatten ++ (([(q.h, .cells (q.hs K dr).enc 111 (0, 0)), (q.l, .cells lk.enc 146 (0, 0)), (q.p, .cells K.p.enc 153 (0, 0))] ++ q.csG K.c) ++ rest)) := by
  have h2 : g.Perm ([(q.t, .cells K.t.enc 159 (0, 0))] ++ ([(q.h, .cells (q.hs K dr).enc 111 (0, 0)), (q.l, .cells lk.enc 146 (0, 0)), (q.p, .cells K.p.enc 153 (0, 0))] ++ (q.csG K.c ++ rest))) := by
    refine h.trans ?_
    unfold hG
    exact perm_mid [_, _, _] [_] _
  simpa using h2
theorem i26 (hh : HsG H hv bv g) (c3 : c < 3) (ok : (H c).Ok) : Trip Tryz.prog 26 #[hv c] [g] (fun u S' => u = .int .i64 (H c).clock ∧ S' = [g]) := by
  obtain ⟨q, lk, dr, rest, e1, e2, a1, a2, a3⟩ := hh.at c3
  rw [e1]
  refine (t26 q (H c) lk dr ok).over (hG1 a2) ?_
  rintro u A' ⟨b1, b2⟩
  exact ⟨_, ⟨b1, rfl⟩, by subst b2; exact (hG1 a2).symm⟩
theorem i27 (hh : HsG H hv bv g) (c3 : c < 3) (ok : (H c).Ok) : Trip Tryz.prog 27 #[hv c] [g] (fun u S' => u = .int .i64 (H c).lost ∧ S' = [g]) := by
  obtain ⟨q, lk, dr, rest, e1, e2, a1, a2, a3⟩ := hh.at c3
  rw [e1]
  refine (t27 q (H c) lk dr ok).over (hG1 a2) ?_
  rintro u A' ⟨b1, b2⟩
  exact ⟨_, ⟨b1, rfl⟩, by subst b2; exact (hG1 a2).symm⟩
theorem i28 (hh : HsG H hv bv g) (c3 : c < 3) (ok : (H c).Ok) : Trip Tryz.prog 28 #[hv c] [g] (fun u S' => ∃ b2, u = inV b2 (H c).t.list ∧ S' = [inG b2 (H c).t.list 3, g]) := by
  obtain ⟨q, lk, dr, rest, e1, e2, a1, a2, a3⟩ := hh.at c3
  rw [e1]
  refine (t28 q (H c) lk dr ok).over (hG2 a2) ?_
  rintro u A' ⟨b2, b1, rfl⟩
  refine ⟨_, ⟨b2, b1, rfl⟩, ?_⟩
  rw [List.flatten_cons, List.flatten_cons (l := inG _ _ _), List.append_assoc]
  exact List.Perm.append_left _ (hG2 a2).symm
theorem i89 (hh : HsG H hv bv g) (c3 : c < 3) (ok : (H c).Ok) (h5 : (H c).t.nextSd < 1152921504606846976) (p : Int) : Trip Tryz.prog 89 #[hv c, .int .i64 p] [g] (fun u S' => ∃ g', u = .tuple #[.int .i64 ((H c).t.listen p).1, .int .i64 ((H c).t.listen p).2.1] ∧ HsG (upA H c { (H c) with t := ((H c).t.listen p).2.2 }) hv bv g' ∧ S' = [g']) := by
  obtain ⟨q, lk, dr, rest, e1, e2, a1, a2, a3⟩ := hh.at c3
  rw [e1]
  refine (t89 q (H c) lk dr p ok h5).over (hG2 a2) ?_
  rintro u A' ⟨t', rfl, b2, b3, rfl⟩
  obtain ⟨g', d1, d2⟩ := a3 { (H c) with t := ((H c).t.listen p).2.2 } lk dr a1
  exact ⟨_, ⟨g', b3, d1, rfl⟩, (hG2 (K := { (H c) with t := ((H c).t.listen p).2.2 }) d2.symm).symm⟩
theorem i93 (hh : HsG H hv bv g) (c3 : c < 3) (ok : (H c).Ok) (p : Int) (hk : -998 ≤ ((H c).t.rows ((H c).t.find p).toNat).kids) : Trip Tryz.prog 93 #[hv c, .int .i64 p] [g] (fun u S' => ∃ g', u = .tuple #[.int .i64 ((H c).t.accept p).1, .int .i64 ((H c).t.accept p).2.1] ∧ HsG (upA H c { (H c) with t := ((H c).t.accept p).2.2 }) hv bv g' ∧ S' = [g']) := by
  obtain ⟨q, lk, dr, rest, e1, e2, a1, a2, a3⟩ := hh.at c3
  rw [e1]
  refine (t93 q (H c) lk dr p ok hk).over (hG2 a2) ?_
  rintro u A' ⟨t', rfl, b2, b3, rfl⟩
  obtain ⟨g', d1, d2⟩ := a3 { (H c) with t := ((H c).t.accept p).2.2 } lk dr a1
  exact ⟨_, ⟨g', b3, d1, rfl⟩, (hG2 (K := { (H c) with t := ((H c).t.accept p).2.2 }) d2.symm).symm⟩
theorem i65 (hh : HsG H hv bv g) (c3 : c < 3) : Trip Tryz.prog 65 #[(bv c).t] [g] (fun u S' => ∃ b2, u = inV b2 (H c).t.list ∧ S' = [inG b2 (H c).t.list 3, g]) := by
  obtain ⟨q, lk, dr, rest, e1, e2, a1, a2, a3⟩ := hh.at c3
  rw [e2]
  refine (t65 q.t (H c).t).over (hG3 a2) ?_
  rintro u A' ⟨b2, b1, rfl⟩
  refine ⟨_, ⟨b2, b1, rfl⟩, ?_⟩
  rw [List.flatten_cons, List.flatten_cons (l := inG _ _ _), List.append_assoc]
  exact List.Perm.append_left _ (hG3 a2).symm
theorem i66 (hh : HsG H hv bv g) (c3 : c < 3) (sd : Int) : Trip Tryz.prog 66 #[(bv c).t, .int .i64 sd] [g] (fun u S' => u = .tuple #[.agg ((H c).ent sd).enc, .int .i64 ((H c).err sd)] ∧ S' = [g]) := by
  obtain ⟨q, lk, dr, rest, e1, e2, a1, a2, a3⟩ := hh.at c3
  rw [e2]
  refine (t66 q.t (H c).t sd).over (hG3 a2) ?_
  rintro u A' ⟨e', r', rfl, rfl, b1, rfl⟩
  exact ⟨_, ⟨b1, rfl⟩, (hG3 a2).symm⟩
theorem i67 (hh : HsG H hv bv g) (c3 : c < 3) (ok : (H c).Ok) (j : Nat) (hj : j < 4) : Trip Tryz.prog 67 #[(bv c).c j] [g] (fun u S' => ∃ b2, u = .pointer (some ⟨b2, 0, none⟩) ∧ S' = [[(b2, .cells ((H c).c j).info.enc 95 (0, 0))], g]) := by
  obtain ⟨q, lk, dr, rest, e1, e2, a1, a2, a3⟩ := hh.at c3
  rw [e2]
  have p1 : g.Perm (q.cnG (H c).c j ++ (q.oth (H c).c j ++ ([(q.h, .cells (q.hs (H c) dr).enc 111 (0, 0)), (q.l, .cells lk.enc 146 (0, 0)), (q.p, .cells (H c).p.enc 153 (0, 0)), (q.t, .cells (H c).t.enc 159 (0, 0))] ++ rest))) := by
    refine a2.trans ?_
    unfold hG
    refine (perm_mid [_, _, _, _] (q.csG (H c).c) rest).trans ?_
    rw [← List.append_assoc (q.cnG _ _)]
    exact List.Perm.append_right _ (q.cs_perm _ hj)
  refine (t67 (q.b j) (q.s j) (q.r j) ((H c).c j).x ((H c).c j).s ((H c).c j).r (ok.c j)).over (F := q.oth (H c).c j ++ ([(q.h, .cells (q.hs (H c) dr).enc 111 (0, 0)), (q.l, .cells lk.enc 146 (0, 0)), (q.p, .cells (H c).p.enc 153 (0, 0)), (q.t, .cells (H c).t.enc 159 (0, 0))] ++ rest)) (by simpa [HP.cnG] using p1) ?_
  rintro u A' ⟨b2, b1, rfl⟩
  refine ⟨_, ⟨b2, b1, rfl⟩, ?_⟩
  simpa [HP.cnG] using p1.symm
end
end Go.Proofs.Qxb6500351aGreat
