/- THE PLAIN FUNCTIONS of the host; the host's blocks in memory. -/
import Derived.Test.Qxb6500351aGreatMd11
set_option linter.unusedVariables false
set_option linter.unusedSimpArgs false
namespace Go.Proofs.Qxb6500351aGreat
open Go.Eng
/-- where a host lies -/
structure HP where
  h : Nat
  l : Nat
  p : Nat
  t : Nat
  b : Nat → Nat
  s : Nat → Nat
  r : Nat → Nat
/-- a host, without the counters that nobody reads -/
structure Hst where
  addr : Int
  clock : Int
  lost : Int
  p : Ipt
  c : Nat → Conn
  t : Tb
def HP.hs (q : HP) (H : Hst) (dr : Nat → Int) : Hs := ⟨H.addr, H.clock, H.lost, dr, ptr q.l, ptr q.p, fun i => ptr (q.b i), ptr q.t⟩
def HP.cnG (q : HP) (c : Nat → Conn) (k : Nat) : List Chunk := [(q.b k, .cells ((c k).x.cn (q.s k) (q.r k)).enc 167 (0, 0)), (q.s k, .cells (c k).s.enc 162 (0, 0)), (q.r k, .cells (c k).r.enc 165 (0, 0))]
def HP.csG (q : HP) (c : Nat → Conn) : List Chunk := q.cnG c 0 ++ (q.cnG c 1 ++ (q.cnG c 2 ++ q.cnG c 3))
def HP.oth (q : HP) (c : Nat → Conn) : Nat → List Chunk
  | 0 => q.cnG c 1 ++ (q.cnG c 2 ++ q.cnG c 3)
  | 1 => q.cnG c 0 ++ (q.cnG c 2 ++ q.cnG c 3)
  | 2 => q.cnG c 0 ++ (q.cnG c 1 ++ q.cnG c 3)
  | _ => q.cnG c 0 ++ (q.cnG c 1 ++ q.cnG c 2)
theorem HP.cs_perm (q : HP) (c : Nat → Conn) {k : Nat} (hk : k < 4) : (q.csG c).Perm (q.cnG c k ++ q.oth c k) := by
  have : k = 0 ∨ k = 1 ∨ k = 2 ∨ k = 3 := by omega
  rcases this with rfl | rfl | rfl | rfl
  · exact List.Perm.refl _
  · exact List.perm_append_comm_assoc _ _ _
  · exact (List.Perm.append_left _ (List.perm_append_comm_assoc _ _ _)).trans (List.perm_append_comm_assoc _ _ _)
  · exact (List.Perm.append_left _ (List.Perm.append_left _ List.perm_append_comm)).trans ((List.Perm.append_left _ (List.perm_append_comm_assoc _ _ _)).trans (List.perm_append_comm_assoc _ _ _))
theorem HP.cn_up (q : HP) (c : Nat → Conn) {k j : Nat} (x : Conn) (h : j ≠ k) : q.cnG (upA c k x) j = q.cnG c j := by
  unfold HP.cnG upA; rw [if_neg h]
theorem HP.oth_up (q : HP) (c : Nat → Conn) {k : Nat} (hk : k < 4) (x : Conn) : q.oth (upA c k x) k = q.oth c k := by
  have : k = 0 ∨ k = 1 ∨ k = 2 ∨ k = 3 := by omega
  rcases this with rfl | rfl | rfl | rfl <;> simp [HP.oth, HP.cnG, upA]
section
variable {cx : Cx} {e : Env} {R : SH} {Q : Exit → Env → SH → Prop} {x : Code}
/-- one connection is taken out of the host's four -/
theorem c_open (q : HP) (c : Nat → Conn) {k : Nat} (hk : k < 4)
    (h : OkC cx x e ([(q.b k, .cells ((c k).x.cn (q.s k) (q.r k)).enc 167 (0, 0))] :: [(q.s k, .cells (c k).s.enc 162 (0, 0))] :: [(q.r k, .cells (c k).r.enc 165 (0, 0))] :: q.oth c k :: R) Q) : OkC cx x e (q.csG c :: R) Q := by
  refine c_perm ?_ h
  simp only [List.flatten_cons]
  refine (List.Perm.append_right _ (q.cs_perm c hk)).trans ?_
  simp [HP.cnG]
/-- and laid back -/
theorem c_shut (q : HP) (c : Nat → Conn) {k : Nat} (hk : k < 4) (d : Conn)
    (h : OkC cx x e (q.csG (upA c k d) :: R) Q) : OkC cx x e ([(q.b k, .cells (d.x.cn (q.s k) (q.r k)).enc 167 (0, 0))] :: [(q.s k, .cells d.s.enc 162 (0, 0))] :: [(q.r k, .cells d.r.enc 165 (0, 0))] :: q.oth c k :: R) Q := by
  refine c_perm ?_ h
  simp only [List.flatten_cons]
  refine List.Perm.symm ((List.Perm.append_right _ (q.cs_perm (upA c k d) hk)).trans ?_)
  rw [HP.oth_up _ _ hk]
  simp [HP.cnG, upA]
end
structure Hst.Ok (H : Hst) : Prop where
  addr : 1 ≤ H.addr ∧ H.addr ≤ 3
  clock : 0 ≤ H.clock ∧ H.clock ≤ 1152921504606846976
  lost : 0 ≤ H.lost ∧ H.lost ≤ 1152921504606846976
  p : H.p.Ok
  pa : H.p.addr = H.addr
  c : ∀ k, (H.c k).Ok
  t : H.t.Ok
/-! sending -/
def Hst.sendF (H : Hst) (dst : Int) (g : Seg) : List (List Int) := if H.p.credit ≤ 0 then [] else (H.p.out dst 6 (segEnc H.addr dst g)).map (frameEnc dst H.addr 1)
def Hst.sendH (H : Hst) (dst : Int) (g : Seg) : Hst := if H.p.credit ≤ 0 then { H with lost := H.lost + 1 } else { H with p := H.p.sent }
def stamp (e : En) (g : Seg) : Seg := { g with sp := e.lPort, dp := e.rPort }
def Hst.emitF (H : Hst) (e : En) : List Seg → List (List Int)
  | [] => []
  | g :: l => H.sendF e.rHost (stamp e g) ++ (H.sendH e.rHost (stamp e g)).emitF e l
def Hst.emitH (H : Hst) (e : En) : List Seg → Hst
  | [] => H
  | g :: l => (H.sendH e.rHost (stamp e g)).emitH e l
theorem Hst.sendH_addr (H : Hst) (dst : Int) (g : Seg) : (H.sendH dst g).addr = H.addr := by unfold Hst.sendH; split <;> rfl
theorem Hst.sendH_c (H : Hst) (dst : Int) (g : Seg) : (H.sendH dst g).c = H.c := by unfold Hst.sendH; split <;> rfl
theorem Hst.sendH_t (H : Hst) (dst : Int) (g : Seg) : (H.sendH dst g).t = H.t := by unfold Hst.sendH; split <;> rfl
theorem Hst.sendH_clock (H : Hst) (dst : Int) (g : Seg) : (H.sendH dst g).clock = H.clock := by unfold Hst.sendH; split <;> rfl
theorem Hst.ok_sendH {H : Hst} (ok : H.Ok) (dst : Int) (g : Seg) (h : H.lost < 1152921504606846976) : (H.sendH dst g).Ok := by
  unfold Hst.sendH; split
  · exact ⟨ok.addr, ok.clock, ⟨by have := ok.lost; dsimp only; omega, by dsimp only; omega⟩, ok.p, ok.pa, ok.c, ok.t⟩
  · exact ⟨ok.addr, ok.clock, ok.lost, Ipt.ok_sent ok.p (by omega), ok.pa, ok.c, ok.t⟩
theorem Hst.sendH_lost (H : Hst) (dst : Int) (g : Seg) : H.lost ≤ (H.sendH dst g).lost ∧ (H.sendH dst g).lost ≤ H.lost + 1 := by unfold Hst.sendH; split <;> dsimp only <;> omega
theorem Hst.emitH_lost (e : En) : ∀ (l : List Seg) (H : Hst), H.lost ≤ (H.emitH e l).lost ∧ (H.emitH e l).lost ≤ H.lost + l.length
  | [], H => by simp [Hst.emitH]
  | g :: l, H => by
    have h1 := H.sendH_lost e.rHost (stamp e g)
    have h2 := Hst.emitH_lost e l (H.sendH e.rHost (stamp e g))
    simp only [Hst.emitH, List.length_cons]
    omega
theorem Hst.ok_emitH (e : En) : ∀ (l : List Seg) {H : Hst}, H.Ok → H.lost + l.length ≤ 1152921504606846976 → (H.emitH e l).Ok
  | [], H, ok, _ => ok
  | g :: l, H, ok, h => by
    simp only [List.length_cons] at h
    have h1 := H.sendH_lost e.rHost (stamp e g)
    exact Hst.ok_emitH e l (Hst.ok_sendH ok _ _ (by omega)) (by omega)
theorem Ipt.out_len (p : Ipt) (dst proto : Int) (l : List Int) : (p.out dst proto l).length ≤ 2 := by unfold Ipt.out; split <;> simp
theorem Hst.sendF_len (H : Hst) (dst : Int) (g : Seg) : (H.sendF dst g).length ≤ 2 := by
  unfold Hst.sendF; split
  · simp
  · rw [List.length_map]; exact Ipt.out_len _ _ _ _
theorem Hst.emitF_len (e : En) : ∀ (l : List Seg) (H : Hst), (H.emitF e l).length ≤ 2 * l.length
  | [], H => by simp [Hst.emitF]
  | g :: l, H => by
    have h1 := H.sendF_len e.rHost (stamp e g)
    have h2 := Hst.emitF_len e l (H.sendH e.rHost (stamp e g))
    simp only [Hst.emitF, List.length_append, List.length_cons]
    omega
theorem Hst.emitF_append (e : En) : ∀ (l m : List Seg) (H : Hst), H.emitF e (l ++ m) = H.emitF e l ++ (H.emitH e l).emitF e m
  | [], m, H => rfl
  | g :: l, m, H => by simp only [Hst.emitF, Hst.emitH, List.cons_append, List.append_assoc]; rw [Hst.emitF_append e l m]
theorem Hst.emitH_append (e : En) : ∀ (l m : List Seg) (H : Hst), H.emitH e (l ++ m) = (H.emitH e l).emitH e m
  | [], m, H => rfl
  | g :: l, m, H => by simp only [Hst.emitH, List.cons_append]; rw [Hst.emitH_append e l m]
theorem stamp_ok {e : En} (he : e.Ok) {g : Seg} (h : g.Ok) : (stamp e g).Ok :=
  ⟨by have := he.lp; show 0 ≤ e.lPort ∧ e.lPort < 256; omega, by have := he.rp; show 0 ≤ e.rPort ∧ e.rPort < 256; omega, h.seq, h.ack, h.flags, h.wnd, h.len, h.bytes⟩
theorem frameEnc_b {dst src typ : Int} {p : List Int} (h1 : 0 ≤ dst ∧ dst < 256) (h2 : 0 ≤ src ∧ src < 256) (h3 : 0 ≤ typ ∧ typ < 256) (h4 : p.length < 256) (hb : Bytes p) : Bytes (frameEnc dst src typ p) := by
  unfold frameEnc frameBody
  refine Bytes.append (Bytes.append ?_ hb) ?_
  · intro x hx
    simp only [List.mem_cons, List.not_mem_nil, or_false] at hx
    rcases hx with rfl | rfl | rfl | rfl <;> omega
  · intro x hx
    have k := fun l => smAll_b Sm.zero l (by decide)
    simp only [List.mem_cons, List.not_mem_nil, or_false] at hx
    rcases hx with rfl | rfl
    · exact ⟨(k _).1, (k _).2.1⟩
    · exact ⟨(k _).2.2.1, (k _).2.2.2⟩
theorem map_take {α β : Type} (f : α → β) (L : List α) (fr : List β) (k : Nat) (h : k < L.length) : fr ++ (L.take k).map f ++ [f L[k]] = fr ++ (L.take (k + 1)).map f := by
  rw [List.take_add_one, List.getElem?_eq_getElem h, List.map_append, List.append_assoc]
  rfl
theorem Ipt.out_24 {p : Ipt} {dst proto : Int} {l : List Int} (h : l.length ≤ 32) (k : Nat) (hk : k < (p.out dst proto l).length) : ((p.out dst proto l)[k]).length ≤ 24 := by
  have : ∀ x, x ∈ p.out dst proto l → x.length ≤ 24 := by
    intro x hx
    unfold Ipt.out at hx
    split at hx
    · simp only [List.mem_cons, List.not_mem_nil, or_false] at hx
      subst hx; rw [ipPkt_len]; omega
    · simp only [List.mem_cons, List.not_mem_nil, or_false] at hx
      rcases hx with rfl | rfl <;> rw [ipPkt_len]
      · rw [List.length_take]; omega
      · rw [List.length_drop]; omega
  exact this _ (List.getElem_mem hk)
theorem LOpen.seg {b cap : Nat} {cur : Array Value} {l : List Seg} {gd : List Chunk} (h : LOpen 178 7 segR b cap cur l gd) (k : Nat) (hk : k < l.length) :
    ∃ br ga gb, gd = ga ++ byG br (l[k]).data 5 ++ gb ∧ (∀ o, o = 0 + k * 7 → cur.extract o (o + 7) = (segC br l[k]).enc) ∧ (∀ o, o = 0 + k * 7 → o + 7 ≤ cur.size) := by
  obtain ⟨x, ga, g1, gb, h1, ⟨br, h2, h3⟩, h6, h7⟩ := h.at k hk
  subst h2 h3
  have hs : ∀ o, o = 0 + k * 7 → o + 7 ≤ cur.size := by
    intro o ho
    have h2 := h.size
    have h3 := h.le
    have : (k + 1) * 7 ≤ cap * 7 := Nat.mul_le_mul_right _ (by omega)
    omega
  refine ⟨br, ga, gb, h6, fun o ho => ?_, hs⟩
  have hs' := hs o ho
  apply Array.ext'
  rw [Array.toList_extract, List.extract_eq_take_drop]
  apply List.ext_getElem?
  intro j
  rw [List.getElem?_take]
  by_cases hj : j < 7
  · rw [if_pos (by omega), List.getElem?_drop, Array.getElem?_toList]
    exact h7 j _ (by omega) (by omega)
  · rw [if_neg (by omega), List.getElem?_eq_none]
    rw [h1]; omega
theorem emit_take {H : Hst} {e : En} {l : List Seg} {k : Nat} (h : k < l.length) : H.emitH e (l.take (k + 1)) = (H.emitH e (l.take k)).sendH e.rHost (stamp e l[k]) := by
  rw [List.take_add_one, List.getElem?_eq_getElem h, Hst.emitH_append]; rfl
theorem emitF_take {H : Hst} {e : En} {l : List Seg} {k : Nat} (h : k < l.length) : H.emitF e (l.take (k + 1)) = H.emitF e (l.take k) ++ (H.emitH e (l.take k)).sendF e.rHost (stamp e l[k]) := by
  rw [List.take_add_one, List.getElem?_eq_getElem h, Hst.emitF_append]; simp [Hst.emitF]
theorem Hst.emitH_addr (e : En) : ∀ (l : List Seg) (H : Hst), (H.emitH e l).addr = H.addr
  | [], H => rfl
  | g :: l, H => by simp only [Hst.emitH]; rw [Hst.emitH_addr e l, Hst.sendH_addr]
theorem Hst.emitH_c (e : En) : ∀ (l : List Seg) (H : Hst), (H.emitH e l).c = H.c
  | [], H => rfl
  | g :: l, H => by simp only [Hst.emitH]; rw [Hst.emitH_c e l, Hst.sendH_c]
theorem Hst.emitH_t (e : En) : ∀ (l : List Seg) (H : Hst), (H.emitH e l).t = H.t
  | [], H => rfl
  | g :: l, H => by simp only [Hst.emitH]; rw [Hst.emitH_t e l, Hst.sendH_t]
theorem Hst.emitH_clock (e : En) : ∀ (l : List Seg) (H : Hst), (H.emitH e l).clock = H.clock
  | [], H => rfl
  | g :: l, H => by simp only [Hst.emitH]; rw [Hst.emitH_clock e l, Hst.sendH_clock]
theorem len_bnd {a b : Nat} (h1 : a ≤ 900000) (h2 : b ≤ 14) : a + 2 * b ≤ 1000000 := by omega
theorem lost_bnd {a : Int} {b : Nat} (h1 : a + 50 ≤ 1152921504606846976) (h2 : b ≤ 14) : a + (b : Int) ≤ 1152921504606846976 := by omega
end Go.Proofs.Qxb6500351aGreat
