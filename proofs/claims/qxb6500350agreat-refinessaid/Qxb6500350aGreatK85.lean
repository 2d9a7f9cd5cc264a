/- PLAIN LAW: THE TOWER'S LAW (5): THE CUT AND THE RECOVERY. -/
import Derived.Test.Qxb6500350aGreatK84
set_option linter.unusedVariables false
set_option linter.unusedSimpArgs false
set_option maxHeartbeats 2000000
namespace Go.Proofs.Qxb6500350aGreat
open Go.Eng Go
/-- at the mark nothing had lasted; all that was done since is the building -/
def Fresh (d : Dev) (A : Int → Ob) (root : Int) : Prop := blkOf d.base 0 = supB AF 0 ∧ Done (Dev.at0 d.base) AF d A root ∧ d.at_.length = 3
/-- what the device held at the mark stands for the model before -/
def Was (d : Dev) (m mb : RepoM) (A : Int → Ob) (root : Int) : Prop :=
  ∃ A0 root0 ord0 K0 bs0 t0 s0 d0 g0, Gr t0 s0 d0 g0 A0 root0 ord0 K0 bs0 (histOf mb) ∧ d0.blk = d.base ∧ mb.room ≤ nfr A0 ∧ ((A = A0 ∧ histOf m = histOf mb ∧ Spill (Dev.at0 d.base) A0 d) ∨ Done (Dev.at0 d.base) A0 d A root)
/-- the state of the walk -/
structure Run (i : Int) (d : Dev) (s : Store) (t : Trees) (g : Graph) (x : Index) (r : RepoR) (m mb : RepoM) (exact : Bool) (A : Int → Ob) (root : Int) (ord : List Int) (K : Int → CI) (bs : List Brn) : Prop where
  sys : Sys t s d g x r A root ord K bs m
  mi : MI m
  lax : m.lax = true
  mib : MI mb
  laxb : mb.lax = true
  rm : m.room ≤ nfr A
  ex : exact = true → (nfr A : Int) = m.room
  lo : -(2000000 + 300 * i) ≤ m.room ∧ -(2000000 + 300 * i) ≤ mb.room
  nx : m.nxt ≤ 1 + i ∧ mb.nxt ≤ 1 + i
  past : (Fresh d A root ∧ histOf m = Hist.new ∧ histOf mb = Hist.new ∧ m.room ≤ 46 ∧ mb.room ≤ 46) ∨ Was d m mb A root
/-- behind a cut -/
structure Cut (k n0 : Int) (m mb : RepoM) (exact : Bool) (b : Below) (d : Dev) (s : Store) (t : Trees) (g : Graph) (x : Index) (r : RepoR) (A : Int → Ob) (root : Int) (ord : List Int) (K : Int → CI) (bs : List Brn) : Prop where
  old : k < n0 ∨ k ≤ 0 → Sys t s d g x r A root ord K bs (crash mb) ∧ mb.room ≤ nfr A
  new : n0 ≤ k → Sys t s d g x r A root ord K bs (crash m) ∧ m.room ≤ nfr A ∧ (exact = true → (nfr A : Int) = m.room)
  kind : (b.rooted = true ∧ ∃ l, d = Dev.at0 l) ∨ (b.rooted = false ∧ Fresh d A root ∧ histOf m = Hist.new ∧ histOf mb = Hist.new ∧ m.room ≤ 46 ∧ mb.room ≤ 46)
theorem agr_hist {m m' : RepoM} (h : histOf m = histOf m') : Agr (crash m) (crash m') := by
  have h1 : m.index = m'.index := congrArg Hist.aux h
  refine ⟨congrArg Hist.nodes h, congrArg Hist.nxt h, congrArg Hist.refs h, congrArg Hist.head h, h1, ?_⟩
  show plainF m.index = plainF m'.index
  rw [h1]
section
variable {n : Nat} {i : Int} {t t0 : Trees} {s s0 : Store} {d d0 : Dev} {g g0 : Graph} {x : Index} {r : RepoR} {A A0 : Int → Ob} {root root0 : Int} {ord ord0 : List Int} {K K0 : Int → CI} {bs bs0 : List Brn} {m m' mb : RepoM} {H : Hist} {b : Below} {k : Int} {exact : Bool}
theorem after_root {l : List UInt8} (hn : 100010 ≤ n) (hcut : m69 n d k = some (Dev.at0 l)) (hl : l.length = 9280) (h : Gr t0 s0 d0 g0 A root ord K bs (histOf m)) (h0 : blkOf l 0 = d0.B 0) (hB : ∀ b, usedB A b = true → blkOf l b = d0.B b) :
    Ok (m21 n d b k) (fun q => (q.1.rooted = true ∧ q.2.1 = Dev.at0 l) ∧ Sys q.2.2.2.1 q.2.2.1 q.2.1 q.2.2.2.2.1 q.2.2.2.2.2.1 q.2.2.2.2.2.2.2 A root ord K bs (crash m)) := by
  have hgd := Dev.at0_good hl
  have hrk := h.rk
  have hsup : blkOf l 0 = supB A root := h0.trans h.las.sup
  unfold m21
  refine Ok_cl1 hcut (Ok_cl1 (mark_ok (by omega) hgd.toWf) (Ok_cl2 (read_ok (by omega) hgd.toWf (by omega) (by omega)) ?_))
  rw [show (Dev.at0 (Dev.at0 l).blk).B 0 = supB A root from hsup]
  refine Ok_ix (by omega) (by rw [supB_len]; omega) (fun y hy => ?_)
  obtain rfl : u8 root = y := Option.some.inj ((supB_zero A root).symm.trans hy)
  rw [u8_nat (by omega) (by omega)]
  refine Ok_ob7 ((reopen_ok hn h hl h0 hB).mono (fun q hq => Ok_nm (Ok.some' ⟨⟨?_, hq.1⟩, hq.2⟩)))
  show decide (¬ (root = 0)) = true
  exact decide_eq_true (by omega)
theorem after_new {l : List UInt8} (hn : 100010 ≤ n) (hcut : m69 n d k = some (Dev.at0 l)) (hl : l.length = 9280) (h0 : blkOf l 0 = supB AF 0) (hH : histOf m = Hist.new) :
    Ok (m21 n d b k) (fun q => q.1.rooted = false ∧ ∃ A' root', Sys q.2.2.2.1 q.2.2.1 q.2.1 q.2.2.2.2.1 q.2.2.2.2.2.1 q.2.2.2.2.2.2.2 A' root' [] (fun _ => ⟨0, 0, [], [], []⟩) [] (crash m) ∧ Done (Dev.at0 l) AF q.2.1 A' root' ∧ q.2.1.at_.length = 3 ∧ 46 ≤ nfr A') := by
  have hgd := Dev.at0_good hl
  unfold m21
  refine Ok_cl1 hcut (Ok_cl1 (mark_ok (by omega) hgd.toWf) (Ok_cl2 (read_ok (by omega) hgd.toWf (by omega) (by omega)) ?_))
  rw [show (Dev.at0 (Dev.at0 l).blk).B 0 = supB AF 0 from h0]
  refine Ok_ix (by omega) (by rw [supB_len]; omega) (fun y hy => ?_)
  obtain rfl : u8 0 = y := Option.some.inj ((supB_zero AF 0).symm.trans hy)
  exact Ok_ob7 ((newopen_ok hn hl h0 hH).mono (fun q hq => Ok_nm (Ok.some' ⟨rfl, hq⟩)))
/-- a part of the spilled blocks lies over what lasts -/
theorem spill_keep {l : List UInt8} {W : List (Int × List UInt8)} (hl : l.length = 9280) (hW : ∀ w, w ∈ W → 0 ≤ w.1 ∧ w.1 < 145 ∧ w.2.length = 64) (hA : ∀ w, w ∈ W → 1 ≤ w.1 ∧ w.1 < 145 ∧ usedB A w.1 = false) :
    blkOf (applyW l W) 0 = blkOf l 0 ∧ ∀ b, 1 ≤ b → b < 145 → usedB A b = true → blkOf (applyW l W) b = blkOf l b := by
  refine ⟨applyW_out hl hW (by omega) (by omega) (fun w hw e => by have := (hA w hw).1; omega), fun b b0 b1 hb => applyW_out hl hW (by omega) b1 (fun w hw e => ?_)⟩
  have := (hA w hw).2.2
  rw [e, hb] at this; cases this
theorem after_ok (hn : 1000000 ≤ n) (h : Run i d s t g x r m mb exact A root ord K bs) :
    Ok (m21 n d b k) (fun q => ∃ A' root' ord' K' bs', Cut k d.at_.length m mb exact q.1 q.2.1 q.2.2.1 q.2.2.2.1 q.2.2.2.2.1 q.2.2.2.2.2.1 q.2.2.2.2.2.2.2 A' root' ord' K' bs') := by
  have hgr := h.sys.gr
  have hgd := hgr.lt.gd
  have hwr := hgr.lt.wr
  have hcut := cut_ok (k := k) hn hgd.toWf (by omega)
  have hwl := Dev.ws_len d
  have hmem : ∀ w, w ∈ d.ws → 0 ≤ w.1 ∧ w.1 < 145 ∧ w.2.length = 64 := fun w hw => Dev.ws_mem hgd.toWf hw
  have hl : (applyW d.base (d.ws.take k.toNat)).length = 9280 := applyW_len hgd.la (fun w hw => hmem w (List.mem_of_mem_take hw))
  -- all that was written is there
  have whole : (d.at_.length : Int) ≤ k → (k < d.at_.length ∨ k ≤ 0 → False) → Ok (m21 n d b k) (fun q => ∃ A' root' ord' K' bs', Cut k d.at_.length m mb exact q.1 q.2.1 q.2.2.1 q.2.2.2.1 q.2.2.2.2.1 q.2.2.2.2.2.1 q.2.2.2.2.2.2.2 A' root' ord' K' bs') := by
    intro hk hno
    have hblk : applyW d.base (d.ws.take k.toNat) = d.blk := by rw [List.take_of_length_le (by omega), hgd.rec_]
    refine (after_root (by omega) hcut hl hgr (by rw [hblk]) (fun b _ => by rw [hblk])).mono (fun q hq => ⟨A, root, ord, K, bs, fun hh => absurd hh hno, fun _ => ⟨hq.2, h.rm, h.ex⟩, .inl ⟨hq.1.1, _, hq.1.2⟩⟩)
  rcases h.past with ⟨⟨f1, f2, f3⟩, f4, f5, f6, f7⟩ | ⟨A0, root0, ord0, K0, bs0, t0, s0, d0, g0, w1, w2, w3, w4⟩
  · -- the building
    by_cases hk : (d.at_.length : Int) ≤ k
    · exact whole hk (by omega)
    obtain ⟨_, W, e1, e2, e3⟩ := f2
    rw [at0_ws, List.nil_append] at e1
    have hWl : W.length = 2 := by
      have := congrArg List.length e1
      rw [hwl, f3, List.length_append, List.length_singleton] at this; omega
    have htake : d.ws.take k.toNat = W.take k.toNat := by rw [e1, List.take_append_of_le_length (by omega)]
    have hb0 : blkOf (applyW d.base (d.ws.take k.toNat)) 0 = supB AF 0 := by
      rw [← f1]
      refine (spill_keep (A := AF) hgd.la (fun w hw => hmem w (List.mem_of_mem_take hw)) (fun w hw => ?_)).1
      rw [htake] at hw
      exact e3 w (List.mem_of_mem_take hw)
    refine (after_new (by omega) hcut hl hb0 f5).mono (fun q hq => ?_)
    obtain ⟨q1, A', root', q2, q3, q4, q5⟩ := hq
    have hbase : q.2.1.base = applyW d.base (d.ws.take k.toNat) := q3.1
    refine ⟨A', root', _, _, _, fun _ => ⟨q2, by omega⟩, fun hh => absurd hh hk, .inr ⟨q1, ⟨by rw [hbase]; exact hb0, by rw [hbase]; exact q3, q4⟩, f4, f5, f6, f7⟩⟩
  · have hlas := w1.las
    have part : (∀ w, w ∈ d.ws.take k.toNat → 1 ≤ w.1 ∧ w.1 < 145 ∧ usedB A0 w.1 = false) → Ok (m21 n d b k) (fun q => (q.1.rooted = true ∧ q.2.1 = Dev.at0 (applyW d.base (d.ws.take k.toNat))) ∧ Sys q.2.2.2.1 q.2.2.1 q.2.1 q.2.2.2.2.1 q.2.2.2.2.2.1 q.2.2.2.2.2.2.2 A0 root0 ord0 K0 bs0 (crash mb)) := by
      intro hsp
      obtain ⟨k1, k2⟩ := spill_keep hgd.la (fun w hw => hmem w (List.mem_of_mem_take hw)) hsp
      refine after_root (by omega) hcut hl w1 (by rw [k1, ← w2]) (fun b hb => ?_)
      have := hlas.used hb
      rw [k2 b this.1 this.2 hb, ← w2]
    rcases w4 with ⟨rfl, e1, e2⟩ | e2
    · -- nothing was committed
      obtain ⟨_, W, e3, e4, e5⟩ := e2
      rw [at0_ws, List.nil_append] at e3
      refine (part (fun w hw => e5 w (by rw [← e3]; exact List.mem_of_mem_take hw))).mono (fun q hq => ⟨A, root0, ord0, K0, bs0, fun _ => ⟨hq.2, w3⟩, fun _ => ⟨hq.2.agr (agr_hist e1.symm), h.rm, h.ex⟩, .inl ⟨hq.1.1, _, hq.1.2⟩⟩)
    · -- a command was done
      obtain ⟨_, W, e3, e4, e5⟩ := e2
      rw [at0_ws, List.nil_append] at e3
      have hWl : d.at_.length = W.length + 1 := by rw [← hwl, e3, List.length_append, List.length_singleton]
      by_cases hk : (d.at_.length : Int) ≤ k
      · exact whole hk (by omega)
      have htake : d.ws.take k.toNat = W.take k.toNat := by rw [e3, List.take_append_of_le_length (by omega)]
      refine (part (fun w hw => ?_)).mono (fun q hq => ⟨A0, root0, ord0, K0, bs0, fun _ => ⟨hq.2, w3⟩, fun hh => absurd hh hk, .inl ⟨hq.1.1, _, hq.1.2⟩⟩)
      rw [htake] at hw
      exact e5 w (List.mem_of_mem_take hw)
/-- the recovered tower is the state of the walk again -/
theorem Cut.run {n0 : Int} {m1 : RepoM} {ex : Bool} (c : Cut k n0 m mb exact b d s t g x r A root ord K bs) (hm1 : (m1 = crash m ∧ MI m ∧ m.lax = true ∧ -(2000000 + 300 * i) ≤ m.room ∧ m.nxt ≤ 1 + i) ∨ (m1 = crash mb ∧ MI mb ∧ mb.lax = true ∧ -(2000000 + 300 * i) ≤ mb.room ∧ mb.nxt ≤ 1 + i))
    (hs : Sys t s d g x r A root ord K bs m1) (hr : m1.room ≤ nfr A) (hex : ex = true → (nfr A : Int) = m1.room) : Run i d s t g x r m1 m1 ex A root ord K bs := by
  have hmi : MI m1 ∧ m1.lax = true ∧ -(2000000 + 300 * i) ≤ m1.room ∧ m1.nxt ≤ 1 + i := by
    rcases hm1 with ⟨rfl, h1, h2, h3, h4⟩ | ⟨rfl, h1, h2, h3, h4⟩
    · exact ⟨h1.crash, h2, h3, h4⟩
    · exact ⟨h1.crash, h2, h3, h4⟩
  refine ⟨hs, hmi.1, hmi.2.1, hmi.1, hmi.2.1, hr, hex, ⟨hmi.2.2.1, hmi.2.2.1⟩, ⟨hmi.2.2.2, hmi.2.2.2⟩, ?_⟩
  rcases c.kind with ⟨_, l, rfl⟩ | ⟨_, f1, f2, f3, f4, f5⟩
  · exact .inr ⟨A, root, ord, K, bs, t, s, Dev.at0 l, g, hs.gr, rfl, hr, .inl ⟨rfl, rfl, rfl, [], rfl, by simp, fun w hw => (by cases hw)⟩⟩
  · refine .inl ⟨f1, ?_⟩
    rcases hm1 with ⟨rfl, _⟩ | ⟨rfl, _⟩
    · exact ⟨f2, f2, f4, f4⟩
    · exact ⟨f3, f3, f5, f5⟩
end
end Go.Proofs.Qxb6500350aGreat
