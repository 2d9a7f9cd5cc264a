/- PLAIN LAW: THE REPOSITORY (4): WRITE, REMOVE, ADD, RM. -/
import Derived.Test.Qxb6500350aGreatK70
import Derived.Test.Qxb6500350aGreatT48
import Derived.Test.Qxb6500350aGreatT50
import Derived.Test.Qxb6500350aGreatT51
import Derived.Test.Qxb6500350aGreatT52
import Derived.Test.Qxb6500350aGreatT53
import Derived.Test.Qxb6500350aGreatT54
set_option linter.unusedVariables false
set_option linter.unusedSimpArgs false
set_option maxHeartbeats 2000000
namespace Go.Proofs.Qxb6500350aGreat
open Go.Eng Go
theorem withR_mem {q : Int} {name : Str} {x : Ref_} : ∀ {l : List Ref_}, x ∈ withR l name q → x = { name := name, seq := q } ∨ x ∈ l
  | [], h => .inl (List.mem_singleton.1 h)
  | y :: l, h => by
    unfold withR at h
    split at h
    · rcases List.mem_cons.1 h with h | h
      · exact .inl h
      · exact .inr h
    · split at h
      · rcases List.mem_cons.1 h with h | h
        · exact .inl h
        · exact .inr (List.mem_cons_of_mem _ h)
      · rcases List.mem_cons.1 h with h | h
        · exact .inr (by rw [h]; simp)
        · exact (withR_mem h).imp id (List.mem_cons_of_mem _)
theorem findR_with {q : Int} {name : Str} : ∀ {l : List Ref_}, findR (withR l name q) name = some { name := name, seq := q }
  | [] => by unfold findR withR; simp
  | y :: l => by
    have ih := findR_with (q := q) (name := name) (l := l)
    unfold withR
    split
    · unfold findR; simp
    · split
      · unfold findR; simp
      · rename_i h
        unfold findR at ih ⊢
        rw [List.find?_cons_of_neg (by simpa using fun e => h e.symm)]
        exact ih
theorem findR_with_ne {q : Int} {name p : Str} (hp : p ≠ name) : ∀ {l : List Ref_}, findR (withR l name q) p = findR l p
  | [] => by unfold findR withR; simp [Ne.symm hp]
  | y :: l => by
    have ih := findR_with_ne (q := q) hp (l := l)
    unfold findR at ih ⊢
    unfold withR
    split
    · rw [List.find?_cons_of_neg (by simpa using Ne.symm hp)]
    · split
      · rename_i h
        rw [List.find?_cons_of_neg (by simpa using Ne.symm hp), List.find?_cons_of_neg (by simpa [← h] using Ne.symm hp)]
      · by_cases e : y.name = p
        · rw [List.find?_cons_of_pos (by simpa using e), List.find?_cons_of_pos (by simpa using e)]
        · rw [List.find?_cons_of_neg (by simpa using e), List.find?_cons_of_neg (by simpa using e)]; exact ih
section
variable {t : Trees} {s : Store} {d : Dev} {g : Graph} {A : Int → Ob} {root : Int} {ord : List Int} {K : Int → CI} {bs : List Brn} {m : RepoM} {H : Hist}
theorem Gm.node (h : Gm t s d g A root ord K bs H) {q : Int} : (∃ x, x ∈ H.nodes ∧ x.seq = q) ↔ ∃ i, i ∈ ord ∧ (K i).seq = q := by
  rw [h.nodes]
  constructor
  · rintro ⟨x, hx, e⟩
    obtain ⟨i, hi, rfl⟩ := List.mem_map.1 hx
    exact ⟨i, hi, e⟩
  · rintro ⟨i, hi, e⟩
    exact ⟨_, List.mem_map_of_mem hi, e⟩
/-- most of what a model keeps is told by the graph -/
theorem mi_of (h : Gm t s d g A root ord K bs (histOf m)) (hmd : ∀ x, x ∈ m.nodes → ∀ f, f ∈ x.files → f.mode = 0) (mo : m.head.merge ≠ 0 → atM m ≠ 0 ∧ atM m ≠ m.head.merge) (ub : m.head.name ≠ [] → findR m.refs m.head.name = none → m.refs = [])
    (im : ∀ f, f ∈ m.index → f.mode = 0 ∨ (f.mode = 1 ∧ m.head.merge ≠ 0)) (wk : Law m.work) (wm : ∀ f, f ∈ m.work → f.mode = 0) : MI m := by
  have ht := h.tab
  have hc := h.cur
  have hnodes : m.nodes = ord.map (nodeOf K) := h.nodes
  have hrefs : m.refs = bs.map (toRef fun i => (K i).seq) := hc.refs
  have hnd := fun {q : Int} => h.node (q := q)
  refine ⟨⟨?_, ?_, ?_, ?_⟩, ?_, ?_, ?_, ?_, ?_, ?_, ?_, mo, ub, h.laux, im, wk, wm⟩
  · rw [hnodes, List.length_map]; exact ht.le
  · rw [hnodes, List.pairwise_map]
    refine List.pairwise_iff_getElem.2 (fun i j hi hj hij => ?_)
    show (K ord[i]).seq < (K ord[j]).seq
    have e1 := ht.od.oget (i : Int) (by omega) (by have := ht.od.n; omega)
    have e2 := ht.od.oget (j : Int) (by omega) (by have := ht.od.n; omega)
    rw [Int.toNat_natCast, List.getElem?_eq_getElem hi] at e1
    rw [Int.toNat_natCast, List.getElem?_eq_getElem hj] at e2
    have hlt := ht.od.lt (j := (i : Int)) (k := (j : Int)) (by omega) (by omega) (by have := ht.od.n; omega)
    rw [← Option.some.inj e1, ← Option.some.inj e2, ht.comseq (List.getElem_mem hi), ht.comseq (List.getElem_mem hj)] at hlt
    exact hlt
  · intro x hx
    rw [hnodes] at hx
    obtain ⟨i, hi, rfl⟩ := List.mem_map.1 hx
    exact ⟨(ht.law i hi).num, by show ((K i).ps.map _).length ≤ 2; rw [List.length_map]; exact (ht.ps i hi).1⟩
  · intro x hx p hp
    rw [hnodes] at hx
    obtain ⟨i, hi, rfl⟩ := List.mem_map.1 hx
    obtain ⟨j, hj, rfl⟩ := List.mem_map.1 (show p ∈ (K i).ps.map _ from hp)
    have := (ht.ps i hi).2 j hj
    exact ⟨nodeOf K j, by rw [hnodes]; exact List.mem_map_of_mem this.1, rfl, this.2⟩
  · intro x hx
    have hx2 := hx
    rw [hnodes] at hx2
    obtain ⟨i, hi, rfl⟩ := List.mem_map.1 hx2
    exact ⟨ht.law i hi, hmd _ hx⟩
  · intro x hx
    rw [hnodes] at hx
    obtain ⟨i, hi, rfl⟩ := List.mem_map.1 hx
    have := ht.seq i hi
    have hn : m.nxt = g.nxt := h.nxt
    exact ⟨this.1, by rw [hn]; exact this.2⟩
  · have hn : m.nxt = g.nxt := h.nxt
    rw [hn]; exact ht.nx.1
  · rw [hrefs, List.length_map]; exact hc.brs.le
  · intro r hr
    rw [hrefs] at hr
    obtain ⟨b, hb, rfl⟩ := List.mem_map.1 hr
    exact ⟨(hc.bid b hb).2, hnd.2 ⟨b.id, (hc.bid b hb).1, rfl⟩⟩
  · rcases hc.hat with ⟨h1, h2, _, h3⟩ | ⟨h1, h2, h3⟩
    · exact .inl ⟨h1, h2, h3⟩
    · exact .inr ⟨h1, hnd.2 ⟨_, h2, h3.symm⟩⟩
  · rcases hc.hm with ⟨h1, _⟩ | ⟨h1, h2⟩
    · exact .inl h1
    · exact .inr (hnd.2 ⟨_, h1, h2.symm⟩)
end
section
variable {n : Nat} {t0 t : Trees} {s0 s : Store} {d0 d : Dev} {g0 g : Graph} {x x0 x1 : Index} {r r0 : RepoR} {A0 A : Int → Ob} {root : Int} {ord0 ord : List Int} {K0 K : Int → CI} {bs0 bs : List Brn} {m0 m m1 : RepoM} {H : Hist}
theorem wrErr_5 {w : List File} {p data : Str} : wrErr w p data ≠ 5 := by
  unfold wrErr fitsV
  split
  · decide
  · split
    · decide
    · split
      · decide
      · split <;> decide
theorem fitsV_0 {l : List File} {p : Str} (h : fitsV l p = 0) : (∀ g, g ∈ l → clashP g.path p = false) ∧ ((∃ g, g ∈ l ∧ g.path = p) ∨ l.length < 8) := by
  unfold fitsV at h
  split at h
  · cases h
  · rename_i hno
    split at h
    · cases h
    · rename_i h8
      refine ⟨fun g hg => ?_, ?_⟩
      · rw [← Bool.not_eq_true]; exact fun e => hno ⟨g, hg, e⟩
      · cases e : findF l p with
        | some f => exact .inl ⟨f, findF_some e⟩
        | none =>
        rcases Nat.lt_or_ge l.length 8 with h | h
        · exact .inr h
        · exact absurd ⟨e, h⟩ h8
theorem path_short {l : List File} (h : Law l) : ∀ g, g ∈ l → g.path.length ≤ 1000 := fun g hg => by have := goodP_len (h.good g hg); omega
theorem write_c {p data : Str} (hn : 100010 ≤ n) (h : Sys t0 s0 d0 g0 x0 r0 A0 root ord0 K0 bs0 m0) (hm : MI m0) (hlax : m0.lax = true) :
    Ok (m48 n m0 p data) (fun qm => Ok (m47 n r0 p data) (fun qr => qr.1 = qm.1 ∧ Bnd m0 qm.2 ∧ Out m0 d0 A0 root ord0 K0 bs0 t0 s0 d0 g0 x0 qr.2 qm.2 qr.1)) := by
  have hw := hm.wk
  have hreal := write_w (p := p) (data := data) (show 100000 ≤ n by omega) h.wk hw
  suffices Ok (m48 n m0 p data) (fun qm => qm.1 = wrErr m0.work p data ∧ (wrErr m0.work p data ≠ 0 → qm.2 = m0) ∧ (wrErr m0.work p data = 0 → qm.2 = { m0 with work := withF m0.work { path := p, data := data, mode := 0 } } ∧ Law (withF m0.work { path := p, data := data, mode := 0 }))) by
    refine this.mono (fun qm hqm => hreal.mono (fun qr hqr => ?_))
    obtain ⟨q1, q2, q3⟩ := hqm
    rcases hqr with ⟨k1, rfl⟩ | ⟨k1, k2, k3⟩
    · rw [q2 k1]
      exact ⟨q1.symm, .refl hlax, .same h hm wrErr_5⟩
    · obtain ⟨e, hl⟩ := q3 k1
      rw [e]
      refine ⟨by rw [k2, q1, k1], ⟨hlax, .inl (by show m0.room - 300 ≤ m0.room; omega), .inl (Int.le_refl _), by show m0.nxt ≤ m0.nxt + 1; omega⟩, ?_⟩
      refine .went (by rw [k2]; decide) ?_ ⟨A0, root, ord0, K0, bs0, ⟨h.gr, h.xf, k3⟩, .inl ⟨rfl, rfl, rfl, rfl⟩, by show (nfr A0 : Int) - nfr A0 ≤ m0.room - m0.room; omega⟩
      refine ⟨hm.wn, hm.law, hm.sq, hm.nx, hm.rl, hm.rg, hm.hd, hm.mg, hm.mo, hm.ub, hm.ix, hm.im, hl, fun f hf => ?_⟩
      rcases (withF_mem hw.srt).1 hf with rfl | hf
      · rfl
      · exact hm.wm f hf.1
  unfold m48 wrErr
  refine Ok_cl1 (goodPath_ok (by omega)) (Ok_iteN (fun e => ?_) (fun e => ?_))
  · rw [if_pos e]; exact Ok.some' ⟨rfl, fun _ => rfl, fun h => absurd h (by decide)⟩
  rw [if_neg (by rw [e]; decide)]
  have hgl := goodP_len e
  refine Ok_ite (fun e2 => ?_) (fun e2 => ?_)
  · rw [if_pos (by omega)]; exact Ok.some' ⟨rfl, fun _ => rfl, fun h => absurd h (by decide)⟩
  rw [if_neg (by omega)]
  have hnum := hw.num
  refine Ok_cl1 (fits_ok (by omega) (by omega) (path_short hw) (by omega)) (Ok_ite (fun e3 => Ok.some' ⟨rfl, fun _ => rfl, fun h => absurd h e3⟩) (fun e3 => ?_))
  have e3 : fitsV m0.work p = 0 := Classical.not_not.1 e3
  obtain ⟨f1, f2⟩ := fitsV_0 e3
  refine Ok_cl1 (with_ok (by omega) (by omega)) (Ok_nmz fun z1 hz1 => Ok.some' ⟨e3.symm, fun h => absurd e3 h, fun _ => ⟨hz1, ?_⟩⟩)
  exact withF_law hw e ⟨by show (0 : Int) ≤ 0; decide, by show (0 : Int) ≤ 3; decide⟩ (by show data.length ≤ 180; omega) f1 f2
theorem remove_c {p : Str} (hn : 100010 ≤ n) (h : Sys t0 s0 d0 g0 x0 r0 A0 root ord0 K0 bs0 m0) (hm : MI m0) (hlax : m0.lax = true) :
    Ok (m50 n m0 p) (fun qm => Ok (m49 n r0 p) (fun qr => qr.1 = qm.1 ∧ Bnd m0 qm.2 ∧ Out m0 d0 A0 root ord0 K0 bs0 t0 s0 d0 g0 x0 qr.2 qm.2 qr.1)) := by
  have hw := hm.wk
  have hnum := hw.num
  have hreal := remove_w (p := p) (show 100000 ≤ n by omega) h.wk hw.num hw.srt
  unfold m50
  refine Ok_ob1 ((findX_ok (by omega) (by omega)).mono (fun i hi => ?_))
  rcases hi with ⟨rfl, e⟩ | ⟨h0, h1, f, _, e⟩
  · refine Ok_ite (fun _ => Ok.some' (hreal.mono (fun qr hqr => ?_))) (fun h => absurd (show (-1 : Int) < 0 by decide) h)
    rcases hqr with ⟨_, rfl⟩ | ⟨k1, _⟩
    · exact ⟨rfl, .refl hlax, .same h hm (by show (13 : Int) ≠ 5; decide)⟩
    · exact absurd e k1
  · refine Ok_ite (fun h => by omega) (fun _ => Ok_cl1 (without_ok (by omega) (by omega)) (Ok_nmz fun z1 hz1 => Ok.some' (hreal.mono (fun qr hqr => ?_))))
    subst hz1
    rcases hqr with ⟨k1, _⟩ | ⟨_, k2, k3⟩
    · rw [e] at k1; cases k1
    · refine ⟨k2, ⟨hlax, .inl (by show m0.room - 300 ≤ m0.room; omega), .inl (Int.le_refl _), by show m0.nxt ≤ m0.nxt + 1; omega⟩, ?_⟩
      refine .went (by rw [k2]; decide) ?_ ⟨A0, root, ord0, K0, bs0, ⟨h.gr, h.xf, k3⟩, .inl ⟨rfl, rfl, rfl, rfl⟩, by show (nfr A0 : Int) - nfr A0 ≤ m0.room - m0.room; omega⟩
      exact ⟨hm.wn, hm.law, hm.sq, hm.nx, hm.rl, hm.rg, hm.hd, hm.mg, hm.mo, hm.ub, hm.ix, hm.im, withoutF_law hw, fun f hf => hm.wm f (withoutF_mem.1 hf).1⟩
/-- the snapshot l is put as the index and all is committed -/
theorem sealed {l : List File} (hn : 100010 ≤ n) (h : Sys t0 s0 d0 g0 x0 r0 A0 root ord0 K0 bs0 m0) (hm : MI m0) (hlax : m0.lax = true) (hrm : -1152921504606846976 ≤ m0.room ∧ m0.room ≤ 48) (hd0 : d0.at_.length ≤ 1000) (hx : XF x1 l) (him : ∀ f, f ∈ l → f.mode = 0 ∨ (f.mode = 1 ∧ m0.head.merge ≠ 0)) :
    Bnd m0 { m0 with index := l, room := wi (m0.room - wi (cost l + 1)) } ∧ Ok (m123 n r0 g0 t0 s0 d0 x1 l) (fun q => (q.1 = 0 ∨ q.1 = 5) ∧ Out m0 d0 A0 root ord0 K0 bs0 q.2.2.1 q.2.2.2.1 q.2.2.2.2.1 q.2.1 q.2.2.2.2.2 r0 { m0 with index := l, room := wi (m0.room - wi (cost l + 1)) } q.1) := by
  have hcr := cost_rng hx.law
  rw [wi_e (x := cost l + 1) (by omega) (by omega), wi_e (x := m0.room - (cost l + 1)) (by omega) (by omega)]
  refine ⟨⟨hlax, .inl (by show m0.room - 300 ≤ m0.room - (cost l + 1); omega), .inl (by show m0.room - (cost l + 1) ≤ m0.room; omega), by show m0.nxt ≤ m0.nxt + 1; omega⟩, ?_⟩
  refine (seal_ok (r := r0) (x := x1) hn h.gr hd0 h.gr.toGm (.refl h.gr.lt.gd) hx.law).mono (fun q hq => ?_)
  rcases hq with ⟨q1, q2, q3⟩ | ⟨q1, q2, A', root', q3, q4, q5⟩
  · exact ⟨.inr q1, .full q1 q3 h.wk (by show (nfr A0 : Int) < m0.room - (m0.room - (cost l + 1)); omega)⟩
  · refine ⟨.inl q1, .went (by rw [q1]; decide) ⟨hm.wn, hm.law, hm.sq, hm.nx, hm.rl, hm.rg, hm.hd, hm.mg, hm.mo, hm.ub, hx.law, him, hm.wk, hm.wm⟩ ⟨A', root', ord0, K0, bs0, ⟨q3, by rw [q2]; exact hx, h.wk⟩, .inr q4, by show (nfr A0 : Int) - nfr A' ≤ m0.room - (m0.room - (cost l + 1)); omega⟩⟩
theorem rm_c {p : Str} (hn : 100010 ≤ n) (h : Sys t0 s0 d0 g0 x0 r0 A0 root ord0 K0 bs0 m0) (hm : MI m0) (hlax : m0.lax = true) (hrm : -1152921504606846976 ≤ m0.room ∧ m0.room ≤ 48) (hd0 : d0.at_.length ≤ 1000) :
    Ok (m54 n m0 p) (fun qm => Ok (m53 n r0 g0 t0 s0 d0 x0 p) (fun q => (q.1 = qm.1 ∨ q.1 = 5) ∧ Bnd m0 qm.2 ∧ Out m0 d0 A0 root ord0 K0 bs0 q.2.2.1 q.2.2.2.1 q.2.2.2.2.1 q.2.1 q.2.2.2.2.2 r0 qm.2 q.1)) := by
  have hix := hm.ix
  have hnum := hix.num
  have hdel := del_x (p := p) (show 100000 ≤ n by omega) h.xf
  have hl := withoutF_law (p := p) hix
  unfold m54
  refine Ok_ob1 ((findX_ok (by omega) (by omega)).mono (fun i hi => ?_))
  rcases hi with ⟨rfl, e⟩ | ⟨h0, h1, f, _, e⟩
  · refine Ok_ite (fun _ => Ok.some' ?_) (fun h => absurd (show (-1 : Int) < 0 by decide) h)
    unfold m53
    refine Ok_ob2 (hdel.mono (fun q hq => ?_))
    rcases hq with ⟨rfl, _⟩ | ⟨_, k1, _⟩
    · exact Ok_ite (fun _ => Ok.some' ⟨.inl rfl, .refl hlax, .same h hm (by show (13 : Int) ≠ 5; decide)⟩) (fun h => absurd (show ¬ ((13 : Int) = 0) by decide) h)
    · exact absurd e k1
  · refine Ok_ite (fun h => by omega) (fun _ => Ok_cl1 (without_ok (by omega) (by omega)) (Ok_cl1 (cost_ok (by omega) hl) (Ok_cl2 (pay_m hlax) ?_)))
    refine Ok_cond (fun e => nomatch e) (fun _ => Ok_nmz fun z2 hz2 => Ok.some' ?_)
    subst hz2
    unfold m53
    refine Ok_ob2 (hdel.mono (fun q hq => ?_))
    rcases hq with ⟨rfl, k1⟩ | ⟨k0, _, k2⟩
    · rw [e] at k1; cases k1
    rw [k0]
    refine Ok_ite (fun h => absurd rfl h) (fun _ => Ok_cl1 (list_x hn k2) ?_)
    obtain ⟨b1, b2⟩ := sealed hn h hm hlax hrm hd0 k2 (fun f hf => hm.im f (withoutF_mem.1 hf).1)
    exact Ok_ob6 (b2.mono (fun q hq => Ok.some' ⟨hq.1.imp id id, b1, hq.2⟩))
theorem add_c {p : Str} (hn : 100010 ≤ n) (h : Sys t0 s0 d0 g0 x0 r0 A0 root ord0 K0 bs0 m0) (hm : MI m0) (hlax : m0.lax = true) (hrm : -1152921504606846976 ≤ m0.room ∧ m0.room ≤ 48) (hd0 : d0.at_.length ≤ 1000) :
    Ok (m52 n m0 p) (fun qm => Ok (m51 n r0 g0 t0 s0 d0 x0 p) (fun q => (q.1 = qm.1 ∨ q.1 = 5) ∧ Bnd m0 qm.2 ∧ Out m0 d0 A0 root ord0 K0 bs0 q.2.2.1 q.2.2.2.1 q.2.2.2.2.1 q.2.1 q.2.2.2.2.2 r0 qm.2 q.1)) := by
  have hix := hm.ix
  have hnum := hix.num
  have hwk := hm.wk
  have hwnum := hwk.num
  have hplace := place_w (p := p) (show 100000 ≤ n by omega) h.wk hwnum hwk.srt
  have tail : ∀ {l : List File} {x1 : Index}, XF x1 l → (∀ f, f ∈ l → f.mode = 0 ∨ (f.mode = 1 ∧ m0.head.merge ≠ 0)) → ∀ {F : List File → Option (Int × Graph × Trees × Store × Dev × Index)}, (F = fun l => ob6 (m123 n r0 g0 t0 s0 d0 x1 l) fun c z2 z3 z4 z5 z6 => some (c, z2, z3, z4, z5, z6)) →
      Ok (ob1 (m124 n l) fun c4 => ob2 (m125 n m0 (wi (c4 + 1))) fun c5 z2 => cond (!c5) (some (5, z2)) (nm ({ z2 with index := l } : RepoM) fun z3 => some (0, z3))) (fun qm => Ok (ob1 (m122 n x1) F) (fun q => (q.1 = qm.1 ∨ q.1 = 5) ∧ Bnd m0 qm.2 ∧ Out m0 d0 A0 root ord0 K0 bs0 q.2.2.1 q.2.2.2.1 q.2.2.2.2.1 q.2.1 q.2.2.2.2.2 r0 qm.2 q.1)) := by
    intro l x1 hx him F hF
    subst hF
    refine Ok_cl1 (cost_ok (by omega) hx.law) (Ok_cl2 (pay_m hlax) (Ok_cond (fun e => nomatch e) (fun _ => Ok_nmz fun z2 hz2 => Ok.some' ?_)))
    subst hz2
    refine Ok_cl1 (list_x hn hx) ?_
    obtain ⟨b1, b2⟩ := sealed hn h hm hlax hrm hd0 hx him
    exact Ok_ob6 (b2.mono (fun q hq => Ok.some' ⟨hq.1.imp id id, b1, hq.2⟩))
  have hfst : ∀ e : Int, e ≠ 0 → e ≠ 5 → Ok (some (e, m0)) (fun qm => Ok (some (e, g0, t0, s0, d0, x0)) (fun q => (q.1 = qm.1 ∨ q.1 = 5) ∧ Bnd m0 qm.2 ∧ Out m0 d0 A0 root ord0 K0 bs0 q.2.2.1 q.2.2.2.1 q.2.2.2.2.1 q.2.1 q.2.2.2.2.2 r0 qm.2 q.1)) :=
    fun e _ he5 => Ok.some' (Ok.some' ⟨.inl rfl, .refl hlax, .same h hm he5⟩)
  unfold m52
  refine Ok_ob1 ((findX_ok (by omega) (by omega)).mono (fun i hi => ?_))
  rcases hi with ⟨rfl, e⟩ | ⟨h0, h1, f, hf, e⟩
  · -- not among the working files: the path leaves the index
    have hdel := del_x (p := p) (show 100000 ≤ n by omega) h.xf
    refine Ok_flow (Ok_ite (fun h => absurd h (by decide)) (fun _ => Ok_ob1 ((findX_ok (by omega) (by omega)).mono (fun j hj => ?_))))
    have real : ∀ {P : Int × Graph × Trees × Store × Dev × Index → Prop}, Ok (ob2 (m121 n x0 p) fun c5 z7 => cond (decide (¬ (c5 = 0))) (some (c5, g0, t0, s0, d0, z7)) (ob1 (m122 n z7) fun l2 => ob6 (m123 n r0 g0 t0 s0 d0 z7 l2) fun c6 z8 z9 z10 z11 z12 => some (c6, z8, z9, z10, z11, z12))) P → Ok (m51 n r0 g0 t0 s0 d0 x0 p) P := by
      intro P hP
      unfold m51
      refine Ok_ob2 (hplace.mono (fun q hq => ?_))
      obtain ⟨w1, w2, hc, _, hq2⟩ := hq
      have : q.2 = false := by
        rw [← Bool.not_eq_true]; intro e2
        obtain ⟨f, t, e3, e4⟩ := hq2.1 e2
        exact findF_none.1 e f (by rw [hc.eq, e3]; simp) e4
      rw [this]
      exact Ok_cond (fun e => nomatch e) (fun _ => hP)
    rcases hj with ⟨rfl, e2⟩ | ⟨j0, j1, f, hf, e2⟩
    · refine Ok_ite (fun h => absurd h (by decide)) (fun _ => Ok_bs (Ok.some' (Ok.some' (real ?_))))
      refine Ok_ob2 (hdel.mono (fun q hq => ?_))
      rcases hq with ⟨rfl, _⟩ | ⟨_, k1, _⟩
      · exact Ok_ite (fun _ => Ok.some' ⟨.inl rfl, .refl hlax, .same h hm (by show (13 : Int) ≠ 5; decide)⟩) (fun h => absurd (show ¬ ((13 : Int) = 0) by decide) h)
      · exact absurd e2 k1
    · refine Ok_ite (fun _ => Ok_cl1 (without_ok (by omega) (by omega)) (Ok.some' ?_)) (fun h => absurd j0 h)
      show Ok (un1 _ _) _
      obtain ⟨q, hq0, hq⟩ := hdel
      rcases hq with ⟨_, k1⟩ | ⟨k0, _, k2⟩
      · rw [e2] at k1; cases k1
      refine (tail k2 (fun f hf => hm.im f (withoutF_mem.1 hf).1) rfl).mono (fun qm hqm => real ?_)
      rw [hq0]
      show Ok (ob2 (some (q.1, q.2)) _) _
      rw [k0]
      refine Ok_cl2 rfl ?_
      exact Ok_ite (fun h => absurd rfl h) (fun _ => hqm)
  · -- among the working files: into the index
    obtain ⟨f1, f2⟩ := findF_some e
    have hgood := hwk.good f f1
    rw [f2] at hgood
    have hgl := goodP_len hgood
    have hsz := hwk.size f f1
    have real : ∀ {P : Int × Graph × Trees × Store × Dev × Index → Prop}, Ok (ob2 (m120 n x0 ({ path := p, data := f.data, mode := 0 } : File)) fun c3 z1 => cond (decide (¬ (c3 = 0))) (some (c3, g0, t0, s0, d0, z1)) (ob1 (m122 n z1) fun l1 => ob6 (m123 n r0 g0 t0 s0 d0 z1 l1) fun c4 z2 z3 z4 z5 z6 => some (c4, z2, z3, z4, z5, z6))) P → Ok (m51 n r0 g0 t0 s0 d0 x0 p) P := by
      intro P hP
      unfold m51
      refine Ok_ob2 (hplace.mono (fun q hq => ?_))
      obtain ⟨w1, w2, hc, hq1, hq2⟩ := hq
      rcases hc.find hwk.srt with ⟨f', t, e3, e4, e5, _, _⟩ | ⟨_, e4, _⟩
      · rw [e] at e5
        obtain rfl := Option.some.inj e5
        have : q.2 = true := hq2.2 ⟨f, t, e3, e4⟩
        have hlw : m0.work.length = w1.length + w2.length := by rw [hc.eq, List.length_append]
        rw [e3, List.length_cons] at hlw
        rw [this, hq1]
        refine Ok_cond (fun _ => Ok_ck (by omega) (by omega) ?_) (fun e => nomatch e)
        have : r0.work w1.length = f := h.wk.get w1.length f (by rw [hc.eq, e3]; simp)
        rw [this]; exact hP
      · rw [e] at e4; cases e4
    have hset := set_x (f := { path := p, data := f.data, mode := 0 }) (show 100000 ≤ n by omega) h.xf hgood ⟨by show (0 : Int) ≤ 0; decide, by show (0 : Int) ≤ 3; decide⟩ hsz
    refine Ok_flow (Ok_ite (fun _ => Ok_cl1 (fits_ok (by omega) (by omega) (path_short hix) (by omega)) (Ok_ite (fun e3 => ?_) (fun e3 => ?_))) (fun h => absurd h0 h))
    · -- it does not fit
      refine Ok_bs (Ok.some' (Ok.some' (real ?_)))
      refine Ok_ob2 (hset.mono (fun q hq => ?_))
      rcases hq with ⟨rfl, k1⟩ | ⟨rfl, k1, k2, k3⟩ | ⟨_, k1, k2, _⟩
      · have : fitsV m0.index p = 12 := by unfold fitsV; rw [if_pos k1]
        rw [this]
        exact Ok_ite (fun _ => Ok.some' ⟨.inl rfl, .refl hlax, .same h hm (by show (12 : Int) ≠ 5; decide)⟩) (fun h => absurd (show ¬ ((12 : Int) = 0) by decide) h)
      · have : fitsV m0.index p = 8 := by
          unfold fitsV
          rw [if_neg (fun ⟨g, hg, hc⟩ => by rw [k1 g hg] at hc; cases hc), if_pos ⟨k2, k3⟩]
        rw [this]
        exact Ok_ite (fun _ => Ok.some' ⟨.inl rfl, .refl hlax, .same h hm (by show (8 : Int) ≠ 5; decide)⟩) (fun h => absurd (show ¬ ((8 : Int) = 0) by decide) h)
      · exfalso
        apply e3
        unfold fitsV
        rw [if_neg (fun ⟨g, hg, hc⟩ => by rw [k1 g hg] at hc; cases hc), if_neg (fun ⟨a, b⟩ => k2.elim (fun h => h a) (fun h => by omega))]
    · have e3 := Classical.not_not.1 e3
      obtain ⟨v1, v2⟩ := fitsV_0 e3
      refine Ok_ix h0 h1 (fun f' hf' => ?_)
      rw [hf] at hf'
      obtain rfl := Option.some.inj hf'
      refine Ok_cl1 (with_ok (by omega) (by omega)) (Ok.some' ?_)
      show Ok (un1 _ _) _
      obtain ⟨q, hq0, hq⟩ := hset
      rcases hq with ⟨_, g, hg, k1⟩ | ⟨_, _, k2, k3⟩ | ⟨k0, _, _, k2⟩
      · have := v1 g hg
        have k1 : clashP g.path p = true := k1
        rw [this] at k1; cases k1
      · rcases v2 with ⟨g, hg, e5⟩ | h8
        · exact absurd e5 (findF_none.1 k2 g hg)
        · omega
      refine (tail k2 (fun f hf => ?_) rfl).mono (fun qm hqm => real ?_)
      · rcases (withF_mem hix.srt).1 hf with rfl | hf
        · exact .inl rfl
        · exact hm.im f hf.1
      · rw [hq0]
        show Ok (ob2 (some (q.1, q.2)) _) _
        rw [k0]
        refine Ok_cl2 rfl ?_
        exact Ok_ite (fun h => absurd rfl h) (fun _ => hqm)
end
end Go.Proofs.Qxb6500350aGreat
