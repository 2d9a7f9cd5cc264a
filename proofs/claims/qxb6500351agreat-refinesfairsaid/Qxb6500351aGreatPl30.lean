/- THE PLAIN LAW of the table, part 11: its numbers stay in their ranges. No Go in sight. -/
import Derived.Test.Qxb6500351aGreatPl10
set_option linter.unusedVariables false
set_option linter.unusedSimpArgs false
namespace Go.Proofs.Qxb6500351aGreat
open Go.Eng
theorem Tb.ok_ready {t : Tb} (ok : t.Ok) {sd : Int} (h : t.find sd = -1 ∨ (t.rows (t.lrow (t.rows (t.find sd).toNat).e.lPort).toNat).n < 2) : (t.ready sd).2.Ok := by
  unfold Tb.ready
  by_cases h1 : t.find sd = -1 ∨ (t.rows (t.find sd).toNat).e.parent = 0
  · rw [if_pos h1]; exact ok
  rw [if_neg h1]
  by_cases h2 : (t.rows (t.find sd).toNat).e.ready = true
  · rw [if_pos h2]; exact ok
  rw [if_neg h2]
  by_cases h3 : t.lrow (t.rows (t.find sd).toNat).e.lPort = -1
  · rw [if_pos h3]; exact ok
  rw [if_neg h3]
  refine Tb.ok_enqueue (Tb.ok_setReady ok _) _ _ ?_
  have h4 := h.resolve_left (fun k => h1 (.inl k))
  unfold Tb.setReady; dsimp only; unfold upA; split
  · rename_i e; rw [e] at h4; exact h4
  · exact h4
theorem Tb.Good.ok_ready {t : Tb} {q : Int → List Int} (g : t.Good q) (ok : t.Ok) {sd : Int} {e : En} (he : t.at sd = some e) (hp : e.parent ≠ 0) (hr : e.ready = false) : (t.ready sd).2.Ok := by
  obtain ⟨u, _, _, _, _, _, _, h⟩ := g.ready he hp hr
  obtain ⟨i, i1, i2, i3, i4⟩ := Tb.at_row he
  refine Tb.ok_ready ok (.inr ?_)
  rw [i2, Int.toNat_natCast, (Tb.es_some.1 i3).2]
  exact h
theorem Tb.Good.ok_listen {t : Tb} {q : Int → List Int} (g : t.Good q) (ok : t.Ok) (hn : t.nextSd < 1152921504606846976) (p : Int) : (t.listen p).2.2.Ok := by
  rcases g.listen p with ⟨h, _⟩ | ⟨h, _⟩ | ⟨h, _⟩ | ⟨u, h, hp, _⟩
  · rw [h]; exact ok
  · rw [h]; exact ok
  · rw [h]; exact ok
  · unfold Tb.listen at h ⊢
    repeat' split
    · exact ok
    · exact ok
    · exact ok
    · exact Tb.ok_take ok
    · exact Tb.ok_listenT ok (by omega) hn (by have := g.r.lis2; omega)
theorem Tb.Good.ok_connect {t : Tb} {q : Int → List Int} (g : t.Good q) (ok : t.Ok) (hn : t.nextSd < 1152921504606846976) (rh rp : Int) : (t.connect rh rp).2.2.Ok := by
  have he := g.eph rh rp ok.eph
  have hl := t.low_b
  unfold Tb.connect
  split
  · exact ok
  · split
    · exact ok
    · split
      · exact ok
      · have hc := Tb.ok_conn ok (lp := t.connP rh rp) (rh := rh) (rp := rp) (slot := t.low) (parent := 0) (by omega) (by omega) (by omega) (by omega) hn
        split
        · exact hc
        · exact Tb.ok_eph hc (nextEph_b he.2)
theorem Tb.Good.ok_child {t : Tb} {q : Int → List Int} (g : t.Good q) (ok : t.Ok) (hn : t.nextSd < 1152921504606846976) {lp rh rp : Int} (hl : ¬ t.lis lp = 0) (h0 : t.lookup lp rh rp = 0) : (t.child lp rh rp).2.2.Ok := by
  rcases g.child hl h0 with ⟨_, _, h⟩ | ⟨u, slot, f, h, hlp, hrh, hrp, hs, hf, hfk, hfl, gu, _⟩
  · rw [h]; exact ok
  · have hu : u = (t.child lp rh rp).2.2 := by rw [h]
    have hb := t.low_b
    unfold Tb.child
    by_cases h1 : t.lrow lp = -1
    · rw [if_pos h1]; exact ok
    rw [if_neg h1]
    by_cases h2 : rh < 1 ∨ 255 < rh
    · rw [if_pos h2]; exact ok
    rw [if_neg h2]
    by_cases h3 : rp < 1 ∨ 15 < rp
    · rw [if_pos h3]; exact ok
    rw [if_neg h3, if_neg (not_not_intro h0)]
    by_cases h5 : 2 ≤ (t.rows (t.lrow lp).toNat).kids ∨ t.low = -1
    · rw [if_pos h5]; exact ok
    rw [if_neg h5]
    split
    · exact Tb.ok_conn ok (by omega) (by omega) (by omega) (by have : ¬ t.low = -1 := fun k => h5 (.inr k); omega) hn
    · have hc := Tb.ok_conn ok (lp := lp) (rh := rh) (rp := rp) (slot := t.low) (parent := (t.rows (t.lrow lp).toNat).e.sd) (by omega) (by omega) (by omega) (by have : ¬ t.low = -1 := fun k => h5 (.inr k); omega) hn
      refine Tb.ok_kidp hc _ ?_
      have h2 : ¬ 2 ≤ (t.rows (t.lrow lp).toNat).kids := fun k => h5 (.inl k)
      -- the listener's own row is not the new one, or the new one has no kids
      have hk : ∀ j, (((t.conn lp rh rp t.low (t.rows (t.lrow lp).toNat).e.sd).2).rows j).kids = (t.rows j).kids ∨ (((t.conn lp rh rp t.low (t.rows (t.lrow lp).toNat).e.sd).2).rows j).kids = 0 := fun j => by
        by_cases hf : t.free = -1
        · have : (t.conn lp rh rp t.low (t.rows (t.lrow lp).toNat).e.sd).2 = t := by
            unfold Tb.conn; rw [if_pos hf]; unfold Tb.takeT; rw [if_pos hf]
          rw [this]; exact .inl rfl
        · rw [Tb.conn_eq hf]
          unfold Tb.conT; dsimp only; unfold upA; split
          · exact .inr rfl
          · exact .inl rfl
      rcases hk (t.lrow lp).toNat with k | k <;> rw [k] <;> omega
theorem Tb.Good.ok_accept {t : Tb} {q : Int → List Int} (g : t.Good q) (ok : t.Ok) (hK : t.K) (lsd : Int) : (t.accept lsd).2.2.Ok := by
  unfold Tb.accept
  by_cases h1 : t.find lsd = -1 ∨ ¬ (t.rows (t.find lsd).toNat).e.kind = 1
  · rw [if_pos h1]; exact ok
  rw [if_neg h1]
  by_cases h2 : (t.rows (t.find lsd).toNat).n = 0
  · rw [if_pos h2]; exact ok
  rw [if_neg h2]
  have hn := ok.n (t.find lsd).toNat
  have hd := Tb.ok_dequeue ok (t.find lsd) (by omega)
  have hk : (((t.dequeue (t.find lsd)).2).rows (t.find lsd).toNat).kids = (t.rows (t.find lsd).toNat).kids := by
    unfold Tb.dequeue; dsimp only; rw [upA_at]
  have h3 : ((t.dequeue (t.find lsd)).2.lessKid (t.find lsd)).Ok := by
    have := Tb.ok_kid hd (t.find lsd) (by rw [hk]; have := hK (t.find lsd).toNat; omega)
    exact this
  split
  · exact h3
  · exact Tb.ok_own h3 _
theorem Tb.Good.ok_free {t : Tb} {q : Int → List Int} (g : t.Good q) (ok : t.Ok) (hK : t.K) {sd : Int} {e : En} (he : t.at sd = some e) : (t.freeSd sd).2.Ok := by
  obtain ⟨i, i1, i2, i3, i4⟩ := Tb.at_row he
  have hie : (t.rows i).e = e := (Tb.es_some.1 i3).2
  unfold Tb.freeSd Tb.freeT
  rw [i2, if_neg (by omega), Int.toNat_natCast, hie]
  refine Tb.ok_give ?_ (by omega)
  by_cases hk : e.kind = 1
  · rw [if_pos hk]
    unfold Tb.freeL
    have hl := ok.lis
    have h2 : 1 ≤ t.listeners := by rw [g.r.lis]; exact cnt6_pos i1 (by rw [i3]; simp [isK, hk])
    exact Tb.ok_kidsTo (Tb.ok_port ok _ (by omega) (by omega)) _ _
  · rw [if_neg hk]
    unfold Tb.freeC
    have hu := Tb.ok_unlink ok (i : Int)
    have hb := clrBlk_b ((t.unlink (i : Int)).rows (i : Int).toNat).e.slot hu.blocks
    exact Tb.ok_orphan (Tb.ok_blocks hu hb) _ (fun j => by have := hK.unlink (i : Int) j; dsimp only; omega)
end Go.Proofs.Qxb6500351aGreat
