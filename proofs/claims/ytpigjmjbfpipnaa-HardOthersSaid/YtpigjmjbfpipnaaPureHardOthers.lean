/- No other file is changed by what is saved; what is saved is loaded. No condition beside the form's own. -/
import Derived.Test.YtpigjmjbfpipnaaPBx14
import Derived.Test.YtpigjmjbfpipnaaHdLaw
import Derived.Test.YtpigjmjbfpipnaaDkLaw
namespace Go.Proofs.Ytpigjmjbfpipnaa.Pure
open Go.RowKit Go.Proofs.YtpigjmjbfpipnaaW.PrintWords Go.Proofs.YtpigjmjbfpipnaaW.PrintLast Go.Proofs.YtpigjmjbfpipnaaW.PrintMore Go.Proofs.Ytpigjmjbfpipnaa.PB Go.Proofs.Ytpigjmjbfpipnaa.Ba Go.Proofs.Ytpigjmjbfpipnaa.Dk Go.Proofs.Ytpigjmjbfpipnaa.Op
set_option linter.unusedVariables false
attribute [local instance 10] Classical.propDecidable

theorem tname : (tmp hname).toList = ([104, 97, 114, 100, 46, 116, 109, 112] : List UInt8) := by rw [tmp_h, ByteArray.toList_eq]
theorem hname_l : hname.toList = ([104, 97, 114, 100] : List UInt8) := by rw [hname, ByteArray.toList_eq]
/-- A state of the loop: what is read of another name is what it was. -/
structure St (n : ByteArray) (was : ByteArray × Int) (l : List S71) (d : Bool) (f : Int) : Prop where
  len : l.length + 4 < 3518437208883
  fuse : f < 9223372036854775808
  size : ∀ y ∈ l, y.f1.size ≤ 4611686018427387903
  same : n.toList ≠ hname.toList → n.toList ≠ (tmp hname).toList → rdR l d n = was
theorem others_end {n : ByteArray} {was : ByteArray × Int} {l : List S71} {d : Bool} {f : Int} (h : St n was l d f) :
    Ev (fun k => (disk_Read.f k l d f n).bind fun x => (if n.toList = ([104, 97, 114, 100] : List UInt8) then (some true) else (if n.toList = ([104, 97, 114, 100, 46, 116, 109, 112] : List UInt8) then (some true) else (if was.1.toList = x.1.toList then (some (was.2 == x.2)) else (some false))))) true := by
  have hR : Ev (fun k => disk_Read.f k l d f n) (rdR l d n) := Read_ev l d f n _ (oAt_at n l) (by have := h.len; omega)
  refine Ev.bind hR ?_
  by_cases c1 : n.toList = ([104, 97, 114, 100] : List UInt8)
  · exact Ev.pos c1 (Ev.now _)
  · refine Ev.neg c1 ?_
    by_cases c2 : n.toList = ([104, 97, 114, 100, 46, 116, 109, 112] : List UInt8)
    · exact Ev.pos c2 (Ev.now _)
    · refine Ev.neg c2 ?_
      rw [h.same (by rw [hname_l]; exact c1) (by rw [tname]; exact c2)]
      refine Ev.pos rfl ?_
      rw [beq_self_eq_true]
      exact Ev.now _
theorem others_step {n : ByteArray} {was : ByteArray × Int} {l : List S71} {d : Bool} {f t v : Int} (ht : 0 ≤ t) (ht2 : t < 18446744073709551616) (h : St n was l d f) (h0 : (saveR l d f t v).2.2.2 = 0) :
    St n was (saveR l d f t v).1 (saveR l d f t v).2.1 (saveR l d f t v).2.2.1 ∧ loadR (saveR l d f t v).1 (saveR l d f t v).2.1 = (t, v, 0) := by
  have hfu := save_fuse (l := l) (d := d) (t := t) (v := v) h.fuse
  have hv : ¬ (v < 0 ∨ 7 < v) := by
    intro c
    unfold saveR at h0
    rw [if_pos c] at h0
    split at h0 <;> simp at h0
  have h1 : (putR l d f hname (ba (fileL t.toNat v.toNat))).2.2.2 = 0 := by unfold saveR at h0; rwa [if_neg hv] at h0
  obtain ⟨hg, rfl⟩ := put_ok h1
  have hsz := save_size hg (t := t) (v := v) f h.size
  have key := put_sem (f := f) (nm := hname) (dt := ba (fileL t.toNat v.toNat)) hg named_h named_t ne_t
  have e : saveR l false f t v = putR l false f hname (ba (fileL t.toNat v.toNat)) := by unfold saveR; rw [if_neg hv]
  rw [e] at hfu hsz h0 ⊢
  generalize putR l false f hname (ba (fileL t.toNat v.toNat)) = x at *
  rcases key with ⟨_, hd, _, hS⟩ | ⟨hn, _⟩
  · obtain ⟨x1, x2, x3, x4⟩ := x
    have hd' : x2 = false := hd
    subst hd'
    have hg' : Dk.Good x1 := hS.good
    refine ⟨⟨by have := hg'.2; show x1.length + 4 < _; omega, hfu, hsz, fun n1 n2 => ?_⟩, ?_⟩
    · rw [← h.same n1 n2]
      show rdR x1 false n = _
      unfold rdR
      rw [readR_go hg', readR_go hg]
      refine readO_same (oAt_at n x1) (oAt_at n l) hg' hg (fun g hn => ?_)
      rw [show (g ∈ x1 ↔ _) from hS.mem g]
      constructor
      · rintro (h | h)
        · exact h.1
        · exact absurd (by rw [← hn, h]; rfl) n1
      · intro h
        exact .inl ⟨h, by rw [hn]; exact n1, by rw [hn]; exact n2⟩
    · have := load_some hg' (t := t.toNat) (v := v.toNat) (by omega) (by omega) ((hS.mem _).2 (.inr rfl)) rfl rfl
      rw [Int.toNat_of_nonneg ht, Int.toNat_of_nonneg (by omega)] at this
      exact this
  · exact absurd h1 hn
theorem others_l0 (n : ByteArray) (was : ByteArray × Int) (hs : List S27) (hh : ∀ h ∈ hs, ok27 h) (hlen : hs.length < 4611686018427387904) : ∀ (m j : Nat), j + m = hs.length → ∀ (l : List S71) (d : Bool) (f : Int), St n was l d f →
    Ev (fun k => gafferlaw04_HardOthers.l0 k n was.1 was.2 hs (hs.length : Int) (j : Int) l d f) true
  | 0, j, hj, l, d, f, h => by
    refine Ev.step (fun k => rfl) ?_
    simp only [gafferlaw04_HardOthers.l0]
    exact Ev.neg (by omega) (others_end h)
  | m + 1, j, hj, l, d, f, h => by
    refine Ev.step (fun k => rfl) ?_
    simp only [gafferlaw04_HardOthers.l0]
    refine Ev.pos (by omega) (Ev.pos (by omega) (Ev.pos (by omega) ?_))
    by_cases c : (j : Int) = 20
    · exact Ev.pos c (others_end h)
    · refine Ev.neg c ?_
      have e : wrap64 ((j : Int) + 1) = ((j + 1 : Nat) : Int) := by rw [wrap64_id (by omega) (by omega)]; omega
      have hm : hs.getD j z27 ∈ hs := by rw [List.getD_eq_getElem?_getD, List.getElem?_eq_getElem (by omega)]; exact List.getElem_mem _
      have hr : rd_T27 hs (j : Int) = hs.getD j z27 := rfl
      rw [hr]
      have hok := hh _ hm
      generalize hs.getD j z27 = y at hok ⊢
      obtain ⟨ht, ht2⟩ := u64_nat hok.1
      refine Ev.bind (Save_ev l d f y.f0 y.f1 ht ht2 h.len h.fuse h.size) ?_
      by_cases c0 : (saveR l d f y.f0 y.f1).2.2.2 = 0
      · obtain ⟨h', hL⟩ := others_step ht ht2 h c0
        refine Ev.pos c0 (Ev.bind (Load_ev _ _ _ (by have := h'.len; omega) (fun z hz => Nat.le_trans (h'.size z hz) (by omega))) ?_)
        rw [hL]
        refine Ev.pos rfl (Ev.neg (by simp) ?_)
        rw [e]
        exact others_l0 n was hs hh hlen m (j + 1) (by omega) _ _ _ h'
      · refine Ev.neg c0 ?_
        rw [e]
        exact others_l0 n was hs hh hlen m (j + 1) (by omega) _ _ _ h
theorem HardOthers : gafferlaw04_HardOthers.Pure := by
  intro x hs n hx hh hn
  have c := came hx
  have hlen : x.f0.length + 4 < 3518437208883 := by
    have := hx.1.1
    omega
  obtain ⟨hh1, hh2⟩ := hh
  refine Ev.rounds (g := fun k => gafferlaw04_HardOthers.f k x.f0 x.f1 x.f2 hs n) ?_
  unfold gafferlaw04_HardOthers.f
  have hR : Ev (fun k => disk_Read.f k x.f0 x.f1 x.f2 n) (rdR x.f0 x.f1 n) := Read_ev x.f0 x.f1 x.f2 n _ (oAt_at n x.f0) (by omega)
  refine Ev.bind lives_ev (Ev.pos rfl (Ev.bind hR ?_))
  exact others_l0 n (rdR x.f0 x.f1 n) hs hh2 (by omega) hs.length 0 (by omega) x.f0 x.f1 x.f2 ⟨hlen, c.fuse, fun y hy => Nat.le_trans (c.size y hy) (by omega), fun _ _ => rfl⟩
end Go.Proofs.Ytpigjmjbfpipnaa.Pure
