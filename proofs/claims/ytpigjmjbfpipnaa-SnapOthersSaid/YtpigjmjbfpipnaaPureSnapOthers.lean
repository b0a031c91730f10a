/- No other file is changed by what is saved as a snapshot. No condition beside the form's own. -/
import Derived.Test.YtpigjmjbfpipnaaPEx12
import Derived.Test.YtpigjmjbfpipnaaSnLawe
import Derived.Test.YtpigjmjbfpipnaaSnLivese
import Derived.Test.YtpigjmjbfpipnaaDkLawe
namespace Go.Proofs.Ytpigjmjbfpipnaa.Pure
open Go.RowKit Go.Proofs.YtpigjmjbfpipnaaW.PrintWords Go.Proofs.YtpigjmjbfpipnaaW.PrintLast Go.Proofs.YtpigjmjbfpipnaaW.PrintMore Go.Proofs.Ytpigjmjbfpipnaa.PE Go.Proofs.Ytpigjmjbfpipnaa.Ba Go.Proofs.Ytpigjmjbfpipnaa.Dk Go.Proofs.Ytpigjmjbfpipnaa.Sn Go.Proofs.Ytpigjmjbfpipnaa.Op
set_option linter.unusedVariables false
attribute [local instance 10] Classical.propDecidable

theorem others_mem {l : List S71} (hg : Dk.Good l) (f : Int) (i t : Nat) (ms : List Int) (dt : List UInt8) {n : ByteArray} (n1 : n.toList ≠ sname.toList) (n2 : n.toList ≠ (tmp sname).toList) :
    rdR (saveSR l false f i t ms dt).1 false n = rdR l false n := by
  have h := save_of hg f i t ms dt
  have hg' := save_ofgood hg h
  have hm : ∀ g, Dk.nm g = n.toList → (g ∈ (saveSR l false f i t ms dt).1 ↔ g ∈ l) := by
    intro g hn
    cases h with
    | no w e hw => rw [e]
    | done ok h0 h1 h2 hS =>
      rw [hS.mem g]
      constructor
      · rintro (h | h)
        · exact h.1
        · exact absurd (by rw [← hn, h]; rfl) n1
      · intro h
        exact .inl ⟨h, by rw [hn]; exact n1, by rw [hn]; exact n2⟩
    | off ok h0 hU => exact hU.mem g (by rw [hn]; exact n2)
  unfold rdR
  rw [readR_go hg', readR_go hg]
  exact readO_same (oAt_at n _) (oAt_at n l) hg' hg hm
theorem SnapOthers : gafferlaw05_SnapOthers.Pure := by
  intro x s n hx hs hn
  have c := came hx
  obtain ⟨i, t, d, e1, e2, e3, hi, ht, hm⟩ := cameS hs
  have hlen : x.f0.length + 4 < 3518437208883 := by
    have := hx.1.1
    omega
  have hsz : ∀ y ∈ x.f0, y.f1.size ≤ 4611686018427387903 := fun y hy => Nat.le_trans (c.size y hy) (by omega)
  have hfu := c.fuse
  rw [e1, e2, e3]
  refine Ev.rounds (g := fun k => gafferlaw05_SnapOthers.f k x.f0 x.f1 x.f2 (i : Int) (t : Int) s.f2 (ba d) n) ?_
  generalize x.f0 = l at *
  generalize x.f1 = dn at *
  generalize x.f2 = f at *
  generalize s.f2 = ms at *
  have htrue : Ev (fun k => gafferlaw05_SnapOthers.j0 k n true l dn f (i : Int) (t : Int) ms (ba d)) true := by
    refine Ev.step (fun k => rfl) ?_
    simp only [gafferlaw05_SnapOthers.j0]
    exact Ev.pos trivial (Ev.now _)
  unfold gafferlaw05_SnapOthers.f
  refine Ev.bind lives_ev (Ev.pos rfl ?_)
  by_cases c1 : n.toList = ([115, 110, 97, 112] : List UInt8)
  · exact Ev.pos c1 htrue
  · refine Ev.neg c1 ?_
    by_cases c2 : n.toList = ([115, 110, 97, 112, 46, 116, 109, 112] : List UInt8)
    · exact Ev.pos c2 htrue
    · refine Ev.neg c2 (Ev.bind (Dk.Check_ev l dn f (by omega)) ?_)
      by_cases hg : Dk.Good l
      · rw [res_pos hg]
        refine Ev.step (fun k => rfl) ?_
        simp only [gafferlaw05_SnapOthers.j0]
        have hR : Ev (fun k => disk_Read.f k l dn f n) (rdR l dn n) := Read_ev l dn f n _ (oAt_at n l) (by omega)
        refine Ev.neg (by simp) (Ev.bind hR (Ev.bind (SaveS_ev l dn f i t ms d hi ht hm hlen hfu hsz) ?_))
        have hlen2 := saveSR_len l dn f i t ms d
        cases dn with
        | true =>
          have hsame : ∀ w, Ev (fun k => (disk_Read.f k l true f n).bind fun q => if w = (8 : Int) then some true else if (rdR l true n).1.toList = q.1.toList then some ((rdR l true n).2 == q.2) else some false) true := fun w => by
            refine Ev.bind hR (Ev.ite (fun _ => Ev.now _) (fun _ => ?_))
            refine Ev.pos rfl ?_
            rw [beq_self_eq_true]
            exact Ev.now _
          rcases down_power hg f i t ms d with e | e
          · rw [e]; exact hsame 8
          · rw [e]; exact hsame 4
        | false =>
          have hq := others_mem hg f i t ms d (n := n) (by rw [show sname.toList = ([115, 110, 97, 112] : List UInt8) by rw [sname, ByteArray.toList_eq]]; exact c1) (by rw [show (tmp sname).toList = ([115, 110, 97, 112, 46, 116, 109, 112] : List UInt8) by rw [tmp_s, ByteArray.toList_eq]]; exact c2)
          have hfine := saveSR_fine hg (f := f) (i := i) (t := t) (ms := ms) (dt := d)
          generalize saveSR l false f i t ms d = r at hq hfine hlen2 ⊢
          have hR2 : Ev (fun k => disk_Read.f k r.1 r.2.1 r.2.2.1 n) (rdR r.1 r.2.1 n) := Read_ev r.1 r.2.1 r.2.2.1 n _ (oAt_at n r.1) (by omega)
          refine Ev.bind hR2 ?_
          by_cases c8 : r.2.2.2 = 8
          · exact Ev.pos c8 (Ev.now _)
          · refine Ev.neg c8 ?_
            rw [hfine c8, hq]
            refine Ev.pos rfl ?_
            rw [beq_self_eq_true]
            exact Ev.now _
      · rw [res_neg hg]
        exact htrue
end Go.Proofs.Ytpigjmjbfpipnaa.Pure
