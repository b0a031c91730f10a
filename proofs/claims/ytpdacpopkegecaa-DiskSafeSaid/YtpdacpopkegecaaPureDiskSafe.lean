/- Behind a crash a file has what was synced, and some of what stood behind it; crashed again it is the same. No condition beside the form's own. -/
import Derived.Test.YtpdacpopkegecaaPAx13
import Derived.Test.YtpdacpopkegecaaDkCrash
import Derived.Test.YtpdacpopkegecaaDkLives
namespace Go.Proofs.Ytpdacpopkegecaa.Pure
open Go.RowKit Go.Proofs.YtpdacpopkegecaaW.PrintWords Go.Proofs.YtpdacpopkegecaaW.PrintLast Go.Proofs.YtpdacpopkegecaaW.PrintMore Go.Proofs.Ytpdacpopkegecaa.PA Go.Proofs.Ytpdacpopkegecaa.Ba Go.Proofs.Ytpdacpopkegecaa.Dk Go.Proofs.Ytpdacpopkegecaa.Op
set_option linter.unusedVariables false
attribute [local instance 10] Classical.propDecidable

theorem Safe_l0 (l : List S35) (d : Bool) (f : Int) (ks again : List Int) (hg : Dk.Good l) (hl : l.length < 3518437208883) (hs : ∀ x ∈ l, x.f1.size ≤ 4611686018427387903) (hk : again.length < 4611686018427387904) (hb : ∀ k ∈ again, k < 9223372036854775808) : ∀ (m j : Nat), j + m = l.length →
    Ev (fun k => gafferlaw02_DiskSafe.l0 k again (crs ks 0 l) ((crs ks 0 l).length : Int) (j : Int) l d f (crs ks 0 l) false (-1)) true
  | 0, j, hj => by
    have hlen := crs_len ks 0 l
    refine Ev.step (fun k => rfl) ?_
    simp only [gafferlaw02_DiskSafe.l0]
    refine Ev.neg (by omega) ?_
    have hgood := crs_good hg ks 0
    have hc := Crash_ev (crs ks 0 l) false (-1) again (by omega) (crs_size hg ks 0 hs) hk hb
    rw [if_pos hgood, crs_dry again (crs ks 0 l) 0 (crs_all_dry hg ks 0)] at hc
    exact Ev.bind hc (Ev.pos rfl (Ev.bind (Same_ev _ _ _ (by omega)) (Ev.now _)))
  | m + 1, j, hj => by
    have hlen := crs_len ks 0 l
    have ih := Safe_l0 l d f ks again hg hl hs hk hb m (j + 1) (by omega)
    have hm : l.getD j z35 ∈ l := getD_mem (by omega)
    have ho := hg.ok _ hm
    have e : (crs ks 0 l).getD j z35 = cr (l.getD j z35) (ks.getD j 0) := by rw [crs_get ks l 0 j (by omega), Nat.zero_add]
    have hsz := cr_size ho (ks.getD j 0)
    have hle := left_ge ho (ks.getD j 0)
    refine Ev.step (fun k => rfl) ?_
    simp only [gafferlaw02_DiskSafe.l0]
    rw [rd_nat, rd_nat, e, wrap_add1 (by omega)]
    refine Ev.pos (by omega) (Ev.pos (by omega) (Ev.pos (by omega) (Ev.pos (by omega) (Ev.pos rfl (Ev.pos hsz.symm (Ev.neg (by omega) (Ev.neg (by omega) (Ev.pos (by omega) (Ev.pos (by omega) (Ev.pos ?_ ih))))))))))
    have h1 : (cr (l.getD j z35) (ks.getD j 0)).f1.size = (left (l.getD j z35) (ks.getD j 0)).toNat := by omega
    rw [h1]
    rfl
theorem DiskSafe : gafferlaw02_DiskSafe.Pure := by
  intro x ks again hx hk ha
  have c := came hx
  have h1 := c.len
  have h2 := hk.1
  have h3 := ha.1
  refine Ev.rounds (g := fun k => gafferlaw02_DiskSafe.f k x.f0 x.f1 x.f2 ks again) ?_
  unfold gafferlaw02_DiskSafe.f
  refine Ev.bind lives_ev (Ev.pos rfl ?_)
  have hc := Crash_ev x.f0 x.f1 x.f2 ks (by omega) (fun y hy => Nat.le_trans (c.size y hy) (by decide)) (by omega) (fun k h => i64_lt (hk.2 k h))
  by_cases hg : Dk.Good x.f0
  · rw [if_pos hg] at hc
    refine Ev.bind hc (Ev.pos rfl (Ev.pos (by rw [crs_len]) (Ev.neg (by simp) (Ev.pos rfl ?_))))
    have hch := Check_ev (crs ks 0 x.f0) false (-1) (by rw [crs_len]; omega)
    rw [res_pos (crs_good hg ks 0)] at hch
    refine Ev.bind hch (Ev.step (fun k => rfl) ?_)
    simp only [gafferlaw02_DiskSafe.j0]
    refine Ev.neg (by decide) ?_
    exact Safe_l0 x.f0 x.f1 x.f2 ks again hg (by omega) (fun y hy => Nat.le_trans (c.size y hy) (by decide)) (by omega) (fun k h => i64_lt (ha.2 k h)) x.f0.length 0 (by omega)
  · rw [if_neg hg] at hc
    have hch := Check_ev x.f0 x.f1 x.f2 (by omega)
    rw [res_neg hg] at hch
    exact Ev.bind hc (Ev.neg (by simp) (Ev.pos (by simp) (Ev.bind hch (Ev.now _))))
end Go.Proofs.Ytpdacpopkegecaa.Pure
