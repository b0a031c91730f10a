/- Copies; what is the same. No condition beside those in each row. -/
import Derived.Test.YtpdacpopkegecaaPAx8
import Derived.Test.YtpdacpopkegecaaPAx2
import Derived.Test.YtpdacpopkegecaaDkList
namespace Go.Proofs.Ytpdacpopkegecaa.Dk
open Go.RowKit Go.Proofs.YtpdacpopkegecaaW.PrintWords Go.Proofs.YtpdacpopkegecaaW.PrintLast Go.Proofs.YtpdacpopkegecaaW.PrintMore Go.Proofs.Ytpdacpopkegecaa.PA Go.Proofs.Ytpdacpopkegecaa.Ba Go.Proofs.Ytpdacpopkegecaa.Sh
set_option linter.unusedVariables false
attribute [local instance 10] Classical.propDecidable

theorem Copy_at (l : List S35) (d : Bool) (f : Int) (hl : l.length < 3518437208883) : gafferref02_Copy.f l d f = some (l, d, f) := by
  unfold gafferref02_Copy.f
  simp [hl]
theorem Clone_at (l : List S35) (hl : l.length < 3518437208883) : api_File_32.f l = some l := by
  unfold api_File_32.f
  simp [hl]
theorem Same_l0 (l : List S35) (d : Bool) (f : Int) (hl : l.length < 4611686018427387904) : ∀ (m j : Nat), j + m = l.length → Ev (fun k => gafferref02_Same.l0 k (l.length : Int) (j : Int) l d f l d f) true
  | 0, j, hj => by
    refine Ev.step (fun k => rfl) ?_
    simp only [gafferref02_Same.l0]
    exact Ev.neg (by omega) (Ev.now _)
  | m + 1, j, hj => by
    refine Ev.step (fun k => rfl) ?_
    simp only [gafferref02_Same.l0]
    refine Ev.pos (by omega) (Ev.pos (by omega) (Ev.pos (by omega) (Ev.pos (by omega) (Ev.neg (by simp) ?_))))
    rw [wrap_add1 (by omega)]
    exact Same_l0 l d f hl m (j + 1) (by omega)
theorem Same_ev (l : List S35) (d : Bool) (f : Int) (hl : l.length < 4611686018427387904) : Ev (fun k => gafferref02_Same.f k l d f l d f) true := by
  unfold gafferref02_Same.f
  refine Ev.neg (by simp) (Ev.pos rfl ?_)
  refine Ev.step (fun k => rfl) ?_
  simp only [gafferref02_Same.j0]
  refine Ev.neg (by simp) ?_
  exact Same_l0 l d f hl l.length 0 (by omega)
theorem same_out (x : R4) (h : x.1.length ≤ 4611686018427387903) : Ev (fun k => gafferref02_Same.f k x.1 x.2.1 x.2.2.1 x.1 x.2.1 x.2.2.1) true := Same_ev _ _ _ (by omega)
end Go.Proofs.Ytpdacpopkegecaa.Dk
