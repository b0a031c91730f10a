/- Copies; what is the same. No condition beside those in each row. -/
import Derived.Test.YtpigjmjbfpipnaaPEx12
import Derived.Test.YtpigjmjbfpipnaaPEx7
import Derived.Test.YtpigjmjbfpipnaaDkListe
namespace Go.Proofs.Ytpigjmjbfpipnaa.Dk
open Go.RowKit Go.Proofs.YtpigjmjbfpipnaaW.PrintWords Go.Proofs.YtpigjmjbfpipnaaW.PrintLast Go.Proofs.YtpigjmjbfpipnaaW.PrintMore Go.Proofs.Ytpigjmjbfpipnaa.PE Go.Proofs.Ytpigjmjbfpipnaa.Ba Go.Proofs.Ytpigjmjbfpipnaa.Sh
set_option linter.unusedVariables false
attribute [local instance 10] Classical.propDecidable

theorem Clone_at (l : List S71) (hl : l.length < 3518437208883) : api_File_48.f l = some l := by
  unfold api_File_48.f
  simp [hl]
theorem Same_l0 (l : List S71) (d : Bool) (f : Int) (hl : l.length < 4611686018427387904) : ∀ (m j : Nat), j + m = l.length → Ev (fun k => gafferref02_Same.l0 k (l.length : Int) (j : Int) l d f l d f) true
  | 0, j, hj => by
    refine Ev.step (fun k => rfl) ?_
    simp only [gafferref02_Same.l0]
    exact Ev.neg (by omega) (Ev.now _)
  | m + 1, j, hj => by
    refine Ev.step (fun k => rfl) ?_
    simp only [gafferref02_Same.l0]
    refine Ev.pos (by omega) (Ev.pos (by omega) (Ev.pos (by omega) (Ev.pos (by omega) (Ev.neg (by simp) ?_))))
    rw [wrap_add1 (by omega)]
    exact Same_l0 l d f hl m (j + 1) (by omega)
theorem Same_ev (l : List S71) (d : Bool) (f : Int) (hl : l.length < 4611686018427387904) : Ev (fun k => gafferref02_Same.f k l d f l d f) true := by
  unfold gafferref02_Same.f
  refine Ev.neg (by simp) (Ev.pos rfl ?_)
  refine Ev.step (fun k => rfl) ?_
  simp only [gafferref02_Same.j0]
  refine Ev.neg (by simp) ?_
  exact Same_l0 l d f hl l.length 0 (by omega)
end Go.Proofs.Ytpigjmjbfpipnaa.Dk
