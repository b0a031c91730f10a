import Derived.Test.YtpigjmjbfpipnaaPDx3
import Derived.Test.YtpigjmjbfpipnaaDkOrdd
import Derived.Test.YtpigjmjbfpipnaaDkPlaced
namespace Go.Proofs.Ytpigjmjbfpipnaa.Dk
open Go.RowKit YtpigjmjbfpipnaaW.PrintWords YtpigjmjbfpipnaaW.PrintLast YtpigjmjbfpipnaaW.PrintMore Ytpigjmjbfpipnaa.PD Ba Sh
set_option linter.unusedVariables false
attribute [local instance 10] Classical.propDecidable

theorem asked_ev (l : List S71) (d : Bool) (f : Int) (hl : l.length < 4611686018427387904) : Ev (fun k => disk_asked.f k l d f) (if Good l then (if d = true then 8 else 0) else 10) := by
  unfold disk_asked.f
  refine Ev.bind (Check_ev l d f hl) ?_
  by_cases hg : Good l
  · rw [res_pos hg, if_pos hg]
    refine Ev.pos rfl ?_
    cases d with
    | true => exact Ev.pos rfl (Ev.now _)
    | false => exact Ev.neg (by decide) (Ev.now _)
  · rw [res_neg hg, if_neg hg]
    exact Ev.neg (by decide) (Ev.now _)
noncomputable def readO (o : Option (List S71 × Option S71 × List S71)) : ByteArray × Int :=
  match o with
  | some (_, some g, _) => (g.f1, 0)
  | _ => (⟨#[]⟩, 6)
noncomputable def readR (l : List S71) (d : Bool) (o : Option (List S71 × Option S71 × List S71)) : ByteArray × Int :=
  if ¬ Good l then (⟨#[]⟩, 10) else if d = true then (⟨#[]⟩, 8) else readO o
theorem readR_bad {l : List S71} (h : ¬ Good l) (d : Bool) (o) : readR l d o = (⟨#[]⟩, 10) := if_pos h
theorem readR_down {l : List S71} (h : Good l) (o) : readR l true o = (⟨#[]⟩, 8) := by unfold readR; rw [if_neg (fun x => x h), if_pos rfl]
theorem readR_go {l : List S71} (h : Good l) (o) : readR l false o = readO o := by unfold readR; rw [if_neg (fun x => x h), if_neg (by decide)]
theorem Read_ev (l : List S71) (d : Bool) (f : Int) (n : ByteArray) (o) (ho : At n.toList l o) (hl : l.length < 4611686018427387904) : Ev (fun k => disk_Read.f k l d f n) (readR l d o) := by
  unfold disk_Read.f
  refine Ev.bind (asked_ev l d f hl) ?_
  by_cases hg : Good l
  · rw [if_pos hg]
    cases d with
    | true =>
      rw [if_pos rfl, readR_down hg]
      exact Ev.neg (by decide) (Ev.now _)
    | false =>
      rw [if_neg (by decide), readR_go hg]
      refine Ev.pos rfl ?_
      cases ho with
      | bad h => exact absurd hg h
      | none A B _ e ha hb =>
        subst e
        exact Ev.bind (place_none A B n false f hl ha hb) (Ev.neg (by simp) (Ev.now _))
      | some A g B _ e ha hn hb =>
        subst e
        have hlen : (A ++ g :: B).length = A.length + (B.length + 1) := List.length_append
        refine Ev.bind (place_some A g B n false f hl ha hn hb) (Ev.pos rfl (Ev.pos (by omega) (Ev.pos (by omega) ?_)))
        rw [rd_nat, getD_mid]
        exact Ev.now _
  · rw [if_neg hg, readR_bad hg]
    exact Ev.neg (by decide) (Ev.now _)
end Go.Proofs.Ytpigjmjbfpipnaa.Dk
