/- Cutting, in the program. No condition beside those in each row. -/
import Derived.Test.YtpdacpopkegecaaPAx18
import Derived.Test.YtpdacpopkegecaaDkDone
namespace Go.Proofs.Ytpdacpopkegecaa.Dk
open Go.RowKit Go.Proofs.YtpdacpopkegecaaW.PrintWords Go.Proofs.YtpdacpopkegecaaW.PrintLast Go.Proofs.YtpdacpopkegecaaW.PrintMore Go.Proofs.Ytpdacpopkegecaa.PA Go.Proofs.Ytpdacpopkegecaa.Ba Go.Proofs.Ytpdacpopkegecaa.Sh
set_option linter.unusedVariables false
attribute [local instance 10] Classical.propDecidable

noncomputable def cutO (o : Option (List S35 × Option S35 × List S35)) (l : List S35) (size : Int) : Int × List S35 × List S35 :=
  match o with
  | some (A, some g, B) => (if size < 0 ∨ size > (g.f1.size : Int) then 1 else 0, l, A ++ ⟨g.f0, g.f1.extract 0 size.toNat, mn g.f2 size⟩ :: B)
  | _ => (6, l, l)
theorem Cut_ev (l : List S35) (d : Bool) (f : Int) (n : ByteArray) (size : Int) (o) (ho : At n.toList l o) (hl : l.length < 3518437208883) (hf : f < 9223372036854775808) :
    Ev (fun k => disk_Cut.f k l d f n size) (outcome l d f (cutO o l size)) := by
  unfold disk_Cut.f disk_done.f outcome
  refine Ev.bind (done_shape l d f hl _ _ _ _ _ ?_ ?_) (Ev.now _)
  · intro hg hd
    cases ho with
    | bad h => exact absurd hg h
    | none A B _ e ha hb =>
      subst e
      exact refused_none _ _ _ _ _ _ _ _ (by decide) _ (place_none A B n d f (by omega) ha hb)
    | some A g B _ e ha hn hb =>
      subst e
      have hlen : (A ++ g :: B).length = A.length + (B.length + 1) := List.length_append
      have := refused_some d f 2 size n (⟨#[]⟩ : ByteArray) (⟨#[]⟩ : ByteArray) (A ++ g :: B) (by decide) A.length (by omega) (place_some A g B n d f (by omega) ha hn hb)
      rw [getD_mid] at this
      show Ev _ (if size < 0 ∨ size > (g.f1.size : Int) then 1 else 0)
      by_cases hs : size < 0 ∨ size > (g.f1.size : Int)
      · rw [if_pos hs]; rwa [if_pos ⟨rfl, hs⟩] at this
      · rw [if_neg hs]; rwa [if_neg (fun h => hs h.2), if_neg (fun h => absurd h.1 (by decide)), if_neg (fun h => absurd h.1 (by decide))] at this
  · intro hg hd hw
    cases ho with
    | bad h => exact absurd hg h
    | none A B _ e ha hb => exact absurd hw (by simp [cutO])
    | some A g B _ e ha hn hb =>
      subst e
      have hlen : (A ++ g :: B).length = A.length + (B.length + 1) := List.length_append
      have hs : ¬ (size < 0 ∨ size > (g.f1.size : Int)) := fun hs => by
        have : (if size < 0 ∨ size > (g.f1.size : Int) then (1 : Int) else 0) = 0 := hw
        rw [if_pos hs] at this
        cases this
      refine Ev.bind (place_some A g B n d f (by omega) ha hn hb) (Ev.neg (by decide) ?_)
      refine done_j0 _ _ _ _ _ _ _ _ _ hf _ (fun h0 => ?_)
      refine Ev.step (fun k => rfl) ?_
      simp only [disk_done.j1]
      refine Ev.pos (by omega) (Ev.pos (by omega) (Ev.neg (by decide) (Ev.pos (by decide) (Ev.pos (by omega) (Ev.pos (by rw [rd_nat, getD_mid]; omega) ?_)))))
      refine Ev.bind_const ?_
      rw [rd_nat, rd_nat, getD_mid, Int.toNat_natCast, set_mid, getD_mid, set_mid]
      exact Ev.now _
theorem cutO_len {n : List UInt8} {l : List S35} {o} (h : At n l o) (s : Int) : (cutO o l s).2.1.length ≤ l.length + 1 ∧ (cutO o l s).2.2.length ≤ l.length + 1 := by
  rcases o with _ | ⟨A, _ | g, B⟩
  · exact ⟨by simp [cutO], by simp [cutO]⟩
  · exact ⟨by simp [cutO], by simp [cutO]⟩
  · have := at_len h
    refine ⟨by simp [cutO], ?_⟩
    show (A ++ _ :: B).length ≤ _
    rw [List.length_append, List.length_cons]; omega
end Go.Proofs.Ytpdacpopkegecaa.Dk
