/- Dropping, in the program. No condition beside those in each row. -/
import Derived.Test.YtpigjmjbfpipnaaPEx11
import Derived.Test.YtpigjmjbfpipnaaDkDonee
namespace Go.Proofs.Ytpigjmjbfpipnaa.Dk
open Go.RowKit Go.Proofs.YtpigjmjbfpipnaaW.PrintWords Go.Proofs.YtpigjmjbfpipnaaW.PrintLast Go.Proofs.YtpigjmjbfpipnaaW.PrintMore Go.Proofs.Ytpigjmjbfpipnaa.PE Go.Proofs.Ytpigjmjbfpipnaa.Ba Go.Proofs.Ytpigjmjbfpipnaa.Sh
set_option linter.unusedVariables false
attribute [local instance 10] Classical.propDecidable

noncomputable def dropO (o : Option (List S71 × Option S71 × List S71)) (l : List S71) : Int × List S71 × List S71 :=
  match o with
  | some (A, some g, B) => (0, l, A ++ B)
  | _ => (6, l, l)
theorem Drop_ev (l : List S71) (d : Bool) (f : Int) (n : ByteArray) (o) (ho : At n.toList l o) (hl : l.length < 3518437208883) (hf : f < 9223372036854775808) :
    Ev (fun k => disk_Drop.f k l d f n) (outcome l d f (dropO o l)) := by
  unfold disk_Drop.f disk_done.f outcome
  refine Ev.bind (done_shape l d f hl _ _ _ _ _ ?_ ?_) (Ev.now _)
  · intro hg hd
    cases ho with
    | bad h => exact absurd hg h
    | none A B _ e ha hb =>
      subst e
      exact refused_none _ _ _ _ _ _ _ _ (by decide) _ (place_none A B n d f (by omega) ha hb)
    | some A g B _ e ha hn hb =>
      subst e
      have hlen : (A ++ g :: B).length = A.length + (B.length + 1) := List.length_append
      have := refused_some d f 4 0 n (⟨#[]⟩ : ByteArray) (⟨#[]⟩ : ByteArray) (A ++ g :: B) (by decide) A.length (by omega) (place_some A g B n d f (by omega) ha hn hb)
      rwa [if_neg (fun h => absurd h.1 (by decide)), if_neg (fun h => absurd h.1 (by decide)), if_neg (fun h => absurd h.1 (by decide))] at this
  · intro hg hd hw
    cases ho with
    | bad h => exact absurd hg h
    | none A B _ e ha hb => exact absurd hw (by simp [dropO])
    | some A g B _ e ha hn hb =>
      subst e
      have hlen : (A ++ g :: B).length = A.length + (B.length + 1) := List.length_append
      refine Ev.bind (place_some A g B n d f (by omega) ha hn hb) (Ev.neg (by decide) ?_)
      refine done_j0 _ _ _ _ _ _ _ _ _ hf _ (fun h0 => ?_)
      refine Ev.step (fun k => rfl) ?_
      simp only [disk_done.j1]
      refine Ev.pos (by omega) (Ev.pos (by omega) (Ev.neg (by decide) (Ev.neg (by decide) (Ev.pos (by decide) ?_))))
      rw [del_at A g B (by omega)]
      exact Ev.bind_const (Ev.now _)
theorem dropO_len {n : List UInt8} {l : List S71} {o} (h : At n l o) : (dropO o l).2.1.length ≤ l.length + 1 ∧ (dropO o l).2.2.length ≤ l.length + 1 := by
  rcases o with _ | ⟨A, _ | g, B⟩
  · exact ⟨by simp [dropO], by simp [dropO]⟩
  · exact ⟨by simp [dropO], by simp [dropO]⟩
  · have := at_len h
    refine ⟨by simp [dropO], ?_⟩
    show (A ++ B).length ≤ _
    rw [List.length_append]; omega
end Go.Proofs.Ytpigjmjbfpipnaa.Dk
