/- Syncing, in the program. No condition beside those in each row. -/
import Derived.Test.YtpigjmjbfpipnaaPEx11
import Derived.Test.YtpigjmjbfpipnaaDkDonee
namespace Go.Proofs.Ytpigjmjbfpipnaa.Dk
open Go.RowKit Go.Proofs.YtpigjmjbfpipnaaW.PrintWords Go.Proofs.YtpigjmjbfpipnaaW.PrintLast Go.Proofs.YtpigjmjbfpipnaaW.PrintMore Go.Proofs.Ytpigjmjbfpipnaa.PE Go.Proofs.Ytpigjmjbfpipnaa.Ba Go.Proofs.Ytpigjmjbfpipnaa.Sh
set_option linter.unusedVariables false
attribute [local instance 10] Classical.propDecidable

noncomputable def syncO (o : Option (List S71 × Option S71 × List S71)) (l : List S71) : Int × List S71 × List S71 :=
  match o with
  | some (A, some g, B) => (0, l, A ++ ⟨g.f0, g.f1, (g.f1.size : Int)⟩ :: B)
  | _ => (6, l, l)
theorem Sync_ev (l : List S71) (d : Bool) (f : Int) (n : ByteArray) (o) (ho : At n.toList l o) (hl : l.length < 3518437208883) (hf : f < 9223372036854775808) :
    Ev (fun k => disk_Sync.f k l d f n) (outcome l d f (syncO o l)) := by
  unfold disk_Sync.f disk_done.f outcome
  refine Ev.bind (done_shape l d f hl _ _ _ _ _ ?_ ?_) (Ev.now _)
  · intro hg hd
    cases ho with
    | bad h => exact absurd hg h
    | none A B _ e ha hb =>
      subst e
      exact refused_none _ _ _ _ _ _ _ _ (by decide) _ (place_none A B n d f (by omega) ha hb)
    | some A g B _ e ha hn hb =>
      subst e
      have hlen : (A ++ g :: B).length = A.length + (B.length + 1) := List.length_append
      have := refused_some d f 1 0 n (⟨#[]⟩ : ByteArray) (⟨#[]⟩ : ByteArray) (A ++ g :: B) (by decide) A.length (by omega) (place_some A g B n d f (by omega) ha hn hb)
      rwa [if_neg (fun h => absurd h.1 (by decide)), if_neg (fun h => absurd h.1 (by decide)), if_neg (fun h => absurd h.1 (by decide))] at this
  · intro hg hd hw
    cases ho with
    | bad h => exact absurd hg h
    | none A B _ e ha hb => exact absurd hw (by simp [syncO])
    | some A g B _ e ha hn hb =>
      subst e
      have hlen : (A ++ g :: B).length = A.length + (B.length + 1) := List.length_append
      refine Ev.bind (place_some A g B n d f (by omega) ha hn hb) (Ev.neg (by decide) ?_)
      refine done_j0 _ _ _ _ _ _ _ _ _ hf _ (fun h0 => ?_)
      refine Ev.step (fun k => rfl) ?_
      simp only [disk_done.j1]
      refine Ev.pos (by omega) (Ev.pos (by omega) (Ev.pos (by decide) ?_))
      rw [rd_nat, getD_mid, Int.toNat_natCast, set_mid]
      exact Ev.now _
theorem syncO_len {n : List UInt8} {l : List S71} {o} (h : At n l o) : (syncO o l).2.1.length ≤ l.length + 1 ∧ (syncO o l).2.2.length ≤ l.length + 1 := by
  rcases o with _ | ⟨A, _ | g, B⟩
  · exact ⟨by simp [syncO], by simp [syncO]⟩
  · exact ⟨by simp [syncO], by simp [syncO]⟩
  · have := at_len h
    refine ⟨by simp [syncO], ?_⟩
    show (A ++ _ :: B).length ≤ _
    rw [List.length_append, List.length_cons]; omega
end Go.Proofs.Ytpigjmjbfpipnaa.Dk
