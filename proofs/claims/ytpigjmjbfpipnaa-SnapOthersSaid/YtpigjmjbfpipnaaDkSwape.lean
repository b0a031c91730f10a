/- Calling otherwise, in the program. No condition beside those in each row. -/
import Derived.Test.YtpigjmjbfpipnaaPEx11
import Derived.Test.YtpigjmjbfpipnaaDkDonee
namespace Go.Proofs.Ytpigjmjbfpipnaa.Dk
open Go.RowKit Go.Proofs.YtpigjmjbfpipnaaW.PrintWords Go.Proofs.YtpigjmjbfpipnaaW.PrintLast Go.Proofs.YtpigjmjbfpipnaaW.PrintMore Go.Proofs.Ytpigjmjbfpipnaa.PE Go.Proofs.Ytpigjmjbfpipnaa.Ba Go.Proofs.Ytpigjmjbfpipnaa.Sh
set_option linter.unusedVariables false
attribute [local instance 10] Classical.propDecidable

noncomputable def swapO (o : Option (List S71 × Option S71 × List S71)) (l : List S71) (tb : ByteArray) : Int × List S71 × List S71 :=
  match o with
  | some (A, some g, B) => (if g.f2 < (g.f1.size : Int) then 9 else if ¬ named tb then 5 else 0, l, withL ⟨tb, g.f1, g.f2⟩ false (A ++ B))
  | _ => (6, l, l)
theorem Swap_ev (l : List S71) (d : Bool) (f : Int) (n tb : ByteArray) (o) (ho : At n.toList l o) (hl : l.length + 1 < 3518437208883) (hf : f < 9223372036854775808) :
    Ev (fun k => disk_Swap.f k l d f n tb) (outcome l d f (swapO o l tb)) := by
  unfold disk_Swap.f disk_done.f outcome
  refine Ev.bind (done_shape l d f (by omega) _ _ _ _ _ ?_ ?_) (Ev.now _)
  · intro hg hd
    cases ho with
    | bad h => exact absurd hg h
    | none A B _ e ha hb =>
      subst e
      exact refused_none _ _ _ _ _ _ _ _ (by decide) _ (place_none A B n d f (by omega) ha hb)
    | some A g B _ e ha hn hb =>
      subst e
      have hlen : (A ++ g :: B).length = A.length + (B.length + 1) := List.length_append
      have := refused_some d f 3 0 n tb (⟨#[]⟩ : ByteArray) (A ++ g :: B) (by decide) A.length (by omega) (place_some A g B n d f (by omega) ha hn hb)
      rw [getD_mid] at this
      show Ev _ (if g.f2 < (g.f1.size : Int) then 9 else if ¬ named tb then 5 else 0)
      rw [if_neg (fun h => absurd h.1 (by decide))] at this
      by_cases hw : g.f2 < (g.f1.size : Int)
      · rw [if_pos hw]; rwa [if_pos ⟨rfl, hw⟩] at this
      · rw [if_neg hw]; rw [if_neg (fun h => hw h.2)] at this
        by_cases hnn : ¬ named tb
        · rw [if_pos hnn]; rwa [if_pos ⟨rfl, hnn⟩] at this
        · rw [if_neg hnn]; rwa [if_neg (fun h => hnn h.2)] at this
  · intro hg hd hw
    cases ho with
    | bad h => exact absurd hg h
    | none A B _ e ha hb => exact absurd hw (by simp [swapO])
    | some A g B _ e ha hn hb =>
      subst e
      have hlen : (A ++ g :: B).length = A.length + (B.length + 1) := List.length_append
      have hr := rise_sub hg.rise
      have hAB : (A ++ B).length = A.length + B.length := List.length_append
      refine Ev.bind (place_some A g B n d f (by omega) ha hn hb) (Ev.neg (by decide) ?_)
      refine done_j0 _ _ _ _ _ _ _ _ _ hf _ (fun h0 => ?_)
      refine Ev.step (fun k => rfl) ?_
      simp only [disk_done.j1]
      refine Ev.pos (by omega) (Ev.pos (by omega) (Ev.neg (by decide) (Ev.neg (by decide) (Ev.neg (by decide) (Ev.pos (by decide) ?_)))))
      rw [del_at A g B (by omega), rd_nat, getD_mid]
      refine Ev.bind_const ?_
      show Ev _ (withL ⟨tb, g.f1, g.f2⟩ false (A ++ B), d, dec f, (0 : Int))
      have hp := parts tb.toList hr
      generalize hq : A ++ B = q at hp hAB
      cases hp with
      | none C D hc hdd =>
        rw [withL_none ⟨tb, g.f1, g.f2⟩ C D hc hdd]
        refine Ev.bind (place_none C D tb d (dec f) (by omega) hc hdd) (Ev.neg (by simp) ?_)
        dsimp only
        rw [ins_at C D _ (by omega)]
        exact Ev.bind_const (Ev.now _)
      | some C x D hc hx hdd =>
        rw [withL_some ⟨tb, g.f1, g.f2⟩ x C D hc hx hdd]
        have hCD : (C ++ x :: D).length = C.length + (D.length + 1) := List.length_append
        refine Ev.bind (place_some C x D tb d (dec f) (by omega) hc hx hdd) (Ev.pos rfl (Ev.pos (by omega) (Ev.pos (by omega) ?_)))
        rw [Int.toNat_natCast, set_mid]
        exact Ev.now _
theorem swapO_len {n : List UInt8} {l : List S71} {o} (h : At n l o) (tb : ByteArray) : (swapO o l tb).2.1.length ≤ l.length + 1 ∧ (swapO o l tb).2.2.length ≤ l.length + 1 := by
  rcases o with _ | ⟨A, _ | g, B⟩
  · exact ⟨by simp [swapO], by simp [swapO]⟩
  · exact ⟨by simp [swapO], by simp [swapO]⟩
  · have := at_len h
    refine ⟨by simp [swapO], ?_⟩
    have hw := withL_len ⟨tb, g.f1, g.f2⟩ false (A ++ B)
    rw [List.length_append] at hw
    show (withL _ _ _).length ≤ _
    omega
end Go.Proofs.Ytpigjmjbfpipnaa.Dk
