/- A file that is called otherwise is read as it was, under its new name alone. No condition beside the form's own. -/
import Derived.Test.YtpdacpopkegecaaPAx13
import Derived.Test.YtpdacpopkegecaaDkRead
import Derived.Test.YtpdacpopkegecaaDkSwap
import Derived.Test.YtpdacpopkegecaaDkLaw
import Derived.Test.YtpdacpopkegecaaDkLives
namespace Go.Proofs.Ytpdacpopkegecaa.Pure
open Go.RowKit Go.Proofs.YtpdacpopkegecaaW.PrintWords Go.Proofs.YtpdacpopkegecaaW.PrintLast Go.Proofs.YtpdacpopkegecaaW.PrintMore Go.Proofs.Ytpdacpopkegecaa.PA Go.Proofs.Ytpdacpopkegecaa.Ba Go.Proofs.Ytpdacpopkegecaa.Dk Go.Proofs.Ytpdacpopkegecaa.Op
set_option linter.unusedVariables false
attribute [local instance 10] Classical.propDecidable

theorem DiskSwapped : gafferlaw02_DiskSwapped.Pure := by
  intro x n tb hx hn ht
  have c := came hx
  obtain ⟨o, ho⟩ := at_of n.toList x.f0
  have h1 := c.len
  have hf := c.fuse
  have hR := Read_ev x.f0 x.f1 x.f2 n o ho (by omega)
  have hS := Swap_ev x.f0 x.f1 x.f2 n tb o ho (by omega) hf
  refine Ev.rounds (g := fun k => gafferlaw02_DiskSwapped.f k x.f0 x.f1 x.f2 n tb) ?_
  unfold gafferlaw02_DiskSwapped.f
  refine Ev.bind lives_ev (Ev.pos rfl (Ev.bind hR ?_))
  by_cases hz : (outcome x.f0 x.f1 x.f2 (swapO o x.f0 tb)).2.2.2 = 0
  · obtain ⟨hg, hd, hw, h0, eo⟩ := opR_zero hz
    rw [show outcome x.f0 x.f1 x.f2 (swapO o x.f0 tb) = _ from eo] at hS
    refine Ev.bind hS (Ev.pos rfl ?_)
    rw [hd, readR_go hg]
    cases ho with
    | bad h => exact absurd hg h
    | none A B _ e ha hb => exact absurd hw (by simp [swapO])
    | some A g B _ e ha hn hb =>
      have hrise : Rise (A ++ B) := rise_sub (e ▸ hg.rise)
      have hok : ∀ y ∈ A ++ B, Ok1 y := fun y hy => hg.ok y (by rw [e]; exact (List.mem_append.1 hy).elim (fun h => List.mem_append_left _ h) (fun h => List.mem_append_right _ (List.mem_cons_of_mem _ h)))
      have hokg : Ok1 g := hg.ok g (by rw [e]; exact List.mem_append_right _ List.mem_cons_self)
      have hlen : x.f0.length = A.length + (B.length + 1) := by rw [e, List.length_append, List.length_cons]
      have h4 := hg.2
      have hne : ∀ y ∈ A ++ B, nm y ≠ n.toList := by
        intro y hy h
        rcases List.mem_append.1 hy with h2 | h2
        · have := ha y h2; rw [h] at this; exact blt_irrefl _ this
        · have := hb y h2; rw [h] at this; exact blt_irrefl _ this
      obtain ⟨A', B', hE, hA', hB', hsub⟩ := withL_parts (⟨tb, g.f1, g.f2⟩ : S35) hrise
      have hE' : (swapO (some (A, some g, B)) x.f0 tb).2.2 = A' ++ (⟨tb, g.f1, g.f2⟩ : S35) :: B' := hE
      rw [hE']
      have hAB : (A' ++ B').length ≤ (A ++ B).length := hsub.length_le
      rw [List.length_append, List.length_append] at hAB
      have hElen : (A' ++ (⟨tb, g.f1, g.f2⟩ : S35) :: B').length = A'.length + (B'.length + 1) := by rw [List.length_append, List.length_cons]
      have hEg : Dk.Good (A' ++ (⟨tb, g.f1, g.f2⟩ : S35) :: B') := by
        refine good_of (rise_ins (hrise.sublist hsub) hA' hB') ?_ (by omega)
        intro y hy
        rcases List.mem_append.1 hy with h | h
        · exact hok y (hsub.subset (List.mem_append_left _ h))
        · rcases List.mem_cons.1 h with rfl | h
          · exact hokg
          · exact hok y (hsub.subset (List.mem_append_right _ h))
      have hat : At tb.toList (A' ++ (⟨tb, g.f1, g.f2⟩ : S35) :: B') (some (A', some (⟨tb, g.f1, g.f2⟩ : S35), B')) := At.some A' _ B' hEg rfl hA' rfl hB'
      obtain ⟨o2, ho2⟩ := at_of n.toList (A' ++ (⟨tb, g.f1, g.f2⟩ : S35) :: B')
      have hR1 := Read_ev _ false (dec x.f2) tb _ hat (by omega)
      have hR2 := Read_ev _ false (dec x.f2) n o2 ho2 (by omega)
      rw [readR_go hEg] at hR1 hR2
      have hC := Check_ev (A' ++ (⟨tb, g.f1, g.f2⟩ : S35) :: B') false (dec x.f2) (by omega)
      rw [res_pos hEg] at hC
      refine Ev.bind hR1 (Ev.bind hR2 (Ev.pos rfl (Ev.pos rfl (Ev.pos rfl ?_))))
      by_cases hnt : n.toList = tb.toList
      · refine Ev.pos hnt (Ev.pos ?_ (Ev.bind hC (Ev.now _)))
        have : n = tb := toList_inj.1 hnt
        subst this
        have := Ev.unique hR1 hR2
        rw [← this]; rfl
      · refine Ev.neg hnt (Ev.pos ?_ (Ev.bind hC (Ev.now _)))
        cases ho2 with
        | bad h => exact absurd hEg h
        | none _ _ _ _ _ _ => rfl
        | some A2 g2 B2 _ e2 _ hn2 _ =>
          exfalso
          have hm : g2 ∈ A' ++ (⟨tb, g.f1, g.f2⟩ : S35) :: B' := by rw [e2]; exact List.mem_append_right _ List.mem_cons_self
          rcases List.mem_append.1 hm with h | h
          · exact hne g2 (hsub.subset (List.mem_append_left _ h)) hn2
          · rcases List.mem_cons.1 h with rfl | h
            · exact hnt hn2.symm
            · exact hne g2 (hsub.subset (List.mem_append_right _ h)) hn2
  · exact Ev.bind hS (Ev.neg hz (Ev.now _))
end Go.Proofs.Ytpdacpopkegecaa.Pure
