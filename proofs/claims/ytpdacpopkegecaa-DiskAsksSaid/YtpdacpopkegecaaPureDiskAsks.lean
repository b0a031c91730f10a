/- What is read, and which names begin so, is what the document says. No condition beside the form's own. -/
import Derived.Test.YtpdacpopkegecaaPAx15
import Derived.Test.YtpdacpopkegecaaPAx14
import Derived.Test.YtpdacpopkegecaaPAx13
import Derived.Test.YtpdacpopkegecaaDkNames
import Derived.Test.YtpdacpopkegecaaDkWith
import Derived.Test.YtpdacpopkegecaaDkLaw
import Derived.Test.YtpdacpopkegecaaDkLives
namespace Go.Proofs.Ytpdacpopkegecaa.Pure
open Go.RowKit Go.Proofs.YtpdacpopkegecaaW.PrintWords Go.Proofs.YtpdacpopkegecaaW.PrintLast Go.Proofs.YtpdacpopkegecaaW.PrintMore Go.Proofs.Ytpdacpopkegecaa.PA Go.Proofs.Ytpdacpopkegecaa.Ba Go.Proofs.Ytpdacpopkegecaa.Dk Go.Proofs.Ytpdacpopkegecaa.Op
set_option linter.unusedVariables false
attribute [local instance 10] Classical.propDecidable

theorem RRead_ev (l : List S35) (d : Bool) (f : Int) (n : ByteArray) (o) (ho : At n.toList l o) (hl : l.length < 4611686018427387904) : Ev (fun k => gafferref02_Read.f k l d f n) (readR l d o) := by
  unfold gafferref02_Read.f
  have hc := RCheck_ev l d f hl
  by_cases hg : Dk.Good l
  · rw [res_pos hg] at hc
    refine Ev.bind hc (Ev.pos rfl ?_)
    cases d with
    | true =>
      rw [readR_down hg]
      exact Ev.pos rfl (Ev.now _)
    | false =>
      rw [readR_go hg]
      refine Ev.neg (by decide) ?_
      cases ho with
      | bad h => exact absurd hg h
      | none A B _ e ha hb =>
        subst e
        exact Ev.bind (find_none A B n false f hl ha hb) (Ev.pos (by decide) (Ev.now _))
      | some A g B _ e ha hn hb =>
        subst e
        have hlen : (A ++ g :: B).length = A.length + (B.length + 1) := List.length_append
        refine Ev.bind (find_some A g B n false f hl ha hn) (Ev.neg (by omega) (Ev.pos (by omega) (Ev.pos (by omega) ?_)))
        rw [rd_nat, getD_mid]
        exact Ev.now _
  · rw [res_neg hg] at hc
    rw [readR_bad hg]
    exact Ev.bind hc (Ev.neg (by decide) (Ev.now _))
theorem RNames_l0 (l : List S35) (p : ByteArray) (hl : l.length < 4611686018427) : ∀ (m j : Nat) (acc : List ByteArray), j + m = l.length → acc.length ≤ j →
    Ev (fun k => gafferref02_Names.l0 k p acc l (l.length : Int) (j : Int)) (acc ++ namesL p (l.drop j), 0)
  | 0, j, acc, hj, ha => by
    refine Ev.step (fun k => rfl) ?_
    simp only [gafferref02_Names.l0]
    refine Ev.neg (by omega) ?_
    rw [List.drop_eq_nil_of_le (by omega), show namesL p [] = [] from rfl, List.append_nil]
    exact Ev.now _
  | m + 1, j, acc, hj, ha => by
    have hlt : j < l.length := by omega
    obtain ⟨x, hx⟩ : ∃ x, x = l[j] := ⟨_, rfl⟩
    have hd : l.drop j = x :: l.drop (j + 1) := by rw [hx]; exact List.drop_eq_getElem_cons hlt
    have hg : l.getD j z35 = x := by rw [hx]; exact getD_lt hlt
    have yes := fun h => RNames_l0 l p hl m (j + 1) (acc ++ [x.f0]) (by omega) h
    have no := RNames_l0 l p hl m (j + 1) acc (by omega) (by omega)
    refine Ev.step (fun k => rfl) ?_
    simp only [gafferref02_Names.l0]
    refine Ev.pos (by omega) (Ev.pos (by omega) (Ev.pos (by omega) ?_))
    rw [rd_nat, hg, hd, wrap_add1 (by omega), namesL_cons]
    by_cases h1 : p.size ≤ x.f0.size
    · refine Ev.pos (by omega) (Ev.pos (by omega) (Ev.pos (by omega) ?_))
      by_cases h2 : (x.f0.extract 0 p.size).toList = p.toList
      · have hb : begins p x.f0 = true := decide_eq_true ⟨h1, h2⟩
        refine Ev.pos h2 (Ev.pos (by omega) ?_)
        rw [if_pos hb, ← List.append_assoc]
        exact yes (by simp; omega)
      · have hb : ¬ begins p x.f0 = true := fun h => h2 (of_decide_eq_true h).2
        refine Ev.neg h2 ?_
        rw [if_neg hb, List.nil_append]
        exact no
    · have hb : ¬ begins p x.f0 = true := fun h => h1 (of_decide_eq_true h).1
      refine Ev.neg (by omega) ?_
      rw [if_neg hb, List.nil_append]
      exact no
theorem RNames_ev (l : List S35) (d : Bool) (f : Int) (p : ByteArray) (hl : l.length < 4611686018427) : Ev (fun k => gafferref02_Names.f k l d f p) (namesR p l d) := by
  unfold gafferref02_Names.f
  have hc := RCheck_ev l d f (by omega)
  by_cases hg : Dk.Good l
  · rw [res_pos hg] at hc
    refine Ev.bind hc (Ev.pos rfl ?_)
    cases d with
    | true =>
      rw [namesR_down hg]
      exact Ev.pos rfl (Ev.now _)
    | false =>
      rw [namesR_go hg]
      exact Ev.neg (by decide) (RNames_l0 l p hl l.length 0 [] (by omega) (by simp))
  · rw [res_neg hg] at hc
    rw [namesR_bad hg]
    exact Ev.bind hc (Ev.neg (by decide) (Ev.now _))
theorem Asks_l0 (l : List ByteArray) (hl : l.length < 4611686018427387904) : ∀ (m j : Nat), j + m = l.length → Ev (fun k => gafferlaw02_DiskAsks.l0 k l l (l.length : Int) (j : Int)) true
  | 0, j, hj => by
    refine Ev.step (fun k => rfl) ?_
    simp only [gafferlaw02_DiskAsks.l0]
    exact Ev.neg (by omega) (Ev.now _)
  | m + 1, j, hj => by
    refine Ev.step (fun k => rfl) ?_
    simp only [gafferlaw02_DiskAsks.l0]
    refine Ev.pos (by omega) (Ev.pos (by omega) (Ev.pos (by omega) (Ev.pos (by omega) (Ev.pos trivial ?_))))
    rw [wrap_add1 (by omega)]
    exact Asks_l0 l hl m (j + 1) (by omega)
theorem namesR_len (p : ByteArray) (l : List S35) (d : Bool) : (namesR p l d).1.length ≤ l.length := by
  unfold namesR
  split
  · exact Nat.zero_le _
  · split
    · exact Nat.zero_le _
    · exact namesL_len p l
theorem DiskAsks : gafferlaw02_DiskAsks.Pure := by
  intro x n hx hn
  have c := came hx
  obtain ⟨o, ho⟩ := at_of n.toList x.f0
  have h1 := c.len
  have hc1 := Check_ev x.f0 x.f1 x.f2 (by omega)
  have hc2 := RCheck_ev x.f0 x.f1 x.f2 (by omega)
  have hlen := namesR_len n x.f0 x.f1
  refine Ev.rounds (g := fun k => gafferlaw02_DiskAsks.f k x.f0 x.f1 x.f2 n) ?_
  unfold gafferlaw02_DiskAsks.f
  refine Ev.bind (Read_ev _ _ _ n o ho (by omega)) (Ev.bind (RRead_ev _ _ _ n o ho (by omega)) ?_)
  refine Ev.bind (Names_ev _ _ _ n (by omega)) (Ev.bind (RNames_ev _ _ _ n (by omega)) (Ev.bind lives_ev (Ev.pos rfl (Ev.pos rfl (Ev.pos rfl (Ev.pos rfl (Ev.pos rfl ?_)))))))
  refine Ev.bind hc1 (Ev.bind hc2 (Ev.step (fun k => rfl) ?_))
  simp only [gafferlaw02_DiskAsks.j0]
  refine Ev.neg (by simp) ?_
  exact Asks_l0 _ (by omega) (namesR n x.f0 x.f1).1.length 0 (by omega)
end Go.Proofs.Ytpdacpopkegecaa.Pure
