/- Which names begin so, in the program. No condition beside those in each row. -/
import Derived.Test.YtpdacpopkegecaaPAx14
import Derived.Test.YtpdacpopkegecaaPAx13
import Derived.Test.YtpdacpopkegecaaDkRead
namespace Go.Proofs.Ytpdacpopkegecaa.Dk
open Go.RowKit Go.Proofs.YtpdacpopkegecaaW.PrintWords Go.Proofs.YtpdacpopkegecaaW.PrintLast Go.Proofs.YtpdacpopkegecaaW.PrintMore Go.Proofs.Ytpdacpopkegecaa.PA Go.Proofs.Ytpdacpopkegecaa.Ba Go.Proofs.Ytpdacpopkegecaa.Sh
set_option linter.unusedVariables false
attribute [local instance 10] Classical.propDecidable

noncomputable def begins (p a : ByteArray) : Bool := decide (p.size ≤ a.size ∧ (a.extract 0 p.size).toList = p.toList)
noncomputable def namesL (p : ByteArray) (l : List S35) : List ByteArray := (l.filter (fun x => begins p x.f0)).map (fun x => x.f0)
theorem hasPrefix_at (a p : ByteArray) : strings_HasPrefix.f a p = some (begins p a) := by
  unfold strings_HasPrefix.f stringslite_HasPrefix.f begins
  by_cases h : p.size ≤ a.size
  · rw [if_pos (by omega), if_pos (by omega), if_pos (by omega)]
    show some _ = some _
    congr 1
    rw [Bool.eq_iff_iff, beq_iff_eq, decide_eq_true_eq]
    exact ⟨fun h2 => ⟨h, h2⟩, fun h2 => h2.2⟩
  · rw [if_neg (by omega), decide_eq_false (fun h2 => h h2.1)]
    rfl
theorem namesL_cons (p : ByteArray) (x : S35) (r : List S35) : namesL p (x :: r) = (if begins p x.f0 = true then [x.f0] else []) ++ namesL p r := by
  unfold namesL
  by_cases h : begins p x.f0 = true
  · rw [List.filter_cons_of_pos (by simpa using h), if_pos h]; rfl
  · rw [List.filter_cons_of_neg (by simpa using h), if_neg h]; rfl
theorem namesL_len (p : ByteArray) (l : List S35) : (namesL p l).length ≤ l.length := by
  unfold namesL
  rw [List.length_map]
  exact List.length_filter_le _ _
theorem Names_l0 (l : List S35) (p : ByteArray) (hl : l.length < 4611686018427) : ∀ (m j : Nat) (acc : List ByteArray), j + m = l.length → acc.length ≤ j →
    Ev (fun k => disk_Names.l0 k p acc l (l.length : Int) (j : Int)) (acc ++ namesL p (l.drop j), 0)
  | 0, j, acc, hj, ha => by
    refine Ev.step (fun k => rfl) ?_
    simp only [disk_Names.l0]
    refine Ev.neg (by omega) ?_
    rw [List.drop_eq_nil_of_le (by omega), show namesL p [] = [] from rfl, List.append_nil]
    exact Ev.now _
  | m + 1, j, acc, hj, ha => by
    have hlt : j < l.length := by omega
    obtain ⟨x, hx⟩ : ∃ x, x = l[j] := ⟨_, rfl⟩
    have hd : l.drop j = x :: l.drop (j + 1) := by rw [hx]; exact List.drop_eq_getElem_cons hlt
    have hg : l.getD j z35 = x := by rw [hx]; exact getD_lt hlt
    refine Ev.step (fun k => rfl) ?_
    simp only [disk_Names.l0]
    refine Ev.pos (by omega) (Ev.pos (by omega) (Ev.pos (by omega) ?_))
    rw [rd_nat, hg, hd, wrap_add1 (by omega), hasPrefix_at, namesL_cons]
    refine Ev.bind_const ?_
    by_cases h : begins p x.f0 = true
    · refine Ev.pos h (Ev.pos (by omega) ?_)
      rw [if_pos h, ← List.append_assoc]
      exact Names_l0 l p hl m (j + 1) (acc ++ [x.f0]) (by omega) (by simp; omega)
    · refine Ev.neg h ?_
      rw [if_neg h, List.nil_append]
      exact Names_l0 l p hl m (j + 1) acc (by omega) (by omega)
noncomputable def namesR (p : ByteArray) (l : List S35) (d : Bool) : List ByteArray × Int := if ¬ Good l then ([], 10) else if d = true then ([], 8) else (namesL p l, 0)
theorem namesR_bad {l : List S35} (h : ¬ Good l) (p : ByteArray) (d : Bool) : namesR p l d = ([], 10) := if_pos h
theorem namesR_down {l : List S35} (h : Good l) (p : ByteArray) : namesR p l true = ([], 8) := by unfold namesR; rw [if_neg (fun x => x h), if_pos rfl]
theorem namesR_go {l : List S35} (h : Good l) (p : ByteArray) : namesR p l false = (namesL p l, 0) := by unfold namesR; rw [if_neg (fun x => x h), if_neg (by decide)]
theorem Names_ev (l : List S35) (d : Bool) (f : Int) (p : ByteArray) (hl : l.length < 4611686018427) : Ev (fun k => disk_Names.f k l d f p) (namesR p l d) := by
  unfold disk_Names.f
  have ha := asked_ev l d f (by omega)
  by_cases hg : Good l
  · rw [if_pos hg] at ha
    cases d with
    | true => rw [namesR_down hg]; exact Ev.bind ha (Ev.neg (by decide) (Ev.now _))
    | false =>
      rw [namesR_go hg]
      exact Ev.bind ha (Ev.pos rfl (Names_l0 l p hl l.length 0 [] (by omega) (by simp)))
  · rw [if_neg hg] at ha
    rw [namesR_bad hg]
    exact Ev.bind ha (Ev.neg (by decide) (Ev.now _))
end Go.Proofs.Ytpdacpopkegecaa.Dk
