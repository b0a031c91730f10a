/- Reading, in the program. No condition beside those in each row. -/
import Derived.Test.YtpigjmjbfpipnaaPEx2
import Derived.Test.YtpigjmjbfpipnaaDkOrde
import Derived.Test.YtpigjmjbfpipnaaDkPlacee
namespace Go.Proofs.Ytpigjmjbfpipnaa.Dk
open Go.RowKit Go.Proofs.YtpigjmjbfpipnaaW.PrintWords Go.Proofs.YtpigjmjbfpipnaaW.PrintLast Go.Proofs.YtpigjmjbfpipnaaW.PrintMore Go.Proofs.Ytpigjmjbfpipnaa.PE Go.Proofs.Ytpigjmjbfpipnaa.Ba Go.Proofs.Ytpigjmjbfpipnaa.Sh
set_option linter.unusedVariables false
attribute [local instance 10] Classical.propDecidable

theorem asked_ev (l : List S71) (d : Bool) (f : Int) (hl : l.length < 4611686018427387904) : Ev (fun k => disk_asked.f k l d f) (if Good l then (if d = true then 8 else 0) else 10) := by
  unfold disk_asked.f
  refine Ev.bind (Check_ev l d f hl) ?_
  by_cases hg : Good l
  · rw [res_pos hg, if_pos hg]
    refine Ev.pos rfl ?_
    cases d with
    | true => exact Ev.pos rfl (Ev.now _)
    | false => exact Ev.neg (by decide) (Ev.now _)
  · rw [res_neg hg, if_neg hg]
    exact Ev.neg (by decide) (Ev.now _)
noncomputable def readO (o : Option (List S71 × Option S71 × List S71)) : ByteArray × Int :=
  match o with
  | some (_, some g, _) => (g.f1, 0)
  | _ => (⟨#[]⟩, 6)
noncomputable def readR (l : List S71) (d : Bool) (o : Option (List S71 × Option S71 × List S71)) : ByteArray × Int :=
  if ¬ Good l then (⟨#[]⟩, 10) else if d = true then (⟨#[]⟩, 8) else readO o
theorem readR_bad {l : List S71} (h : ¬ Good l) (d : Bool) (o) : readR l d o = (⟨#[]⟩, 10) := if_pos h
theorem readR_down {l : List S71} (h : Good l) (o) : readR l true o = (⟨#[]⟩, 8) := by unfold readR; rw [if_neg (fun x => x h), if_pos rfl]
theorem readR_go {l : List S71} (h : Good l) (o) : readR l false o = readO o := by unfold readR; rw [if_neg (fun x => x h), if_neg (by decide)]
theorem Read_ev (l : List S71) (d : Bool) (f : Int) (n : ByteArray) (o) (ho : At n.toList l o) (hl : l.length < 4611686018427387904) : Ev (fun k => disk_Read.f k l d f n) (readR l d o) := by
  unfold disk_Read.f
  refine Ev.bind (asked_ev l d f hl) ?_
  by_cases hg : Good l
  · rw [if_pos hg]
    cases d with
    | true =>
      rw [if_pos rfl, readR_down hg]
      exact Ev.neg (by decide) (Ev.now _)
    | false =>
      rw [if_neg (by decide), readR_go hg]
      refine Ev.pos rfl ?_
      cases ho with
      | bad h => exact absurd hg h
      | none A B _ e ha hb =>
        subst e
        exact Ev.bind (place_none A B n false f hl ha hb) (Ev.neg (by simp) (Ev.now _))
      | some A g B _ e ha hn hb =>
        subst e
        have hlen : (A ++ g :: B).length = A.length + (B.length + 1) := List.length_append
        refine Ev.bind (place_some A g B n false f hl ha hn hb) (Ev.pos rfl (Ev.pos (by omega) (Ev.pos (by omega) ?_)))
        rw [rd_nat, getD_mid]
        exact Ev.now _
  · rw [if_neg hg, readR_bad hg]
    exact Ev.neg (by decide) (Ev.now _)
/-- What is read under a name: the file of that name, if there is one. -/
theorem readO_mem {n : List UInt8} {l : List S71} {o} (h : At n l o) (hg : Good l) {g : S71} (hm : g ∈ l) (hn : nm g = n) : readO o = (g.f1, 0) := by
  cases h with
  | bad h => exact absurd hg h
  | none A B _ e ha hb =>
    exfalso
    rw [e] at hm
    rcases List.mem_append.1 hm with h | h
    · have := ha g h; rw [hn] at this; exact blt_irrefl _ this
    · have := hb g h; rw [hn] at this; exact blt_irrefl _ this
  | some A g2 B _ e ha hn2 hb =>
    rw [e] at hm
    rcases List.mem_append.1 hm with h | h
    · have := ha g h; rw [hn] at this; exact absurd this (blt_irrefl _)
    · rcases List.mem_cons.1 h with rfl | h
      · rfl
      · have := hb g h; rw [hn] at this; exact absurd this (blt_irrefl _)
theorem readO_none {n : List UInt8} {l : List S71} {o} (h : At n l o) (hm : ∀ g ∈ l, nm g ≠ n) : readO o = (⟨#[]⟩, 6) := by
  cases h with
  | bad h => rfl
  | none A B _ e ha hb => rfl
  | some A g2 B _ e ha hn2 hb => exact absurd hn2 (hm g2 (by rw [e]; exact List.mem_append_right _ List.mem_cons_self))
theorem readO_same {n : List UInt8} {l l' : List S71} {o o'} (h : At n l o) (h' : At n l' o') (hg : Good l) (hg' : Good l') (hm : ∀ g, nm g = n → (g ∈ l ↔ g ∈ l')) : readO o = readO o' := by
  by_cases he : ∃ g ∈ l, nm g = n
  · obtain ⟨g, hgl, hn⟩ := he
    rw [readO_mem h hg hgl hn, readO_mem h' hg' ((hm g hn).1 hgl) hn]
  · rw [readO_none h (fun g hg hn => he ⟨g, hg, hn⟩), readO_none h' (fun g hg hn => he ⟨g, (hm g hn).2 hg, hn⟩)]
end Go.Proofs.Ytpigjmjbfpipnaa.Dk
