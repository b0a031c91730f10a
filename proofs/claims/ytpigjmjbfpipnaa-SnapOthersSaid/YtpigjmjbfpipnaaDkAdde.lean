/- Adding, in the program. No condition beside those in each row. -/
import Derived.Test.YtpigjmjbfpipnaaPEx11
import Derived.Test.YtpigjmjbfpipnaaDkDonee
namespace Go.Proofs.Ytpigjmjbfpipnaa.Dk
open Go.RowKit Go.Proofs.YtpigjmjbfpipnaaW.PrintWords Go.Proofs.YtpigjmjbfpipnaaW.PrintLast Go.Proofs.YtpigjmjbfpipnaaW.PrintMore Go.Proofs.Ytpigjmjbfpipnaa.PE Go.Proofs.Ytpigjmjbfpipnaa.Ba Go.Proofs.Ytpigjmjbfpipnaa.Sh
set_option linter.unusedVariables false
attribute [local instance 10] Classical.propDecidable

theorem nil_append_ba (b : ByteArray) : (⟨#[]⟩ : ByteArray) ++ b = b := by
  obtain ⟨x, rfl, _⟩ := exists_ba b
  rw [ba_nil, ba_append, List.nil_append]
noncomputable def addO (o : Option (List S71 × Option S71 × List S71)) (l : List S71) (n data : ByteArray) : Int × List S71 × List S71 :=
  match o with
  | some (A, some g, B) => (if ¬ named n then 5 else 0, A ++ ⟨g.f0, g.f1 ++ data, g.f2⟩ :: B, A ++ ⟨g.f0, g.f1 ++ data, g.f2⟩ :: B)
  | some (A, none, B) => (if ¬ named n then 5 else if 4096 ≤ l.length then 11 else 0, A ++ ⟨n, data, 0⟩ :: B, A ++ ⟨n, data, 0⟩ :: B)
  | none => (0, l, l)
theorem j1_add (l : List S71) (d : Bool) (f : Int) (p : Nat) (n tb data : ByteArray) (size : Int) (hp : p < l.length) : Ev (fun k => disk_done.j1 k (p : Int) l d f 0 n tb data size) (l, d, f, 0) := by
  refine Ev.step (fun k => rfl) ?_
  simp only [disk_done.j1]
  exact Ev.pos (by omega) (Ev.pos (by omega) (Ev.neg (by decide) (Ev.neg (by decide) (Ev.neg (by decide) (Ev.neg (by decide) (Ev.now _))))))
theorem Add_ev (l : List S71) (d : Bool) (f : Int) (n data : ByteArray) (o) (ho : At n.toList l o) (hl : l.length + 1 < 3518437208883) (hf : f < 9223372036854775808) (hs : ∀ x ∈ l, x.f1.size ≤ 4611686018427387903) (hsd : data.size ≤ 4611686018427387904) :
    Ev (fun k => disk_Add.f k l d f n data) (outcome l d f (addO o l n data)) := by
  unfold disk_Add.f disk_done.f outcome
  refine Ev.bind (done_shape l d f (by omega) _ _ _ _ _ ?_ ?_) (Ev.now _)
  · intro hg hd
    cases ho with
    | bad h => exact absurd hg h
    | none A B _ e ha hb =>
      subst e
      have := refused_add false d f 0 n (⟨#[]⟩ : ByteArray) data (A ++ B) A.length (place_none A B n d f (by omega) ha hb)
      show Ev _ (if ¬ named n then 5 else if 4096 ≤ (A ++ B).length then 11 else 0)
      by_cases hn : ¬ named n
      · rw [if_pos hn]; rwa [if_pos hn] at this
      · rw [if_neg hn]; rw [if_neg hn] at this
        by_cases h4 : 4096 ≤ (A ++ B).length
        · rw [if_pos h4]; rwa [if_pos ⟨rfl, h4⟩] at this
        · rw [if_neg h4]; rwa [if_neg (fun h => h4 h.2)] at this
    | some A g B _ e ha hn hb =>
      subst e
      have := refused_add true d f 0 n (⟨#[]⟩ : ByteArray) data (A ++ g :: B) A.length (place_some A g B n d f (by omega) ha hn hb)
      show Ev _ (if ¬ named n then 5 else 0)
      by_cases hn : ¬ named n
      · rw [if_pos hn]; rwa [if_pos hn] at this
      · rw [if_neg hn]; rwa [if_neg hn, if_neg (fun h => by cases h.1)] at this
  · intro hg hd hw
    cases ho with
    | bad h => exact absurd hg h
    | none A B _ e ha hb =>
      subst e
      have hlen : (A ++ B).length = A.length + B.length := List.length_append
      refine Ev.bind (place_none A B n d f (by omega) ha hb) (Ev.pos rfl (Ev.neg (by simp) ?_))
      dsimp only
      rw [ins_at A B _ (by omega)]
      refine Ev.bind_const ?_
      refine Ev.pos (by omega) (Ev.pos (by rw [List.length_append, List.length_cons]; omega) ?_)
      rw [rd_nat, getD_mid]
      refine Ev.pos (by show 0 + data.size ≤ _; omega) ?_
      rw [Int.toNat_natCast, set_mid, nil_append_ba]
      exact done_j0 _ _ _ _ _ _ _ _ _ hf _ (fun h0 => j1_add _ _ _ _ _ _ _ _ (by rw [List.length_append, List.length_cons]; omega))
    | some A g B _ e ha hn hb =>
      subst e
      have hlen : (A ++ g :: B).length = A.length + (B.length + 1) := List.length_append
      refine Ev.bind (place_some A g B n d f (by omega) ha hn hb) (Ev.pos rfl (Ev.pos rfl (Ev.pos (by omega) (Ev.pos (by omega) ?_))))
      rw [rd_nat, getD_mid]
      refine Ev.pos (by have := hs g (by simp); omega) ?_
      rw [Int.toNat_natCast, set_mid]
      exact done_j0 _ _ _ _ _ _ _ _ _ hf _ (fun h0 => j1_add _ _ _ _ _ _ _ _ (by rw [List.length_append, List.length_cons]; omega))
theorem addO_len {n : List UInt8} {l : List S71} {o} (h : At n l o) (a b : ByteArray) : (addO o l a b).2.1.length ≤ l.length + 1 ∧ (addO o l a b).2.2.length ≤ l.length + 1 := by
  rcases o with _ | ⟨A, _ | g, B⟩
  · exact ⟨by simp [addO], by simp [addO]⟩
  · have := at_len h
    have e : (A ++ (⟨a, b, 0⟩ : S71) :: B).length ≤ l.length + 1 := by rw [List.length_append, List.length_cons]; omega
    exact ⟨e, e⟩
  · have := at_len h
    have e : (A ++ (⟨g.f0, g.f1 ++ b, g.f2⟩ : S71) :: B).length ≤ l.length + 1 := by rw [List.length_append, List.length_cons]; omega
    exact ⟨e, e⟩
end Go.Proofs.Ytpigjmjbfpipnaa.Dk
