/- Where a file is: what the program's search comes to. No condition beside those in each row. -/
import Derived.Test.YtpigjmjbfpipnaaPEx2
import Derived.Test.YtpigjmjbfpipnaaDkListe
namespace Go.Proofs.Ytpigjmjbfpipnaa.Dk
open Go.RowKit Go.Proofs.YtpigjmjbfpipnaaW.PrintWords Go.Proofs.YtpigjmjbfpipnaaW.PrintLast Go.Proofs.YtpigjmjbfpipnaaW.PrintMore Go.Proofs.Ytpigjmjbfpipnaa.PE Go.Proofs.Ytpigjmjbfpipnaa.Ba Go.Proofs.Ytpigjmjbfpipnaa.Sh
set_option linter.unusedVariables false
attribute [local instance 10] Classical.propDecidable

theorem cmp_at (a b : ByteArray) (s : Int) (n : ByteArray) : disk_place_1.f a b s n = some (if blt a.toList n.toList then -1 else if blt n.toList a.toList then 1 else 0) := by
  unfold disk_place_1.f cmp_Compare_string.f cmp_isNaN_string.f
  simp only [bne_self_eq_false, Option.bind_some, Bool.false_eq_true, if_false]
  unfold blt
  by_cases h1 : Op.bytesLess a.toList n.toList = true
  · simp [h1]
  · by_cases h2 : Op.bytesLess n.toList a.toList = true
    · simp [h1, h2]
    · simp [h1, h2]
theorem mid (i j : Nat) (hi : i < j) (hj : j < 4611686018427387904) : wrap64 ((IntKind.u64.wrap (wrap64 ((i : Int) + (j : Int)))) / 2) = (((i + j) / 2 : Nat) : Int) := by
  have e1 : wrap64 ((i : Int) + (j : Int)) = (i : Int) + (j : Int) := wrap64_id (by omega) (by omega)
  have e2 : IntKind.u64.wrap ((i : Int) + (j : Int)) = (i : Int) + (j : Int) := u64_id (by omega) (by omega)
  rw [e1, e2, wrap64_id (by omega) (by omega)]
  omega
/-- The search, where a split is known: all ahead of p lie below the name, none from p on. -/
theorem search_l0 (l : List S71) (n : ByteArray) (hl : l.length < 4611686018427387904) (p : Nat) (hp : p ≤ l.length) (h1 : ∀ i, i < p → blt (nm (l.getD i z71)) n.toList) (h2 : ∀ i, p ≤ i → i < l.length → ¬ blt (nm (l.getD i z71)) n.toList) :
    ∀ (m i j : Nat), j - i ≤ m → i ≤ p → p ≤ j → j ≤ l.length → Ev (fun k => api_File_string.l0 k l n (l.length : Int) (i : Int) (j : Int)) ((p : Int), decide (p < l.length ∧ nm (l.getD p z71) = n.toList))
  | m, i, j, hm, hip, hpj, hjl => by
    by_cases hij : i < j
    · obtain ⟨m, rfl⟩ : ∃ q, m = q + 1 := ⟨m - 1, by omega⟩
      refine Ev.step (fun k => rfl) ?_
      simp only [api_File_string.l0]
      refine Ev.pos (by omega) ?_
      rw [mid i j hij (by omega)]
      refine Ev.pos (by omega) (Ev.pos (by omega) ?_)
      rw [rd_nat, cmp_at]
      refine Ev.bind_const ?_
      by_cases hb : blt (nm (l.getD ((i + j) / 2) z71)) n.toList
      · have hb' : blt ((l.getD ((i + j) / 2) z71).f0).toList n.toList := hb
        rw [if_pos hb']
        refine Ev.pos (by decide) ?_
        rw [wrap_add1 (by omega)]
        refine search_l0 l n hl p hp h1 h2 m _ j (by omega) ?_ hpj hjl
        by_cases hq : (i + j) / 2 + 1 ≤ p
        · exact hq
        · exact absurd hb (h2 _ (by omega) (by omega))
      · have hb' : ¬ blt ((l.getD ((i + j) / 2) z71).f0).toList n.toList := hb
        rw [if_neg hb']
        refine Ev.neg (by split <;> decide) ?_
        refine search_l0 l n hl p hp h1 h2 m i _ (by omega) hip ?_ (by omega)
        by_cases hq : p ≤ (i + j) / 2
        · exact hq
        · exact absurd (h1 _ (by omega)) hb
    · obtain rfl : i = p := by omega
      refine Ev.step (fun k => rfl) ?_
      simp only [api_File_string.l0]
      refine Ev.neg (by omega) ?_
      by_cases hlt : i < l.length
      · refine Ev.pos (by omega) (Ev.pos (by omega) (Ev.pos (by omega) ?_))
        rw [rd_nat, cmp_at]
        refine Ev.bind_const ?_
        have hb : ¬ blt ((l.getD i z71).f0).toList n.toList := h2 i (Nat.le_refl _) hlt
        rw [if_neg hb]
        have e : (((if blt n.toList ((l.getD i z71).f0).toList then (1 : Int) else 0) == 0) : Bool) = decide (i < l.length ∧ nm (l.getD i z71) = n.toList) := by
          by_cases hc : blt n.toList ((l.getD i z71).f0).toList
          · rw [if_pos hc]
            have : ¬ (i < l.length ∧ nm (l.getD i z71) = n.toList) := fun h => by
              have h3 : ((l.getD i z71).f0).toList = n.toList := h.2
              rw [h3] at hc
              exact blt_irrefl _ hc
            rw [decide_eq_false this]; rfl
          · rw [if_neg hc]
            have : i < l.length ∧ nm (l.getD i z71) = n.toList := ⟨hlt, Classical.byContradiction (fun hne => hc (blt_tri hb hne))⟩
            rw [decide_eq_true this]; rfl
        rw [e]
        exact Ev.now _
      · refine Ev.neg (by omega) ?_
        rw [decide_eq_false (fun h => hlt h.1)]
        exact Ev.now _
theorem place_none (A B : List S71) (n : ByteArray) (d : Bool) (f : Int) (hl : (A ++ B).length < 4611686018427387904) (ha : ∀ x ∈ A, blt (nm x) n.toList) (hb : ∀ x ∈ B, blt n.toList (nm x)) :
    Ev (fun k => disk_place.f k (A ++ B) d f n) ((A.length : Int), false) := by
  unfold disk_place.f api_File_string.f
  have hlen : (A ++ B).length = A.length + B.length := List.length_append
  have h := search_l0 (A ++ B) n hl A.length (by omega) (fun i hi => by rw [getD_left hi]; exact ha _ (getD_mem hi))
    (fun i hi hi2 => by rw [getD_right hi]; exact blt_asymm (hb _ (getD_mem (by omega)))) (A ++ B).length 0 (A ++ B).length (by omega) (by omega) (by omega) (Nat.le_refl _)
  rw [decide_eq_false (fun h => by
    have h2 : nm ((A ++ B).getD A.length z71) = n.toList := h.2
    rw [getD_right (Nat.le_refl _)] at h2
    have := hb _ (getD_mem (A := B) (i := A.length - A.length) (by omega))
    rw [h2] at this
    exact blt_irrefl _ this)] at h
  exact Ev.bind h (Ev.now _)
theorem place_some (A : List S71) (g : S71) (B : List S71) (n : ByteArray) (d : Bool) (f : Int) (hl : (A ++ g :: B).length < 4611686018427387904) (ha : ∀ x ∈ A, blt (nm x) n.toList) (hg : nm g = n.toList) (hb : ∀ x ∈ B, blt n.toList (nm x)) :
    Ev (fun k => disk_place.f k (A ++ g :: B) d f n) ((A.length : Int), true) := by
  unfold disk_place.f api_File_string.f
  have hlen : (A ++ g :: B).length = A.length + (B.length + 1) := List.length_append
  have h := search_l0 (A ++ g :: B) n hl A.length (by omega) (fun i hi => by rw [getD_left hi]; exact ha _ (getD_mem hi))
    (fun i hi hi2 => by
      rw [getD_right hi]
      have hm := getD_mem (A := g :: B) (i := i - A.length) (by simp only [List.length_cons]; omega)
      rcases List.mem_cons.1 hm with he | hm
      · rw [he, hg]; exact blt_irrefl _
      · exact blt_asymm (hb _ hm)) (A ++ g :: B).length 0 (A ++ g :: B).length (by omega) (by omega) (by omega) (Nat.le_refl _)
  rw [decide_eq_true ⟨by omega, by rw [getD_right (Nat.le_refl _), Nat.sub_self]; exact hg⟩] at h
  exact Ev.bind h (Ev.now _)
end Go.Proofs.Ytpigjmjbfpipnaa.Dk
