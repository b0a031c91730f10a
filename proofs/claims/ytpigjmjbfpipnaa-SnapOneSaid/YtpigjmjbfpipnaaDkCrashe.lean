/- What a crash leaves, in the program. No condition beside those in each row. -/
import Derived.Test.YtpigjmjbfpipnaaPEx13
import Derived.Test.YtpigjmjbfpipnaaDkOrde
import Derived.Test.YtpigjmjbfpipnaaDkSamee
import Derived.Test.YtpigjmjbfpipnaaDkLawe
namespace Go.Proofs.Ytpigjmjbfpipnaa.Dk
open Go.RowKit Go.Proofs.YtpigjmjbfpipnaaW.PrintWords Go.Proofs.YtpigjmjbfpipnaaW.PrintLast Go.Proofs.YtpigjmjbfpipnaaW.PrintMore Go.Proofs.Ytpigjmjbfpipnaa.PE Go.Proofs.Ytpigjmjbfpipnaa.Ba Go.Proofs.Ytpigjmjbfpipnaa.Sh
set_option linter.unusedVariables false
attribute [local instance 10] Classical.propDecidable

/-- How much of a file is left, of which so many bytes are kept. -/
noncomputable def left (g : S71) (k : Int) : Int := if k ≤ 0 then g.f2 else g.f2 + mn k ((g.f1.size : Int) - g.f2)
noncomputable def cr (g : S71) (k : Int) : S71 := ⟨g.f0, g.f1.extract 0 (left g k).toNat, left g k⟩
noncomputable def crs (ks : List Int) : Nat → List S71 → List S71
  | _, [] => []
  | j, g :: r => cr g (ks.getD j 0) :: crs ks (j + 1) r
theorem left_ge {g : S71} (h : Ok1 g) (k : Int) : g.f2 ≤ left g k ∧ left g k ≤ (g.f1.size : Int) := by
  have := h.1; have := h.2
  unfold left mn
  split
  · omega
  · split <;> omega
theorem crs_len (ks : List Int) : ∀ (j : Nat) (l : List S71), (crs ks j l).length = l.length
  | _, [] => rfl
  | j, g :: r => by rw [crs, List.length_cons, List.length_cons, crs_len]
theorem rd_natI (l : List Int) (j : Nat) : rd l (j : Int) = l.getD j 0 := rfl
theorem rd_out (ks : List Int) (j : Nat) (h : (j : Int) ≥ (ks.length : Int)) : ks.getD j 0 = 0 := by
  rw [List.getD_eq_getElem?_getD, List.getElem?_eq_none (by omega)]; rfl
theorem Crash_l0 (ks : List Int) (l : List S71) (d : Bool) (f : Int) (hl : l.length < 4611686018427387904) (hk : ks.length < 4611686018427387904) : ∀ (B P A : List S71), l = P ++ B → A.length = P.length → (∀ x ∈ B, Ok1 x) → (∀ x ∈ B, x.f1.size ≤ 4611686018427387903) → (∀ k ∈ ks, k < 9223372036854775808) →
    Ev (fun k => disk_Crash.l0 k ks (l.length : Int) (A.length : Int) l d f (A ++ B) false (-1)) (A ++ crs ks A.length B, false, -1, 0)
  | [], P, A, e, h, _, _, _ => by
    have : l.length = A.length := by rw [e, List.append_nil, h]
    refine Ev.step (fun k => rfl) ?_
    simp only [disk_Crash.l0]
    exact Ev.neg (by omega) (Ev.now _)
  | g :: B, P, A, e, h, ho, hs, hks => by
    have hlen : l.length = A.length + (B.length + 1) := by rw [e, List.length_append, List.length_cons, h]
    have og := ho g List.mem_cons_self
    have sg := hs g List.mem_cons_self
    have o1 := og.1
    have o2 := og.2
    have ih : ∀ x : S71, x = cr g (ks.getD A.length 0) → Ev (fun k => disk_Crash.l0 k ks (l.length : Int) (wrap64 ((A.length : Int) + 1)) l d f (A ++ x :: B) false (-1)) (A ++ crs ks A.length (g :: B), false, -1, 0) := by
      intro x hx
      have := Crash_l0 ks l d f hl hk B (P ++ [g]) (A ++ [x]) (by rw [e, List.append_assoc]; rfl) (by simp [h]) (fun y hy => ho y (List.mem_cons_of_mem _ hy)) (fun y hy => hs y (List.mem_cons_of_mem _ hy)) hks
      rw [List.append_assoc, List.append_assoc, List.length_append] at this
      rw [wrap_add1 (by omega), crs, ← hx]
      exact this
    have lg : rd_T71 l (A.length : Int) = g := by rw [rd_nat, e, h]; exact getD_mid P g B
    refine Ev.step (fun k => rfl) ?_
    simp only [disk_Crash.l0]
    rw [lg, rd_nat, getD_mid, Int.toNat_natCast, set_mid]
    refine Ev.pos (by omega) (Ev.pos (by omega) (Ev.pos (by rw [List.length_append, List.length_cons]; omega) (Ev.pos o1 (Ev.pos o2 (Ev.bind_const ?_)))))
    by_cases hj : (A.length : Int) ≥ (ks.length : Int)
    · refine Ev.pos hj (ih _ ?_)
      unfold cr left
      rw [rd_out ks _ hj, if_pos (by decide)]
    · refine Ev.neg hj (Ev.pos (by omega) ?_)
      rw [rd_natI]
      by_cases hn : ks.getD A.length 0 ≤ 0
      · refine Ev.pos hn (ih _ ?_)
        unfold cr left
        rw [if_pos hn]
      · refine Ev.neg hn (Ev.bind_const ?_)
        have hle := left_ge og (ks.getD A.length 0)
        have hw : wrap64 (g.f2 + mn (ks.getD A.length 0) (wrap64 ((g.f1.size : Int) - g.f2))) = left g (ks.getD A.length 0) := by
          rw [wrap64_id (n := (g.f1.size : Int) - g.f2) (by omega) (by omega)]
          have : left g (ks.getD A.length 0) = g.f2 + mn (ks.getD A.length 0) ((g.f1.size : Int) - g.f2) := if_neg hn
          rw [← this, wrap64_id (by omega) (by omega)]
        simp only [rd_nat, getD_mid, set_mid, hw]
        exact Ev.pos (by omega) (Ev.pos (by omega) (Ev.pos (by omega) (ih _ rfl)))
theorem Crash_ev (l : List S71) (d : Bool) (f : Int) (ks : List Int) (hl : l.length < 3518437208883) (hs : ∀ x ∈ l, x.f1.size ≤ 4611686018427387903) (hk : ks.length < 4611686018427387904) (hb : ∀ k ∈ ks, k < 9223372036854775808) :
    Ev (fun k => disk_Crash.f k l d f ks) (if Good l then (crs ks 0 l, false, -1, 0) else ([], false, 0, 10)) := by
  unfold disk_Crash.f
  refine Ev.bind (Check_ev l d f (by omega)) ?_
  by_cases hg : Good l
  · rw [res_pos hg, if_pos hg]
    refine Ev.pos rfl ?_
    rw [Clone_at l hl]
    exact Ev.bind_const (Crash_l0 ks l d f (by omega) hk l [] [] rfl rfl hg.ok hs hb)
  · rw [res_neg hg, if_neg hg]
    exact Ev.neg (by decide) (Ev.now _)
theorem cr_size {g : S71} (h : Ok1 g) (k : Int) : ((cr g k).f1.size : Int) = left g k := by
  have := left_ge h k
  have := h.1
  show (((g.f1.extract 0 (left g k).toNat).size : Nat) : Int) = _
  rw [ByteArray.size_extract]
  omega
theorem cr_ok {g : S71} (h : Ok1 g) (k : Int) : Ok1 (cr g k) := by
  have h1 := left_ge h k
  have h2 := h.1
  have h3 := cr_size h k
  exact ⟨show 0 ≤ left g k by omega, by rw [h3]; exact Int.le_refl _⟩
theorem cr_nm (g : S71) (k : Int) : nm (cr g k) = nm g := rfl
theorem crs_nm (ks : List Int) : ∀ (j : Nat) (l : List S71), (crs ks j l).map nm = l.map nm
  | _, [] => rfl
  | j, g :: r => by rw [crs, List.map_cons, List.map_cons, crs_nm, cr_nm]
theorem crs_mem {ks : List Int} : ∀ {j : Nat} {l : List S71} {x : S71}, x ∈ crs ks j l → ∃ g ∈ l, ∃ k, x = cr g k
  | _, [], x, h => by simp [crs] at h
  | j, g :: r, x, h => by
    rw [crs] at h
    rcases List.mem_cons.1 h with rfl | h
    · exact ⟨g, List.mem_cons_self, _, rfl⟩
    · obtain ⟨g', hg', k, e⟩ := crs_mem h
      exact ⟨g', List.mem_cons_of_mem _ hg', k, e⟩
theorem rise_nm {l : List S71} : Rise l ↔ (l.map nm).Pairwise blt := by
  unfold Rise
  rw [List.pairwise_map]
theorem crs_good {l : List S71} (h : Good l) (ks : List Int) (j : Nat) : Good (crs ks j l) := by
  refine good_of ?_ ?_ (by rw [crs_len]; exact h.2)
  · rw [rise_nm, crs_nm, ← rise_nm]; exact h.rise
  · intro x hx
    obtain ⟨g, hg, k, rfl⟩ := crs_mem hx
    exact cr_ok (h.ok g hg) k
theorem extract_all (b : ByteArray) : b.extract 0 b.size = b := by
  obtain ⟨l, rfl, _⟩ := exists_ba b
  rw [ba_size, ba_take, List.take_length]
theorem cr_dry {g : S71} (h : g.f2 = (g.f1.size : Int)) (k : Int) : cr g k = g := by
  have e : left g k = g.f2 := by
    unfold left mn
    split
    · rfl
    · split <;> omega
  unfold cr
  rw [e]
  obtain ⟨a, b, c⟩ := g
  dsimp only at h ⊢
  subst h
  rw [Int.toNat_natCast, extract_all]
theorem crs_all_dry {l : List S71} (h : Good l) (ks : List Int) (j : Nat) : ∀ x ∈ crs ks j l, x.f2 = (x.f1.size : Int) := by
  intro x hx
  obtain ⟨g, hg, k, rfl⟩ := crs_mem hx
  exact (cr_size (h.ok g hg) k).symm
theorem crs_size {l : List S71} (h : Good l) (ks : List Int) (j : Nat) {B : Nat} (hB : ∀ x ∈ l, x.f1.size ≤ B) : ∀ x ∈ crs ks j l, x.f1.size ≤ B := by
  intro x hx
  obtain ⟨g, hg, k, rfl⟩ := crs_mem hx
  have := cr_size (h.ok g hg) k
  have := left_ge (h.ok g hg) k
  have := hB g hg
  omega
end Go.Proofs.Ytpigjmjbfpipnaa.Dk
