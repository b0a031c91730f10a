/- What is put behind a file's end is read there, other files stay; synced it is there behind any crash. No condition beside the form's own. -/
import Derived.Test.YtpdacpopkegecaaPAx20
import Derived.Test.YtpdacpopkegecaaDkRead
import Derived.Test.YtpdacpopkegecaaDkAdd
import Derived.Test.YtpdacpopkegecaaDkSync
import Derived.Test.YtpdacpopkegecaaDkCrash
import Derived.Test.YtpdacpopkegecaaDkLaw
import Derived.Test.YtpdacpopkegecaaDkLives
namespace Go.Proofs.Ytpdacpopkegecaa.Pure
open Go.RowKit Go.Proofs.YtpdacpopkegecaaW.PrintWords Go.Proofs.YtpdacpopkegecaaW.PrintLast Go.Proofs.YtpdacpopkegecaaW.PrintMore Go.Proofs.Ytpdacpopkegecaa.PA Go.Proofs.Ytpdacpopkegecaa.Ba Go.Proofs.Ytpdacpopkegecaa.Dk Go.Proofs.Ytpdacpopkegecaa.Op
set_option linter.unusedVariables false
attribute [local instance 10] Classical.propDecidable

theorem Same_j0_true (l : List S35) (d : Bool) (f : Int) : Ev (fun k => gafferref02_Same.j0 k true l d f [] false 0) false := by
  refine Ev.step (fun k => rfl) ?_
  simp only [gafferref02_Same.j0]
  exact Ev.pos trivial (Ev.now _)
theorem Same_nil (l : List S35) (d : Bool) (f : Int) : ∃ b, Ev (fun k => gafferref02_Same.f k l d f [] false 0) b := by
  unfold gafferref02_Same.f
  cases d with
  | true => exact ⟨false, Ev.pos (by decide) (Same_j0_true _ _ _)⟩
  | false =>
    by_cases hf : f = 0
    · cases l with
      | nil =>
        refine ⟨true, Ev.neg (by decide) (Ev.pos hf (Ev.step (fun k => rfl) ?_))⟩
        simp only [gafferref02_Same.j0]
        refine Ev.neg (by simp) (Ev.step (fun k => rfl) ?_)
        simp only [gafferref02_Same.l0]
        exact Ev.neg (by simp) (Ev.now _)
      | cons g l =>
        have e : (((g :: l).length : Int) != (([] : List S35).length : Int)) = true := by simp only [List.length_cons, List.length_nil, bne_iff_ne]; omega
        refine ⟨false, Ev.neg (by decide) (Ev.pos hf ?_)⟩
        rw [e]
        exact Same_j0_true _ _ _
    · exact ⟨false, Ev.neg (by decide) (Ev.neg hf (Same_j0_true _ _ _))⟩
/-- Behind the end: the file as it was, and the new bytes. -/
theorem Behind_j0 (A : List S35) (g : S35) (B : List S35) (f : Int) (n : ByteArray) (ks : List Int) (hg : Dk.Good (A ++ g :: B)) (ha : ∀ x ∈ A, blt (nm x) n.toList) (hn : nm g = n.toList) (hb : ∀ x ∈ B, blt n.toList (nm x))
    (hl : (A ++ g :: B).length < 3518437208883) (hf : f < 9223372036854775808) (hs : ∀ x ∈ A ++ g :: B, x.f1.size ≤ 4611686018427387903) (hk : ks.length < 4611686018427387904) (hkb : ∀ k ∈ ks, k < 9223372036854775808) :
    Ev (fun k => gafferlaw02_DiskBehind.j0 k n ks g.f1 false (A ++ g :: B) false f) true := by
  refine Ev.step (fun k => rfl) ?_
  simp only [gafferlaw02_DiskBehind.j0]
  refine Ev.neg (by decide) ?_
  have hat : At n.toList (A ++ g :: B) (some (A, some g, B)) := At.some A g B hg rfl ha hn hb
  have hS := Sync_ev (A ++ g :: B) false f n _ hat hl hf
  rw [show outcome (A ++ g :: B) false f (syncO (some (A, some g, B)) (A ++ g :: B)) = if f = 0 then (A ++ g :: B, true, f, 8) else (A ++ ⟨g.f0, g.f1, (g.f1.size : Int)⟩ :: B, false, dec f, 0) from opR_go hg _ _ f] at hS
  by_cases h0 : f = 0
  · rw [if_pos h0] at hS
    exact Ev.bind hS (Ev.neg (by simp) (Ev.pos rfl (Ev.now _)))
  · rw [if_neg h0] at hS
    refine Ev.bind hS (Ev.pos rfl ?_)
    obtain ⟨g', hg'⟩ : ∃ g' : S35, g' = ⟨g.f0, g.f1, (g.f1.size : Int)⟩ := ⟨_, rfl⟩
    have hn' : nm g' = n.toList := by rw [hg']; exact hn
    have hf1 : g'.f1 = g.f1 := by rw [hg']
    have hlen : (A ++ g :: B).length = A.length + (B.length + 1) := by rw [List.length_append, List.length_cons]
    have hlen' : (A ++ g' :: B).length = A.length + (B.length + 1) := by rw [List.length_append, List.length_cons]
    have hmem : ∀ x ∈ A ++ g' :: B, x = g' ∨ x ∈ A ++ g :: B := by
      intro x hx
      rcases List.mem_append.1 hx with h | h
      · exact .inr (List.mem_append_left _ h)
      · rcases List.mem_cons.1 h with h | h
        · exact .inl h
        · exact .inr (List.mem_append_right _ (List.mem_cons_of_mem _ h))
    have hgood : Dk.Good (A ++ g' :: B) := by
      refine good_of ?_ ?_ (by have := hg.2; omega)
      · have := hg.rise
        rw [rise_nm] at this ⊢
        rw [List.map_append, List.map_cons] at this ⊢
        rw [hn']; rw [hn] at this; exact this
      · intro x hx
        rcases hmem x hx with rfl | h
        · rw [hg']; exact ⟨Int.natCast_nonneg _, Int.le_refl _⟩
        · exact hg.ok x h
    have hs' : ∀ x ∈ A ++ g' :: B, x.f1.size ≤ 4611686018427387903 := by
      intro x hx
      rcases hmem x hx with rfl | h
      · rw [hf1]; exact hs g (List.mem_append_right _ List.mem_cons_self)
      · exact hs x h
    rw [← hg']
    have hC := Crash_ev (A ++ g' :: B) false (dec f) ks (by omega) hs' hk hkb
    rw [if_pos hgood] at hC
    refine Ev.bind hC ?_
    have hgc := crs_good hgood ks 0
    have hcl := crs_len ks 0 (A ++ g' :: B)
    obtain ⟨o, ho⟩ := at_of n.toList (crs ks 0 (A ++ g' :: B))
    have hR := Read_ev (crs ks 0 (A ++ g' :: B)) false (-1) n o ho (by omega)
    have hm : g' ∈ crs ks 0 (A ++ g' :: B) := by
      rw [crs_append, crs, cr_dry (by rw [hg'])]
      exact List.mem_append_right _ List.mem_cons_self
    rw [readR_go hgc, readO_mem ho hgc hm hn'] at hR
    refine Ev.bind hR (Ev.pos rfl ?_)
    rw [hf1, show (g.f1.toList == g.f1.toList) = true by simp]
    exact Ev.now _
theorem DiskBehind : gafferlaw02_DiskBehind.Pure := by
  intro x n data other ks hx hn hdt hoth hk
  have c := came hx
  obtain ⟨o, ho⟩ := at_of n.toList x.f0
  obtain ⟨o3, ho3⟩ := at_of other.toList x.f0
  have h1 := c.len
  have hf := c.fuse
  have hk1 := hk.1
  have hdata : data.size ≤ 140737488351232 := hdt
  have hR := Read_ev x.f0 x.f1 x.f2 n o ho (by omega)
  have hA := Add_ev x.f0 x.f1 x.f2 n data o ho (by omega) hf (fun y hy => Nat.le_trans (c.size y hy) (by decide)) (by omega)
  refine Ev.rounds (g := fun k => gafferlaw02_DiskBehind.f k x.f0 x.f1 x.f2 n data other ks) ?_
  unfold gafferlaw02_DiskBehind.f
  refine Ev.bind lives_ev (Ev.pos rfl (Ev.bind hR ?_))
  by_cases hz : (outcome x.f0 x.f1 x.f2 (addO o x.f0 n data)).2.2.2 = 0
  · obtain ⟨hg, hd, hw, h0, eo⟩ := opR_zero hz
    rw [show outcome x.f0 x.f1 x.f2 (addO o x.f0 n data) = _ from eo] at hA
    refine Ev.bind hA (Ev.pos rfl ?_)
    rw [hd] at hR ⊢
    rw [readR_go hg]
    have hR3 := Read_ev x.f0 false x.f2 other o3 ho3 (by omega)
    rw [readR_go hg] at hR3
    have hdf : dec x.f2 < 9223372036854775808 := by unfold dec; split <;> omega
    have hdl : n.toList = n.toList := rfl
    -- the list behind the change
    suffices key : ∃ (A : List S35) (g : S35) (B : List S35), (addO o x.f0 n data).2.2 = A ++ g :: B ∧ g.f1 = (readO o).1 ++ data ∧ ((readO o).2 = 0 ∨ (readO o).2 = 6) ∧ (readO o).1.size ≤ 140737488351232 ∧ Dk.Good (A ++ g :: B) ∧ (∀ y ∈ A, blt (nm y) n.toList) ∧ nm g = n.toList ∧ (∀ y ∈ B, blt n.toList (nm y)) ∧
        (A ++ g :: B).length ≤ x.f0.length + 1 ∧ (∀ y ∈ A ++ g :: B, y.f1.size ≤ 4611686018427387903) ∧ (∀ y, nm y ≠ n.toList → (y ∈ x.f0 ↔ y ∈ A ++ g :: B)) by
      obtain ⟨A, g, B, hE, hgf, hw06, hwsz, hEg, hAl, hgn, hBl, hElen, hEs, hmem⟩ := key
      rw [hE]
      generalize readO o = was at hgf hw06 hwsz ⊢
      have hat : At n.toList (A ++ g :: B) (some (A, some g, B)) := At.some A g B hEg rfl hAl hgn hBl
      have hR1 := Read_ev (A ++ g :: B) false (dec x.f2) n _ hat (by omega)
      rw [readR_go hEg, show readO (some (A, some g, B)) = (g.f1, 0) from rfl] at hR1
      obtain ⟨o4, ho4⟩ := at_of other.toList (A ++ g :: B)
      have hR4 := Read_ev (A ++ g :: B) false (dec x.f2) other o4 ho4 (by omega)
      rw [readR_go hEg] at hR4
      have hj := Behind_j0 A g B (dec x.f2) n ks hEg hAl hgn hBl (by omega) hdf hEs (by omega) (fun k h => i64_lt (hk.2 k h))
      refine Ev.bind hR1 (Ev.bind hR3 (Ev.bind hR4 ?_))
      have tail : Ev (fun k => (if was.1.size + data.size ≤ 9223372036854775807 then (if g.f1.toList = (was.1 ++ data).toList then (if other.toList = n.toList then (gafferlaw02_DiskBehind.j0 k n ks g.f1 false (A ++ g :: B) false (dec x.f2)) else (if (readO o3).1.toList = (readO o4).1.toList then (gafferlaw02_DiskBehind.j0 k n ks g.f1 ((readO o3).2 != (readO o4).2) (A ++ g :: B) false (dec x.f2)) else (gafferlaw02_DiskBehind.j0 k n ks g.f1 true (A ++ g :: B) false (dec x.f2)))) else (gafferlaw02_DiskBehind.j0 k n ks g.f1 true (A ++ g :: B) false (dec x.f2))) else none)) true := by
        refine Ev.pos (by omega) (Ev.pos (by rw [hgf]) ?_)
        by_cases ho' : other.toList = n.toList
        · exact Ev.pos ho' hj
        · refine Ev.neg ho' ?_
          have e34 : readO o3 = readO o4 := readO_same ho3 ho4 hg hEg (fun y hy => hmem y (by rw [hy]; exact ho'))
          rw [e34]
          refine Ev.pos rfl ?_
          rw [show ((readO o4).2 != (readO o4).2) = false by simp]
          exact hj
      rcases hw06 with h | h
      · exact Ev.pos h (Ev.pos rfl tail)
      · exact Ev.neg (by rw [h]; decide) (Ev.pos h (Ev.pos rfl tail))
    cases ho with
    | bad h => exact absurd hg h
    | none A B _ e ha hb =>
      have hlen : x.f0.length = A.length + B.length := by rw [e, List.length_append]
      have h4 : ¬ 4096 ≤ x.f0.length := by
        intro h
        have hw' : (if ¬ named n then (5 : Int) else if 4096 ≤ x.f0.length then 11 else 0) = 0 := hw
        rw [if_pos h] at hw'
        split at hw' <;> exact absurd hw' (by decide)
      have hrise : Rise (A ++ B) := e ▸ hg.rise
      have hElen : (A ++ (⟨n, data, 0⟩ : S35) :: B).length = A.length + (B.length + 1) := by rw [List.length_append, List.length_cons]
      have hmem : ∀ y ∈ A ++ (⟨n, data, 0⟩ : S35) :: B, y = ⟨n, data, 0⟩ ∨ y ∈ x.f0 := by
        intro y hy
        rw [e]
        rcases List.mem_append.1 hy with h | h
        · exact .inr (List.mem_append_left _ h)
        · rcases List.mem_cons.1 h with h | h
          · exact .inl h
          · exact .inr (List.mem_append_right _ h)
      refine ⟨A, ⟨n, data, 0⟩, B, rfl, ?_, .inr rfl, Nat.zero_le _, ?_, ha, rfl, hb, by omega, ?_, ?_⟩
      · exact (nil_append_ba data).symm
      · refine good_of (rise_ins hrise ha hb) ?_ (by omega)
        intro y hy
        rcases hmem y hy with rfl | h
        · exact ⟨Int.le_refl _, Int.natCast_nonneg _⟩
        · exact hg.ok y h
      · intro y hy
        rcases hmem y hy with rfl | h
        · show data.size ≤ _; omega
        · exact Nat.le_trans (c.size y h) (by decide)
      · intro y hy
        constructor
        · intro h
          rw [e] at h
          rcases List.mem_append.1 h with h | h
          · exact List.mem_append_left _ h
          · exact List.mem_append_right _ (List.mem_cons_of_mem _ h)
        · intro h
          rcases hmem y h with rfl | h
          · exact absurd rfl hy
          · exact h
    | some A g B _ e ha hn2 hb =>
      have hgm : g ∈ x.f0 := by rw [e]; exact List.mem_append_right _ List.mem_cons_self
      have hlen : x.f0.length = A.length + (B.length + 1) := by rw [e, List.length_append, List.length_cons]
      have hElen : (A ++ (⟨g.f0, g.f1 ++ data, g.f2⟩ : S35) :: B).length = A.length + (B.length + 1) := by rw [List.length_append, List.length_cons]
      have hsz := c.size g hgm
      have hokg := hg.ok g hgm
      have hmem : ∀ y ∈ A ++ (⟨g.f0, g.f1 ++ data, g.f2⟩ : S35) :: B, y = ⟨g.f0, g.f1 ++ data, g.f2⟩ ∨ y ∈ x.f0 := by
        intro y hy
        rw [e]
        rcases List.mem_append.1 hy with h | h
        · exact .inr (List.mem_append_left _ h)
        · rcases List.mem_cons.1 h with h | h
          · exact .inl h
          · exact .inr (List.mem_append_right _ (List.mem_cons_of_mem _ h))
      refine ⟨A, ⟨g.f0, g.f1 ++ data, g.f2⟩, B, rfl, rfl, .inl rfl, hsz, ?_, ha, hn2, hb, by omega, ?_, ?_⟩
      · refine good_of ?_ ?_ (by have := hg.2; omega)
        · have := hg.rise
          rw [e, rise_nm, List.map_append, List.map_cons] at this
          rw [rise_nm, List.map_append, List.map_cons]
          exact this
        · intro y hy
          rcases hmem y hy with rfl | h
          · refine ⟨hokg.1, ?_⟩
            have := hokg.2
            show g.f2 ≤ (((g.f1 ++ data).size : Nat) : Int)
            rw [ByteArray.size_append]; omega
          · exact hg.ok y h
      · intro y hy
        rcases hmem y hy with rfl | h
        · show (g.f1 ++ data).size ≤ _; rw [ByteArray.size_append]; omega
        · exact Nat.le_trans (c.size y h) (by decide)
      · intro y hy
        constructor
        · intro h
          rw [e] at h
          rcases List.mem_append.1 h with h | h
          · exact List.mem_append_left _ h
          · rcases List.mem_cons.1 h with rfl | h
            · exact absurd hn2 hy
            · exact List.mem_append_right _ (List.mem_cons_of_mem _ h)
        · intro h
          rcases hmem y h with rfl | h
          · exact absurd hn2 hy
          · exact h
  · refine Ev.bind hA (Ev.neg hz ?_)
    by_cases h8 : (outcome x.f0 x.f1 x.f2 (addO o x.f0 n data)).2.2.2 = 8
    · exact Ev.pos h8 (Ev.now _)
    · refine Ev.neg h8 ?_
      by_cases hg : Dk.Good x.f0
      · have hd : x.f1 = false := by
          cases hx1 : x.f1 with
          | false => rfl
          | true => exfalso; rw [hx1] at h8; exact h8 (by unfold outcome; rw [opR_down hg])
        by_cases hw : (addO o x.f0 n data).1 = 0
        · exfalso
          rw [hd] at h8 hz
          unfold outcome at h8 hz
          rw [hw, opR_go hg] at h8 hz
          by_cases h0 : x.f2 = 0
          · rw [if_pos h0] at h8; exact h8 rfl
          · rw [if_neg h0] at hz; exact hz rfl
        · have e : outcome x.f0 x.f1 x.f2 (addO o x.f0 n data) = (x.f0, x.f1, x.f2, (addO o x.f0 n data).1) := by
            rw [hd]; exact opR_why hg hw _ _ _
          rw [e]
          obtain ⟨b, hb⟩ := Same_nil x.f0 x.f1 x.f2
          refine Ev.bind hb ?_
          cases b with
          | true => exact Ev.pos rfl (Ev.now _)
          | false => exact Ev.neg (by decide) (Ev.bind (Same_ev x.f0 x.f1 x.f2 (by omega)) (Ev.now _))
      · have e : outcome x.f0 x.f1 x.f2 (addO o x.f0 n data) = ([], false, 0, 10) := opR_bad hg _ _ _ _ _
        rw [e]
        exact Ev.bind (Same_ev [] false 0 (by decide)) (Ev.pos rfl (Ev.now _))
end Go.Proofs.Ytpdacpopkegecaa.Pure
