/- The same saved again is there still, and no file is more than one. No condition beside the form's own. -/
import Derived.Test.YtpigjmjbfpipnaaPBx12
import Derived.Test.YtpigjmjbfpipnaaHdLaw
import Derived.Test.YtpigjmjbfpipnaaDkSame
namespace Go.Proofs.Ytpigjmjbfpipnaa.Pure
open Go.RowKit Go.Proofs.YtpigjmjbfpipnaaW.PrintWords Go.Proofs.YtpigjmjbfpipnaaW.PrintLast Go.Proofs.YtpigjmjbfpipnaaW.PrintMore Go.Proofs.Ytpigjmjbfpipnaa.PB Go.Proofs.Ytpigjmjbfpipnaa.Ba Go.Proofs.Ytpigjmjbfpipnaa.Dk Go.Proofs.Ytpigjmjbfpipnaa.Op
set_option linter.unusedVariables false
attribute [local instance 10] Classical.propDecidable

theorem again_l0 (n : Int) (hn : 0 ≤ n) (hn2 : n < 256) (t v : Int) (ht : 0 ≤ t) (ht2 : t < 18446744073709551616) (hv : 0 ≤ v) (hv7 : v ≤ 7) : ∀ (m : Nat) (i : Int), 0 ≤ i → i + m = wrap64 (Int.tmod n 8) + 1 → ∀ (l : List S71), Dk.Good l → (∀ x ∈ l, nm x = hname.toList) → (i = 0 ∨ l = [theFile t.toNat v.toNat]) → (∀ x ∈ l, x.f1.size ≤ 4611686018427387903) →
    Ev (fun k => gafferlaw04_HardAgain.l0 k n i t v l false (-1)) true
  | 0, i, hi, h, l, hg, hl, h1, hs => by
    have hw : wrap64 (Int.tmod n 8) = Int.tmod n 8 ∧ 0 ≤ Int.tmod n 8 := by
      have h8 : Int.tmod n 8 = n % 8 := Int.tmod_eq_emod_of_nonneg hn
      rw [h8]
      exact ⟨wrap64_id (by omega) (by omega), by omega⟩
    obtain rfl : l = [theFile t.toNat v.toNat] := h1.resolve_left (by omega)
    refine Ev.step (fun k => rfl) ?_
    simp only [gafferlaw04_HardAgain.l0]
    refine Ev.neg (by omega) (Ev.bind (Load_ev _ false (-1) (by simp) (fun x hx => Nat.le_trans (hs x hx) (by omega))) ?_)
    rw [load_some hg (t := t.toNat) (v := v.toNat) (by omega) (by omega) List.mem_cons_self rfl rfl]
    refine Ev.pos rfl (Ev.pos ?_ (Ev.now _))
    simp only [Int.toNat_of_nonneg ht, Int.toNat_of_nonneg hv, beq_self_eq_true, Bool.and_self]
  | m + 1, i, hi, h, l, hg, hl, h1, hs => by
    have h8 : Int.tmod n 8 = n % 8 := Int.tmod_eq_emod_of_nonneg hn
    have hw : wrap64 (Int.tmod n 8) = n % 8 := by rw [h8]; exact wrap64_id (by omega) (by omega)
    refine Ev.step (fun k => rfl) ?_
    simp only [gafferlaw04_HardAgain.l0]
    refine Ev.pos (by omega) (Ev.bind (Save_ev l false (-1) t v ht ht2 (by have := hg.2; omega) (by omega) hs) ?_)
    rw [save_one hg hl ht ht2 hv hv7 (-1) (by omega)]
    refine Ev.pos rfl ?_
    have e : wrap64 (i + 1) = i + 1 := wrap64_id (by omega) (by omega)
    show Ev (fun k => gafferlaw04_HardAgain.l0 k n (wrap64 (i + 1)) t v [theFile t.toNat v.toNat] false (-1)) true
    rw [e]
    exact again_l0 n hn hn2 t v ht ht2 hv hv7 m (i + 1) (by omega) (by omega) _ (good_one _ _) (fun x hx => by rw [List.mem_singleton.1 hx]; rfl) (.inr rfl) (size_one _ _)
theorem HardAgain : gafferlaw04_HardAgain.Pure := by
  intro x n hx hn
  obtain ⟨ht, ht2⟩ := u64_nat hx.1
  have hn0 : 0 ≤ n ∧ n < 256 := by
    unfold okInt at hn
    simp only [Lit.wf, IntKind.min, IntKind.max, IntKind.signed, IntKind.bits, Bool.and_eq_true] at hn
    have := hn.1; have := hn.2
    simp at *
    omega
  refine Ev.rounds (g := fun k => gafferlaw04_HardAgain.f k x.f0 x.f1 n) ?_
  unfold gafferlaw04_HardAgain.f
  refine Ev.bind lives_ev (Ev.pos rfl ?_)
  have h8 : wrap64 (Int.tmod n 8) = n % 8 := by rw [Int.tmod_eq_emod_of_nonneg hn0.1]; exact wrap64_id (by omega) (by omega)
  by_cases c : x.f1 < 0 ∨ 7 < x.f1
  · refine Ev.step (fun k => rfl) ?_
    simp only [gafferlaw04_HardAgain.l0]
    refine Ev.pos (by omega) (Ev.bind (Save_ev [] false (-1) x.f0 x.f1 ht ht2 (by simp) (by omega) (by simp)) ?_)
    unfold saveR
    rw [if_pos c, if_pos good_nil, hcheck, if_pos c]
    exact Ev.neg (by decide) (Ev.bind (Ev.now _) (Ev.pos rfl (Ev.bind (Same_ev [] false (-1) (by simp)) (Ev.now _))))
  · exact again_l0 n hn0.1 hn0.2 x.f0 x.f1 ht ht2 (by omega) (by omega) (n % 8 + 1).toNat 0 (by omega) (by omega) [] good_nil (by simp) (.inl rfl) (by simp)
end Go.Proofs.Ytpigjmjbfpipnaa.Pure
