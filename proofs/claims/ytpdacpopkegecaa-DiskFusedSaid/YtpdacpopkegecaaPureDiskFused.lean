/- A disk does as many changes as its fuse says, and then none; what is asked of one that is down is refused. No condition beside the form's own. -/
import Derived.Test.YtpdacpopkegecaaPAx16
import Derived.Test.YtpdacpopkegecaaDkNames
import Derived.Test.YtpdacpopkegecaaDkAdd
import Derived.Test.YtpdacpopkegecaaDkLaw
import Derived.Test.YtpdacpopkegecaaDkLives
namespace Go.Proofs.Ytpdacpopkegecaa.Pure
open Go.RowKit Go.Proofs.YtpdacpopkegecaaW.PrintWords Go.Proofs.YtpdacpopkegecaaW.PrintLast Go.Proofs.YtpdacpopkegecaaW.PrintMore Go.Proofs.Ytpdacpopkegecaa.PA Go.Proofs.Ytpdacpopkegecaa.Ba Go.Proofs.Ytpdacpopkegecaa.Dk Go.Proofs.Ytpdacpopkegecaa.Op
set_option linter.unusedVariables false
attribute [local instance 10] Classical.propDecidable

def an : ByteArray := ⟨#[97]⟩
def xn : ByteArray := ⟨#[120]⟩
/-- The disk so far: nothing, or one file of so many bytes. -/
inductive Sofar (i : Nat) : List S35 → Prop
  | nil : Sofar i []
  | one (s : ByteArray) (h : s.size ≤ i) : Sofar i [⟨an, s, 0⟩]
theorem Sofar.good {i : Nat} {l : List S35} (h : Sofar i l) : Dk.Good l := by
  cases h with
  | nil => exact ⟨fun j h => absurd h (Nat.not_lt_zero _), by decide⟩
  | one s h =>
    refine good_of (List.pairwise_singleton _ _) (fun x hx => ?_) (by simp)
    obtain rfl := List.mem_singleton.1 hx
    exact ⟨Int.le_refl _, Int.natCast_nonneg _⟩
theorem Sofar.len {i : Nat} {l : List S35} (h : Sofar i l) : l.length ≤ 1 := by
  cases h with
  | nil => simp
  | one s h => simp
/-- The state ahead of round i: not down, the fuse is what is left; or down. -/
def State (F i : Nat) (l : List S35) (d : Bool) (f : Int) : Prop := Sofar i l ∧ (d = false ∧ i ≤ F ∧ f = (F : Int) - i ∨ d = true ∧ F < i ∧ f < 9223372036854775808)
theorem named_an : named an := by
  constructor
  · rw [show an = ba [97] from rfl, ba_list]; decide
  · decide
theorem add_an {i : Nat} {l : List S35} (h : Sofar i l) : ∃ o, At an.toList l o ∧ (addO o l an xn).1 = 0 ∧ Sofar (i + 1) (addO o l an xn).2.1 ∧ Sofar (i + 1) (addO o l an xn).2.2 := by
  have hg := h.good
  cases h with
  | nil =>
    refine ⟨_, At.none [] [] hg rfl (by simp) (by simp), ?_, ?_⟩
    · show (if ¬ named an then (5 : Int) else if 4096 ≤ ([] : List S35).length then 11 else 0) = 0
      rw [if_neg (fun x => x named_an), if_neg (by decide)]
    · have : Sofar (i + 1) [(⟨an, xn, 0⟩ : S35)] := Sofar.one xn (by show (1 : Nat) ≤ i + 1; omega)
      exact ⟨this, this⟩
  | one s h =>
    refine ⟨_, At.some [] ⟨an, s, 0⟩ [] hg rfl (by simp) rfl (by simp), ?_, ?_⟩
    · show (if ¬ named an then (5 : Int) else 0) = 0
      rw [if_neg (fun x => x named_an)]
    · have : Sofar (i + 1) [(⟨an, s ++ xn, 0⟩ : S35)] := Sofar.one _ (by rw [ByteArray.size_append]; show s.size + 1 ≤ i + 1; omega)
      exact ⟨this, this⟩
theorem Fused_end (F : Nat) (many : Int) (i : Nat) (l : List S35) (d : Bool) (f : Int) (hs : State F i l d f) : Ev (fun k => gafferlaw02_DiskFused.j1 k (F : Int) many (i : Int) false l d f) true := by
  have hg := hs.1.good
  have hl := hs.1.len
  refine Ev.step (fun k => rfl) ?_
  simp only [gafferlaw02_DiskFused.j1]
  refine Ev.neg (by decide) ?_
  have hn := Names_ev l d f ⟨#[]⟩ (by omega)
  cases d with
  | true =>
    rw [namesR_down hg] at hn
    exact Ev.bind hn (Ev.pos (by simp) (Ev.pos rfl (Ev.now _)))
  | false =>
    rw [namesR_go hg] at hn
    have hc := RCheck_ev l false f (by omega)
    rw [res_pos hg] at hc
    exact Ev.bind hn (Ev.pos (by simp) (Ev.neg (by decide) (Ev.bind hc (Ev.now _))))
theorem Fused_l0 (F : Nat) (hF : F < 256) (many : Int) : ∀ (m i : Nat) (l : List S35) (d : Bool) (f : Int), i + m = 300 → State F i l d f → Ev (fun k => gafferlaw02_DiskFused.l0 k (F : Int) many (i : Int) l d f) true
  | m, i, l, d, f, hi, hs => by
    refine Ev.step (fun k => rfl) ?_
    simp only [gafferlaw02_DiskFused.l0]
    by_cases h1 : (i : Int) < many
    · refine Ev.pos h1 ?_
      cases m with
      | zero =>
        rw [decide_eq_false (show ¬ (i : Int) < 300 by omega)]
        exact Fused_end F many i l d f hs
      | succ m =>
        rw [decide_eq_true (show (i : Int) < 300 by omega)]
        have ih := fun l d f => Fused_l0 F hF many m (i + 1) l d f (by omega)
        refine Ev.step (fun k => rfl) ?_
        simp only [gafferlaw02_DiskFused.j1]
        refine Ev.pos trivial ?_
        have hg := hs.1.good
        have hl := hs.1.len
        obtain ⟨o, ho, hw, hs1, hs2⟩ := add_an hs.1
        have hsz : ∀ x ∈ l, x.f1.size ≤ 4611686018427387903 := by
          intro x hx
          cases hs.1 with
          | nil => cases hx
          | one s h => rw [List.mem_singleton.1 hx]; show s.size ≤ _; omega
        have hf : f < 9223372036854775808 := by
          rcases hs.2 with ⟨_, _, h⟩ | ⟨_, _, h⟩ <;> omega
        have hA := Add_ev l d f an xn o ho (by omega) hf hsz (by decide)
        rw [wrap_add1 (by omega), wrap64_id (n := (F : Int)) (by omega) (by omega)]
        rcases hs.2 with ⟨hd, hiF, hfe⟩ | ⟨hd, hiF, hfe⟩
        · subst hd
          have e : outcome l false f (addO o l an xn) = if f = 0 then ((addO o l an xn).2.1, true, f, 8) else ((addO o l an xn).2.2, false, dec f, 0) := by
            unfold outcome
            rw [hw, opR_go hg]
          rw [e] at hA
          by_cases h0 : f = 0
          · rw [if_pos h0] at hA
            refine Ev.bind hA (Ev.neg ?_ (Ev.neg ?_ (ih _ _ _ ⟨hs1, .inr ⟨rfl, by omega, by omega⟩⟩)))
            · rw [decide_eq_false (show ¬ (i : Int) < (F : Int) by omega)]; simp
            · rw [decide_eq_true (show (i : Int) ≥ (F : Int) by omega)]; simp
          · rw [if_neg h0] at hA
            refine Ev.bind hA (Ev.neg ?_ (Ev.neg ?_ (ih _ _ _ ⟨hs2, .inl ⟨rfl, by omega, ?_⟩⟩)))
            · rw [decide_eq_true (show (i : Int) < (F : Int) by omega)]; simp
            · rw [decide_eq_false (show ¬ (i : Int) ≥ (F : Int) by omega)]; simp
            · unfold dec
              rw [if_pos (by omega)]
              dsimp only; omega
        · subst hd
          have e : outcome l true f (addO o l an xn) = (l, true, f, 8) := by
            unfold outcome
            rw [opR_down hg]
          rw [e] at hA
          have hs3 : Sofar (i + 1) l := by
            cases hs.1 with
            | nil => exact Sofar.nil
            | one s h => exact Sofar.one s (by omega)
          refine Ev.bind hA (Ev.neg ?_ (Ev.neg ?_ (ih _ _ _ ⟨hs3, .inr ⟨rfl, by omega, hfe⟩⟩)))
          · rw [decide_eq_false (show ¬ (i : Int) < (F : Int) by omega)]; simp
          · rw [decide_eq_true (show (i : Int) ≥ (F : Int) by omega)]; simp
    · exact Ev.neg h1 (Fused_end F many i l d f hs)
theorem u8_both {n : Int} (h : (Lit.int .u8 n).wf = true) : 0 ≤ n ∧ n < 256 := by
  simp only [Lit.wf, IntKind.min, IntKind.max, IntKind.signed, IntKind.bits, Bool.and_eq_true] at h
  have h1 := h.1
  have h2 := h.2
  simp at h1 h2
  omega
theorem DiskFused : gafferlaw02_DiskFused.Pure := by
  intro fuse many hf hm
  have hb := u8_both hf
  obtain ⟨F, rfl⟩ := Int.eq_ofNat_of_zero_le hb.1
  refine Ev.rounds (g := fun k => gafferlaw02_DiskFused.f k (F : Int) many) ?_
  unfold gafferlaw02_DiskFused.f
  refine Ev.bind lives_ev (Ev.pos rfl ?_)
  rw [wrap64_id (n := (F : Int)) (by omega) (by omega)]
  exact Fused_l0 F (by omega) many 300 0 [] false (F : Int) (by omega) ⟨Sofar.nil, .inl ⟨rfl, by omega, by omega⟩⟩
end Go.Proofs.Ytpdacpopkegecaa.Pure
