-- Written for this claim by a program of this session. Lean checks it.
import Derived.Test.YtpigjmjbfpipnaaRows
import Derived.Test.YtpigjmjbfpipnaaPBx14
import Derived.Test.YtpigjmjbfpipnaaPureHardOthers
import Derived.WalkKit
import Derived.ProofKit
import Derived.OpenShut
import Derived.ShutString
import Derived.ChangeOld
import Derived.Below
import Derived.SizedLaws
import Derived.Carry
namespace Go.Proofs.Ytpigjmjbfpipnaa.hardOthers
open Go.ChangeShapes Go.WideShapes Go.ChangeAt Go.RowKit Go.Proofs.Ytpigjmjbfpipnaa.Op Go.Proofs.Ytpigjmjbfpipnaa.PB
open Go.ChangeMaps (open_string shut_string)
set_option linter.unusedVariables false
theorem own : ownKnob Try.prog.godebug = none := by kernel_rfl
theorem laidOut : laidOutB Try.prog = true := by kernel_rfl
set_option maxRecDepth 100000 in
theorem lifted (os : Os) (started : os.Started) (H : Type) (enc : TypeId × Value → H) :
    ReturnsInHanded {} Try.checked os 5 .any (Rows.hardOthersSpec.pre6 enc Try.prog Try.f5 Rows.hardOthersRow.domain false) (Rows.hardOthersSpec.post enc Try.prog Try.f5 false true false false) := by
  refine returnsInHanded_of_change_sized (C := Try.checked) own started (by kernel_rfl) Try.func5
    (ChangeSpec.witness6 (enc := enc) (C := Try.checked) false ⟨#[], #[(.agg #[(.slice none 0 0), (.bool false), (.int .i64 0)]), .slice none 0 0, .string ByteArray.empty], []⟩ 8 (by kernel_rfl) (by kernel_rfl) (by kernel_rfl) (by kernel_rfl)) ?_
  intro W base args ds gs before hval0 hW hcnd hsz0 _
  have hsz : (DataW.weightsEach Try.prog (Try.f5.params.toList ++ Rows.hardOthersSpec.plain.varTypes Try.prog) (ds ++ gs)).all (· ≤ reachBytes) = true := hsz0
  have hval : ∀ (j : Nat) t v, Try.f5.params[j]? = some t → args[j]? = some v → Value.okWide Try.prog W .any base t v := hval0
  have hW' := hW
  obtain ⟨p, q, hA0, hV, rfl, hfz, hnd⟩ := hW
  have hA : DataW.TrodAll enc Try.prog W 0 (fun _ => true) true Try.f5.params.toList args.toList ds p := hA0
  rw [Try.params5] at hA hval hsz
  obtain ⟨v0, vs0, d0, ds0, p0, q0, hargs, rfl, rfl, h0, r0⟩ := trodAll_cons hA
  obtain ⟨v1, vs1, d1, ds1, p1, q1, rfl, rfl, rfl, h1, r1⟩ := trodAll_cons r0
  obtain ⟨v2, vs2, d2, ds2, p2, q2, rfl, rfl, rfl, h2, r2⟩ := trodAll_cons r1
  obtain ⟨rfl, rfl, rfl⟩ := trodAll_nil r2
  obtain rfl : args = #[v0, v1, v2] := by cases args; simp_all
  obtain ⟨rfl, rfl⟩ := trodVars_none hV
  have k0 := h0
  have lt0 : ∀ x ∈ p0, x.block < W.heap.size := by obtain ⟨m, hm⟩ := k0; exact DataW.trod_lt m _ _ _ hm
  obtain ⟨x0, X0, w0⟩ := open_arg open24 h0 hsz 0 rfl rfl
  obtain ⟨cs0, rfl, _⟩ := okWide_struct Try.underlying24 (hval 0 24 v0 rfl rfl)
  obtain ⟨A0_0, c0_0, e0, l0_0, g0_0⟩ := k24_open X0
  obtain rfl : cs0 = #[.slice A0_0 x0.f0.length c0_0, .bool x0.f1, .int .i64 x0.f2] := by cases cs0; simpa [Value.cells] using e0
  have k1 := h1
  have lt1 : ∀ x ∈ p1, x.block < W.heap.size := by obtain ⟨m, hm⟩ := k1; exact DataW.trod_lt m _ _ _ hm
  obtain ⟨x1, X1, w1⟩ := open_arg (opens_slice Try.underlying41 (by kernel_rfl) (by kernel_rfl) open27) h1 hsz 1 rfl rfl
  obtain ⟨aa, ll, cc, rfl⟩ := okWide_slice Try.underlying41 (hval 1 41 v1 rfl rfl)
  obtain ⟨A1, c1, e1, l1, g1⟩ := X1
  obtain ⟨rfl, rfl, rfl⟩ : aa = A1 ∧ ll = x1.length ∧ cc = c1 := by simpa [Value.cells] using e1
  obtain ⟨x2, rfl, rfl, rfl, y2⟩ := open_string Try.underlying9 (hval 2 9 v2 rfl rfl) h2
  have w2 : x2.size ≤ 140737488351232 := by
    have z := sized_string hsz (j := 2) (t := 9) rfl rfl
    rw [Array.length_toList] at z
    exact z
  obtain ⟨kk, h⟩ := Pure.HardOthers x0 x1 x2 w0 w1 w2
  refine (gafferlaw04_HardOthers.calls (r := true) (w := W) (P0_0_ := fun k_ => k_ < W.heap.size) (hs0_0 := Go.Proofs.YtpigjmjbfpipnaaW.PrintWords.Kd.V_mk l0_0 (Go.Proofs.YtpigjmjbfpipnaaW.PrintWords.Kd.C_F (show Go.Proofs.YtpigjmjbfpipnaaW.PrintWords.Kd.Heap k71 from Go.Proofs.YtpigjmjbfpipnaaW.PrintWords.Kd.heap_iso _ (Go.Proofs.YtpigjmjbfpipnaaW.PrintWords.Kd.heap_pair Go.Proofs.YtpigjmjbfpipnaaW.PrintWords.Kd.heap_string (Go.Proofs.YtpigjmjbfpipnaaW.PrintWords.Kd.heap_pair Go.Proofs.YtpigjmjbfpipnaaW.PrintWords.Kd.heap_string (Go.Proofs.YtpigjmjbfpipnaaW.PrintWords.Kd.heap_int .i64)))) g0_0)) (hr1 := g1) (hc1 := l1) (h := h) (hr := rfl)).mono fun e W' hd => ?_
  obtain ⟨he, bel⟩ : e = .returned (.bool true) ∧ Below W.heap.size W W' := ⟨hd.1, hd.2⟩
  subst he
  exact ⟨_, rfl, _, _, _, [], _, [], hW', trodAll_mk1 (shut_bool Try.underlying4 _), (trodAll_cons_mk (Below.trod laidOut (by kernel_rfl) (of_decide_eq_true (by kernel_rfl)) k0 bel lt0) (trodAll_cons_mk (Below.trod laidOut (by kernel_rfl) (of_decide_eq_true (by kernel_rfl)) k1 bel lt1) (trodAll_cons_mk (shut_string Try.underlying9 y2) trodAll_mk0))), rfl, bel.frame _, fun h => by cases h⟩
theorem over : Rows.hardOthersRow.holds Try.pinned (OpenSpec.ofChange Rows.hardOthersSpec) :=
  OpenClaim.holds_of_wide 5 Try.f5 rfl rfl rfl rfl rfl rfl rfl ⟨rfl, rfl, rfl, rfl, rfl⟩ rfl rfl rfl rfl rfl (by kernel_rfl) Try.func5 (by kernel_rfl)
    (of_decide_eq_true (by kernel_rfl)) (by unfold Func.isWrapper; first | (rw [if_pos (by decide +kernel)]; kernel_rfl) | (rw [if_neg (by decide +kernel)]; exact ⟨rfl, rfl⟩))
    (fun os started H enc _ => lifted os started H enc)
theorem proved : Rows.HardOthersSaid := over
#print axioms proved
end Go.Proofs.Ytpigjmjbfpipnaa.hardOthers
namespace Go.Proofs.Ytpigjmjbfpipnaa
/-- The row, under a short name, for the claim. -/
theorem hardOthers_holds : Rows.HardOthersSaid := hardOthers.proved
end Go.Proofs.Ytpigjmjbfpipnaa
