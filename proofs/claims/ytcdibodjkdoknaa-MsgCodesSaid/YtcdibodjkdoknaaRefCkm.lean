import Derived.Test.YtcdibodjkdoknaaPMx4
import Derived.Test.YtcdibodjkdoknaaPMx2
import Derived.Test.YtcdibodjkdoknaaPMx3
import Derived.Test.YtcdibodjkdoknaaPMx8
import Derived.Test.YtcdibodjkdoknaaPMx7
import Derived.Test.YtcdibodjkdoknaaPMx6
import Derived.Test.YtcdibodjkdoknaaQmBasem
import Derived.Test.YtcdibodjkdoknaaMgCheckm
import Derived.Test.YtcdibodjkdoknaaSnCodem
import Derived.Test.YtcdibodjkdoknaaEnCodem
import Derived.Test.YtcdibodjkdoknaaRefEnm
import Derived.Test.YtcdibodjkdoknaaMgRightm
import Derived.Test.YtcdibodjkdoknaaMgSamem
import Derived.Test.YtcdibodjkdoknaaMgBytesm
namespace Go.Proofs.Ytcdibodjkdoknaa.Mg
open Go.RowKit YtcdibodjkdoknaaW.PrintWords YtcdibodjkdoknaaW.PrintLast YtcdibodjkdoknaaW.PrintMore Ytcdibodjkdoknaa.PM Ba
open Sn (snapOk okR Check_ev RCheck_ev okR_4 okR_0)
open Wl (walOk walR walR_4 walR_0 RECheck_ev)
set_option linter.unusedVariables false
set_option linter.unusedSimpArgs false
attribute [local instance 10] Classical.propDecidable

def ans (b : Bool) : Int := if b = true then 0 else 4
theorem ans_0 {b : Bool} (h : ans b = 0) : b = true := by cases b; exact absurd h (by decide); rfl
noncomputable def entsB (at_ : Int) : List S67 → Bool
  | [] => true
  | e :: r => (decide (EntOk e) && decide (e.f0 = IntKind.u64.wrap (at_ + 1))) && entsB (IntKind.u64.wrap (at_ + 1)) r
theorem ev_cast {f : Nat → Option Int} {x y : Bool} (h : Ev f (ans x)) (e : x = y) : Ev f (ans y) := e ▸ h
theorem ev_castB {f : Nat → Option Bool} {x y : Bool} (h : Ev f x) (e : x = y) : Ev f y := e ▸ h
theorem entCheck_ev (e : S67) (hm : e.f4.length < 4611686018427387904) : Ev (fun k => wal_Check.f k e.f0 e.f1 e.f2 e.f3 e.f4) (ans (decide (EntOk e))) := by
  have h := Wl.Check_ev e.f0 e.f1 e.f2 e.f3.toList e.f4 hm
  rw [ba_toList] at h
  by_cases c : EntOk e
  · rw [walR_0 c] at h; rw [decide_eq_true c]; exact h
  · rw [walR_4 c] at h; rw [decide_eq_false c]; exact h
theorem rentCheck_ev (e : S67) (hm : e.f4.length < 4611686018427387904) : Ev (fun k => gafferref03_Check.f k e.f0 e.f1 e.f2 e.f3 e.f4) (ans (decide (EntOk e))) := by
  have h := RECheck_ev e.f0 e.f1 e.f2 e.f3.toList e.f4 hm
  rw [ba_toList] at h
  by_cases c : EntOk e
  · rw [walR_0 c] at h; rw [decide_eq_true c]; exact h
  · rw [walR_4 c] at h; rw [decide_eq_false c]; exact h
theorem ploop (l : List S67) (hl : l.length < 4611686018427387904) (hm : ∀ e ∈ l, e.f4.length < 4611686018427387904) (b : Bool) : ∀ (m j : Nat) (at_ : Int), j + m = l.length → Ev (fun k => msg_Check.l0 k b at_ l (l.length : Int) (j : Int)) (ans (b && entsB at_ (l.drop j)))
  | 0, j, at_, hj => by
    rw [List.drop_eq_nil_of_le (by omega), entsB, Bool.and_true]
    refine Ev.step (fun k => rfl) ?_
    simp only [msg_Check.l0]
    refine Ev.neg (by omega) ?_
    cases b
    · exact Ev.neg (by decide) (Ev.now _)
    · exact Ev.pos rfl (Ev.now _)
  | m + 1, j, at_, hj => by
    have hlt : j < l.length := by omega
    have hr := rd67_at hlt
    have hw : wrap64 ((j : Int) + 1) = ((j + 1 : Nat) : Int) := by unfold wrap64; omega
    have hc := entCheck_ev (rd_T67 l (j : Int)) (by rw [hr]; exact hm _ (List.getElem_mem _))
    have ih := ploop l hl hm b m (j + 1) (IntKind.u64.wrap (at_ + 1)) (by omega)
    rw [List.drop_eq_getElem_cons hlt, entsB, ← hr]
    refine Ev.step (fun k => rfl) ?_
    simp only [msg_Check.l0]
    rw [hw]
    refine Ev.pos (by omega) (Ev.pos (by omega) (Ev.pos (by omega) (Ev.bind hc ?_)))
    by_cases hk : EntOk (rd_T67 l (j : Int))
    · rw [decide_eq_true hk]
      refine Ev.pos rfl ?_
      by_cases hf : (rd_T67 l (j : Int)).f0 = IntKind.u64.wrap (at_ + 1)
      · rw [decide_eq_true hf]; exact Ev.pos hf ih
      · rw [decide_eq_false hf, Bool.and_false, Bool.false_and, Bool.and_false]; exact Ev.neg hf (Ev.now _)
    · rw [decide_eq_false hk, Bool.false_and, Bool.false_and, Bool.and_false]
      exact Ev.neg (by decide) (Ev.now _)
theorem rloop_no (i : Int) (l : List S67) (hl : l.length < 4611686018427387904) : ∀ (m j : Nat), j + m = l.length → Ev (fun k => gafferref13_Check.l0 k false l (j : Int) i) 4
  | 0, j, hj => by
    refine Ev.step (fun k => rfl) ?_
    simp only [gafferref13_Check.l0]
    exact Ev.neg (by omega) (Ev.neg (by decide) (Ev.now _))
  | m + 1, j, hj => by
    have hw : wrap64 ((j : Int) + 1) = ((j + 1 : Nat) : Int) := by unfold wrap64; omega
    refine Ev.step (fun k => rfl) ?_
    simp only [gafferref13_Check.l0]
    rw [hw]
    exact Ev.pos (by omega) (Ev.pos (by omega) (Ev.neg (by decide) (rloop_no i l hl m (j + 1) (by omega))))
theorem rloop (i : Int) (l : List S67) (hl : l.length < 4611686018427387904) (hm : ∀ e ∈ l, e.f4.length < 4611686018427387904) (hi : U64 i) (hin : ∀ e ∈ l, U64 e.f0) : ∀ (m j : Nat), j + m = l.length → i + j < 18446744073709551616 → Ev (fun k => gafferref13_Check.l0 k true l (j : Int) i) (ans (entsB (IntKind.u64.wrap (i + j)) (l.drop j)))
  | 0, j, hj, _ => by
    rw [List.drop_eq_nil_of_le (by omega), entsB]
    refine Ev.step (fun k => rfl) ?_
    simp only [gafferref13_Check.l0]
    exact Ev.neg (by omega) (Ev.pos trivial (Ev.now _))
  | m + 1, j, hj, hij => by
    have hlt : j < l.length := by omega
    have hr := rd67_at hlt
    have hw : wrap64 ((j : Int) + 1) = ((j + 1 : Nat) : Int) := by unfold wrap64; omega
    have hc := rentCheck_ev (rd_T67 l (j : Int)) (by rw [hr]; exact hm _ (List.getElem_mem _))
    have hf0 : U64 (rd_T67 l (j : Int)).f0 := by rw [hr]; exact hin _ (List.getElem_mem _)
    have no := rloop_no i l hl m (j + 1) (by omega)
    rw [List.drop_eq_getElem_cons hlt, entsB, ← hr]
    have hi1 := hi.1
    have hf1 := hf0.1
    have hf2 := hf0.2
    refine Ev.step (fun k => rfl) ?_
    simp only [gafferref13_Check.l0]
    rw [hw]
    refine Ev.pos (by omega) (Ev.pos (by omega) (Ev.pos trivial (Ev.bind hc ?_)))
    by_cases hk : EntOk (rd_T67 l (j : Int))
    · have hpos : (rd_T67 l (j : Int)).f0 > 0 := hk.1
      rw [decide_eq_true hk]
      have hx : IntKind.u64.wrap (IntKind.u64.wrap ((rd_T67 l (j : Int)).f0 - IntKind.u64.wrap (j : Int)) - 1) = i ↔ (rd_T67 l (j : Int)).f0 = IntKind.u64.wrap (IntKind.u64.wrap (i + j) + 1) := by
        have := hi.2
        simp only [u64_mod]
        omega
      by_cases hf : (rd_T67 l (j : Int)).f0 = IntKind.u64.wrap (IntKind.u64.wrap (i + j) + 1)
      · have hv : (rd_T67 l (j : Int)).f0 = i + j + 1 := by
          rw [hf]; rw [hf] at hpos
          simp only [u64_mod] at hpos ⊢
          omega
        have ih := rloop i l hl hm hi hin m (j + 1) (by omega) (by omega)
        rw [decide_eq_true hf, Bool.true_and, Bool.true_and, beq_iff_eq.mpr (hx.2 hf), decide_eq_true (show (rd_T67 l (j : Int)).f0 > i by omega)]
        have e : IntKind.u64.wrap (IntKind.u64.wrap (i + j) + 1) = IntKind.u64.wrap (i + ((j + 1 : Nat) : Int)) := by
          simp only [u64_mod]
          omega
        rw [e]
        exact ih
      · rw [decide_eq_false hf, Bool.and_false, Bool.false_and, beq_eq_false_iff_ne.mpr (fun h => hf (hx.1 h)), Bool.false_and, Bool.and_false]
        exact no
    · rw [decide_eq_false hk, Bool.false_and, Bool.false_and]
      exact no
theorem rl_ev (i : Int) (l : List S67) (hl : l.length < 4611686018427387904) (hm : ∀ e ∈ l, e.f4.length < 4611686018427387904) (hi : U64 i) (hin : ∀ e ∈ l, U64 e.f0) (b : Bool) : Ev (fun k => gafferref13_Check.l0 k b l 0 i) (ans (b && entsB i l)) := by
  cases b
  · exact rloop_no i l hl l.length 0 (by omega)
  · have h := rloop i l hl hm hi hin l.length 0 (by omega) (by have := hi.2; omega)
    rw [show i + ((0 : Nat) : Int) = i from by omega, u64_id hi.1 hi.2, List.drop_zero] at h
    rw [Bool.true_and]
    exact h
section
variable (q t i lt c : Int) (ok : Bool) (l : List S67) (si st : Int) (ms : List Int) (d : ByteArray)
noncomputable def restB : Bool := (decide (q = 5 → (snapOk si st ms d.toList ∧ si > 0)) && decide (l.length ≤ 8)) && entsB i l
noncomputable def nnB : Bool := decide (si = 0 ∧ st = 0 ∧ d = ⟨#[]⟩ ∧ ms = [])
theorem same_nn (hs : ms.length < 4611686018427387904) : Ev (fun k => gafferref05_Same.f k si st ms d 0 0 [] ⟨#[]⟩) (nnB si st ms d) := by
  obtain ⟨b, hb, h⟩ := snap_same si st ms d 0 0 [] ⟨#[]⟩ hs
  have e : b = nnB si st ms d := by
    unfold nnB
    cases b
    · exact (decide_eq_false (fun x => absurd (h.2 x) (by decide))).symm
    · exact (decide_eq_true (h.1 rfl)).symm
  rw [← e]
  exact hb
theorem rs_ev (hs : ms.length < 4611686018427387904) (b : Bool) : Ev (fun k => gafferref13_Check.s k b q si st ms d) (b && (decide (q = 5) || nnB si st ms d)) := by
  unfold gafferref13_Check.s
  cases b
  · exact Ev.neg (by decide) (Ev.now _)
  · refine Ev.pos rfl ?_
    by_cases h : q = 5
    · rw [decide_eq_true h]; exact Ev.pos h (Ev.now _)
    · rw [decide_eq_false h]; exact Ev.neg h (same_nn si st ms d hs)
theorem rc_ev (hs : ms.length < 4611686018427387904) (b : Bool) : Ev (fun k => gafferref13_Check.c k b q si st ms d) (b && decide (q = 5 → (snapOk si st ms d.toList ∧ si > 0))) := by
  have hc := RCheck_ev si st ms d.toList hs
  rw [ba_toList] at hc
  unfold gafferref13_Check.c
  cases b
  · exact Ev.neg (by decide) (Ev.now _)
  · refine Ev.pos rfl ?_
    by_cases h : q = 5
    · refine Ev.pos h (Ev.bind hc (ev_castB (Ev.now _) ?_))
      by_cases so : snapOk si st ms d.toList
      · rw [okR_0 so]
        by_cases h0 : si > 0 <;> simp [h, so, h0]
      · rw [okR_4 so]
        simp [h, so]
    · exact Ev.neg h (ev_castB (Ev.now _) (by simp [h]))
noncomputable def chkB : Bool := (decide (0 < q ∧ q < 6 ∧ 0 < t) && msg_whole.w q i lt c ok l (nnB si st ms d)) && restB q i l si st ms d
theorem chk_q (h : chkB q t i lt c ok l si st ms d = true) : 0 < q ∧ q < 6 := by
  unfold chkB at h
  simp only [Bool.and_eq_true, decide_eq_true_eq] at h
  exact ⟨h.1.1.1, h.1.1.2.1⟩
theorem RMCheck_ev (hl : l.length < 4611686018427387904) (hm : ∀ e ∈ l, e.f4.length < 4611686018427387904) (hs : ms.length < 4611686018427387904) (hi : U64 i) (hin : ∀ e ∈ l, U64 e.f0) : Ev (fun k => gafferref13_Check.f k q t i lt c ok l si st ms d) (ans (chkB q t i lt c ok l si st ms d)) := by
  unfold gafferref13_Check.f
  refine Ev.bind (rs_ev q si st ms d hs _) (Ev.bind (rc_ev q si st ms d hs _) (ev_cast (rl_ev i l hl hm hi hin _) ?_))
  have e8 : decide ((l.length : Int) ≤ 8) = decide (l.length ≤ 8) := by by_cases h : l.length ≤ 8 <;> simp [h] <;> omega
  unfold chkB restB gafferref13_Check.b
  rw [e8]
  generalize decide (l.length ≤ 8) = x8
  generalize entsB i l = x9
  generalize nnB si st ms d = nn
  by_cases hq : 0 < q ∧ q < 6
  · have hq : q = 1 ∨ q = 2 ∨ q = 3 ∨ q = 4 ∨ q = 5 := by omega
    unfold msg_whole.w
    have e : decide (0 < q ∧ q < 6 ∧ 0 < t) = decide (t > 0) := by by_cases ht : 0 < t <;> simp [ht] <;> omega
    rw [e]
    generalize decide (q = 5 → (snapOk si st ms d.toList ∧ si > 0)) = x7
    generalize (i == 0) = x1
    generalize (lt == 0) = x2
    generalize decide (t > 0) = x3
    generalize (c == 0) = x4
    generalize ((l.length : Int) == 0) = x5
    clear e hi hin hm hl hs e8
    rcases hq with rfl | rfl | rfl | rfl | rfl <;> simp only [decide_true, Bool.true_or, if_true] <;> cases x5 <;> cases nn <;> cases x1 <;> cases x2 <;> cases x3 <;> cases x4 <;> cases ok <;> simp
  · have e : decide (0 < q ∧ q < 6 ∧ 0 < t) = false := decide_eq_false (fun x => hq ⟨x.1, x.2.1⟩)
    rw [e]
    by_cases h1 : q > 0
    · rw [decide_eq_true h1, decide_eq_false (show ¬ q < 6 by omega)]; rfl
    · rw [decide_eq_false h1]; rfl
theorem nothing_nn : msg_nothing.f si st ms d = some (nnB si st ms d) := by
  unfold msg_nothing.f nnB
  by_cases h1 : si = 0
  · by_cases h2 : st = 0
    · by_cases h3 : ms = []
      · rw [if_pos h1, if_pos h2, if_pos (by rw [h3]; rfl)]
        by_cases h4 : d.toList = []
        · have h5 : d = ⟨#[]⟩ := by rw [← ba_toList d, h4]; rfl
          rw [decide_eq_true ⟨h1, h2, h5, h3⟩, h4]; rfl
        · rw [decide_eq_false (fun x => h4 (by rw [x.2.2.1]; exact ba_list [])), beq_eq_false_iff_ne.mpr h4]
      · rw [if_pos h1, if_pos h2, if_neg (fun x => h3 (List.eq_nil_of_length_eq_zero (by omega))), decide_eq_false (fun x => h3 x.2.2.2)]
    · rw [if_pos h1, if_neg h2, decide_eq_false (fun x => h2 x.2.1)]
  · rw [if_neg h1, decide_eq_false (fun x => h1 x.1)]
theorem pj1 (hl : l.length < 4611686018427387904) (hm : ∀ e ∈ l, e.f4.length < 4611686018427387904) (b : Bool) : Ev (fun k => msg_Check.j1 k b q t i lt c ok l si st ms d) (ans (b && entsB i l)) := by
  refine Ev.step (fun k => rfl) ?_
  simp only [msg_Check.j1]
  exact ploop l hl hm b l.length 0 i (by omega)
theorem pj0 (hl : l.length < 4611686018427387904) (hm : ∀ e ∈ l, e.f4.length < 4611686018427387904) (hs : ms.length < 4611686018427387904) (b : Bool) : Ev (fun k => msg_Check.j0 k b q t i lt c ok l si st ms d) (ans ((decide (q = 5 → (snapOk si st ms d.toList ∧ si > 0)) && b) && entsB i l)) := by
  have J := pj1 q t i lt c ok l si st ms d hl hm
  have hc := Check_ev si st ms d.toList hs
  rw [ba_toList] at hc
  refine Ev.step (fun k => rfl) ?_
  simp only [msg_Check.j0]
  refine Ev.ite (fun h5 => ?_) (fun h5 => ev_cast (J _) (by simp [h5]))
  cases b
  · exact Ev.neg (by decide) (ev_cast (J false) (by simp))
  refine Ev.pos rfl (Ev.bind hc ?_)
  by_cases so : snapOk si st ms d.toList
  · rw [okR_0 so]
    exact Ev.pos rfl (ev_cast (J _) (by simp [h5, so]))
  · rw [okR_4 so]
    exact Ev.neg (by decide) (ev_cast (J _) (by simp [h5, so]))
theorem MCheck_ev (hl : l.length < 4611686018427387904) (hm : ∀ e ∈ l, e.f4.length < 4611686018427387904) (hs : ms.length < 4611686018427387904) : Ev (fun k => msg_Check.f k q t i lt c ok l si st ms d) (ans (chkB q t i lt c ok l si st ms d)) := by
  have J := pj0 q t i lt c ok l si st ms d hl hm hs
  have e8 : decide ((l.length : Int) ≤ 8) = decide (l.length ≤ 8) := by by_cases h : l.length ≤ 8 <;> simp [h] <;> omega
  unfold msg_Check.f msg_whole.f chkB restB
  rw [nothing_nn, e8]
  refine Ev.ite (fun h1 => Ev.ite (fun h2 => Ev.ite (fun h3 => Ev.bind (Ev.now _) (Ev.ite (fun h4 => ev_cast (J _) ?_) (fun h4 => ev_cast (J false) ?_))) (fun h3 => ev_cast (J false) ?_)) (fun h2 => ev_cast (J false) ?_)) (fun h1 => ev_cast (J false) ?_)
  · rw [h4, decide_eq_true (⟨h1, h2, h3⟩ : 0 < q ∧ q < 6 ∧ 0 < t), Bool.true_and, Bool.true_and]
  · rw [Bool.eq_false_iff.mpr h4, Bool.and_false, Bool.and_false, Bool.false_and, Bool.false_and]
  · rw [decide_eq_false (fun x => h3 x.2.2 : ¬ (0 < q ∧ q < 6 ∧ 0 < t)), Bool.and_false, Bool.false_and, Bool.false_and, Bool.false_and]
  · rw [decide_eq_false (fun x => h2 x.2.1 : ¬ (0 < q ∧ q < 6 ∧ 0 < t)), Bool.and_false, Bool.false_and, Bool.false_and, Bool.false_and]
  · rw [decide_eq_false (fun x => h1 x.1 : ¬ (0 < q ∧ q < 6 ∧ 0 < t)), Bool.and_false, Bool.false_and, Bool.false_and, Bool.false_and]
end
end Go.Proofs.Ytcdibodjkdoknaa.Mg
