-- By a program of this session.
import Derived.Test.YtcdibodjkdoknaaPMx0
import Derived.Test.YtcdibodjkdoknaaPMx5
import Derived.Test.YtcdibodjkdoknaaPMx7
import Derived.Test.YtcdibodjkdoknaaPMx16
namespace Go.Proofs.Ytcdibodjkdoknaa.PM
open Go.RowKit YtcdibodjkdoknaaW.PrintWords YtcdibodjkdoknaaW.PrintLast YtcdibodjkdoknaaW.PrintMore Sh Ytcdibodjkdoknaa.Op
attribute [local go_sem] max2_int min2_int max_two min_two max_three min_three max_four min_four
set_option linter.unusedVariables false
set_option maxHeartbeats 80000000
set_option maxRecDepth 100000
set_option linter.unusedSimpArgs false

/-- A state of type 58 at block g of W; what its slices lead to came in by w0. -/
def IsS58 (w0 W : World) (g : Nat) (f0 : ByteArray) (f1 : Bool) : Prop := W.heap[g]? = some (.cells #[.string f0, .bool f1] 58 (0, 0)) ∧ w0.heap.size ≤ g
theorem IsS58.grown {w0 W : World} {g : Nat} {f0 : ByteArray} {f1 : Bool} {W1 : World} {row : Option Nat} (h : IsS58 w0 W g f0 f1) (hw : W.grownBy W1 row) (hne : some g ≠ row) : IsS58 w0 W1 g f0 f1 := by
 obtain ⟨hb, hg⟩ := h
 exact ⟨blk_grown hb hw hne, hg⟩
theorem IsS58.own_neN {w0 W : World} {g : Nat} {f0 : ByteArray} {f1 : Bool} {α : Type} {d : Kd α} {e : Nat} {base : Nat} {ok : Nat → Prop} {v : Value} {xs : List α} (h : IsS58 w0 W g f0 f1) (ho : Kd.N d e W base ok v xs) (ht : e ≠ 58) : some g ≠ v.ownBlock := by
 obtain ⟨hb, hg⟩ := h
 exact Kd.N_ne ho hb ht
theorem IsS58.fresh {w0 W : World} {g : Nat} {f0 : ByteArray} {f1 : Bool} (h : IsS58 w0 W g f0 f1) : ∀ k, W.heap.size ≤ k → k ≠ g := by
 obtain ⟨hb, hg⟩ := h
 exact Kd.freshB hb
theorem IsS58.kept {w0 W : World} {g : Nat} {f0 : ByteArray} {f1 : Bool} {W1 : World} {S : Nat → Prop} (h : IsS58 w0 W g f0 f1) (hk : Kept W W1 S) (hne : ¬ S g) : IsS58 w0 W1 g f0 f1 := by
 obtain ⟨hb, hg⟩ := h
 exact ⟨blk_kept hb hk hne, hg⟩
theorem IsS58.below {w0 W : World} {g : Nat} {f0 : ByteArray} {f1 : Bool} {W1 : World} (h : IsS58 w0 W g f0 f1) (hw : Below W.heap.size W W1) : IsS58 w0 W1 g f0 f1 := h.grown (grown_of_below hw none) (by simp)
theorem IsS58.alloc {w0 W : World} {g : Nat} {f0 : ByteArray} {f1 : Bool} (h : IsS58 w0 W g f0 f1) (o : Obj) : IsS58 w0 (W.alloc o) g f0 f1 := h.below (below_alloc (Below.refl _ _) o)
theorem IsS58.drewN {w0 W : World} {g : Nat} {f0 : ByteArray} {f1 : Bool} (h : IsS58 w0 W g f0 f1) (m : Nat) : IsS58 w0 (W.drewN m) g f0 f1 := h
theorem IsS58.drew {w0 W : World} {g : Nat} {f0 : ByteArray} {f1 : Bool} (h : IsS58 w0 W g f0 f1) : IsS58 w0 W.drew g f0 f1 := h
theorem IsS58.at_ {w0 W : World} {g : Nat} {f0 : ByteArray} {f1 : Bool} {w' : World} {m : Nat} (hq : W.drewN m = w') (h : IsS58 w0 W g f0 f1) : IsS58 w0 w' g f0 f1 := by subst hq; exact IsS58.drewN h m
theorem IsS58.apart {w0 W : World} {g : Nat} {f0 : ByteArray} {f1 : Bool} {α : Type} {d : Kd α} {e : Nat} {base : Nat} {ok : Nat → Prop} {v : Value} {xs : List α} (h : IsS58 w0 W g f0 f1) (ho : d.R e W base ok v xs) (ht : ∀ q, q ∈ e :: d.E → q ≠ 58) : d.R e W base (fun k => ok k ∧ k ≠ g) v xs := by
 obtain ⟨hb, hg⟩ := h
 exact Kd.R_types ho hb ht
theorem IsS58.own_ne {w0 W : World} {g : Nat} {f0 : ByteArray} {f1 : Bool} {α : Type} {d : Kd α} {e : Nat} {base : Nat} {ok : Nat → Prop} {v : Value} {xs : List α} (h : IsS58 w0 W g f0 f1) (ho : d.R e W base ok v xs) (ht : e ≠ 58) : some g ≠ v.ownBlock := by
 obtain ⟨hb, hg⟩ := h
 exact Kd.R_ne ho hb ht
theorem IsS58.apartQ {w0 W : World} {g : Nat} {f0 : ByteArray} {f1 : Bool} {α : Type} {d : Kd α} {e : Nat} {base : Nat} {ok : Nat → Prop} {v : Value} {xs : List α} (h : IsS58 w0 W g f0 f1) (ho : d.Q e W base ok v xs) (ht : ∀ q, q ∈ e :: d.E → q ≠ 58) : d.Q e W base (fun k => ok k ∧ k ≠ g) v xs := by
 obtain ⟨hb, hg⟩ := h
 exact Kd.Q_types ho hb ht
theorem IsS58.own_neQ {w0 W : World} {g : Nat} {f0 : ByteArray} {f1 : Bool} {α : Type} {d : Kd α} {e : Nat} {base : Nat} {ok : Nat → Prop} {v : Value} {xs : List α} (h : IsS58 w0 W g f0 f1) (ho : d.Q e W base ok v xs) (ht : e ≠ 58) : some g ≠ v.ownBlock := by
 obtain ⟨hb, hg⟩ := h
 exact Kd.Q_ne ho hb ht
theorem IsS58.apartS {w0 W : World} {g : Nat} {f0 : ByteArray} {f1 : Bool} {α : Type} {d : Kd α} {e : Nat} {base : Nat} {ok : Nat → Prop} {v : Value} {xs : List α} (h : IsS58 w0 W g f0 f1) (ho : d.S e W base ok v xs) (ht : ∀ q, q ∈ e :: d.E → q ≠ 58) : d.S e W base (fun k => ok k ∧ k ≠ g) v xs := by
 obtain ⟨hb, hg⟩ := h
 exact Kd.S_types ho hb ht
theorem IsS58.own_neS {w0 W : World} {g : Nat} {f0 : ByteArray} {f1 : Bool} {α : Type} {d : Kd α} {e : Nat} {base : Nat} {ok : Nat → Prop} {v : Value} {xs : List α} (h : IsS58 w0 W g f0 f1) (ho : d.S e W base ok v xs) (ht : e ≠ 58) : some g ≠ v.ownBlock := by
 obtain ⟨hb, hg⟩ := h
 exact Kd.S_ne ho hb ht
theorem IsS58.lt {w0 W : World} {g : Nat} {f0 : ByteArray} {f1 : Bool} (h : IsS58 w0 W g f0 f1) : g < W.heap.size := by
 obtain ⟨hb, hg⟩ := h
 exact blk_lt hb
theorem IsS58.ge {w0 W : World} {g : Nat} {f0 : ByteArray} {f1 : Bool} (h : IsS58 w0 W g f0 f1) : w0.heap.size ≤ g := by
 obtain ⟨hb, hg⟩ := h
 exact hg
theorem IsS58.ne_blk {w0 W : World} {g : Nat} {f0 : ByteArray} {f1 : Bool} {a : Nat} {cs : Array Value} {t : TypeId} {fr : Nat × Nat} (h : IsS58 w0 W g f0 f1) (hb2 : W.heap[a]? = some (.cells cs t fr)) (ht : t ≠ 58) : g ≠ a := by
 obtain ⟨hb, hg⟩ := h
 rintro rfl
 rw [hb] at hb2
 injection hb2 with hb2
 injection hb2 with _ ht2
 exact ht ht2.symm
theorem IsS58.far {w0 W : World} {g : Nat} {f0 : ByteArray} {f1 : Bool} {p : Addr} (h : IsS58 w0 W g f0 f1) (hne : g ≠ p.block) (u : Value) : IsS58 w0 (W.setCell p u) g f0 f1 := by
 obtain ⟨hb, hg⟩ := h
 exact ⟨blk_far hb hne u, hg⟩
theorem cellS58_0 {W : World} {g : Nat} {f0 : ByteArray} {f1 : Bool} (h : W.heap[g]? = some (.cells #[.string f0, .bool f1] 58 (0, 0))) : W.cell? ⟨g, 0, none⟩ = some (.string f0) := (blk_cell h 0).trans rfl
theorem IsS58.set_0 {w0 W : World} {g : Nat} {f0 : ByteArray} {f1 : Bool} (h : IsS58 w0 W g f0 f1) (x : ByteArray) : IsS58 w0 (W.setCell ⟨g, 0, none⟩ (.string x)) g x f1 := by
 obtain ⟨hb, hg⟩ := h
 exact ⟨by simpa using blk_set hb 0 (.string x), hg⟩
theorem cellS58_1 {W : World} {g : Nat} {f0 : ByteArray} {f1 : Bool} (h : W.heap[g]? = some (.cells #[.string f0, .bool f1] 58 (0, 0))) : W.cell? ⟨g, 1, none⟩ = some (.bool f1) := (blk_cell h 1).trans rfl
theorem IsS58.set_1 {w0 W : World} {g : Nat} {f0 : ByteArray} {f1 : Bool} (h : IsS58 w0 W g f0 f1) (x : Bool) : IsS58 w0 (W.setCell ⟨g, 1, none⟩ (.bool x)) g f0 x := by
 obtain ⟨hb, hg⟩ := h
 exact ⟨by simpa using blk_set hb 1 (.bool x), hg⟩
theorem hi58a_ {p q : Prop} (h : Aside0 p) (k : p → q := by intro h_; repeat (first | (with_reducible first | exact h_ | apply IsS58.alloc | apply IsS58.drewN | apply IsS58.drew | apply IsS58.set_0 | apply IsS58.set_1) | exact h_)) : q := k h.out
theorem hi58b_ {p q r : Prop} (h : Aside0 p) (n : Aside0 r) (k : p → r → q := by intro h_ n_; repeat (first | (with_reducible first | exact h_ | apply IsS58.alloc | apply IsS58.drewN | apply IsS58.drew | apply IsS58.set_0 | apply IsS58.set_1 | apply IsS58.far (hne := n_)) | exact h_)) : q := k h.out n.out
theorem hi58c_ {p q r s : Prop} (h : Aside0 p) (n : Aside0 r) (o : Aside0 s) (k : p → r → s → q := by intro h_ n_ o_; repeat (first | (with_reducible first | exact h_ | apply IsS58.alloc | apply IsS58.drewN | apply IsS58.drew | apply IsS58.set_0 | apply IsS58.set_1 | apply IsS58.far (hne := n_) | apply IsS58.far (hne := o_)) | exact h_)) : q := k h.out n.out o.out
theorem IsS58.new (w0 W : World) (f0 : ByteArray) (f1 : Bool) (hB : Below w0.heap.size w0 W) : IsS58 w0 (W.alloc (.cells #[.string f0, .bool f1] 58)) W.heap.size f0 f1 := ⟨by simpa using heap_alloc_new W _, hB.size⟩

def gafferref09_Bag_Number.f (k : Nat) (s0_0 : ByteArray) (s0_1 : Bool) : Option (Int × ByteArray × Bool) := (gafferref01_TakeNumber.f k s0_0).bind fun bt309 => (if bt309.2.2 = 0 then (some (bt309.1, bt309.2.1, s0_1)) else (some (bt309.1, bt309.2.1, true)))
theorem gafferref09_Bag_Number.mono : ∀ a0 a1 k, LeO (gafferref09_Bag_Number.f k a0 a1) (gafferref09_Bag_Number.f (k + 1) a0 a1) := by
 intro a0 a1 k
 unfold gafferref09_Bag_Number.f
 repeat' with_reducible first | apply gafferref01_TakeNumber.mono | apply LeO.refl | apply LeO.none | apply LeO.ite | refine LeO.bind ?_ (fun _ => ?_)
theorem gafferref09_Bag_Number.calls (k : Nat) (g : Nat) (s0_0 : ByteArray) (s0_1 : Bool) (r1 : Int) (r2 : ByteArray) (r3 : Bool) (w0 w : World) (hI : IsS58 w0 w g s0_0 s0_1) (hB : Below w0.heap.size w0 w) (h : gafferref09_Bag_Number.f k s0_0 s0_1 = some (r1, r2, r3)) :
  Calls Try.prog 31 #[.pointer (some ⟨g, 0, none⟩)] w fun e w' => e = .returned (.int .u64 r1) ∧ IsS58 w0 w' g r2 r3 ∧ Below w0.heap.size w0 w' ∧ KeepBut w w' g none := by
 have HI_1 := a_ hI
 have HK := a_ (KeepBut.refl w g none)
 have HL := a_ hB.size
 clear hI
 have HW_1 := a_ hB.size
 have HB := a_ hB
 clear hB
 have H := h
 unfold gafferref09_Bag_Number.f at H
 clear h
 obtain ⟨⟨t_1, t_2, t_3⟩, A_1, H⟩ := Option.bind_eq_some_iff.mp H
 try dsimp only at H
 have A_2 := a_ A_1
 clear A_1
 by_cases c_1 : t_3 = 0
 rotate_left
 focus
  rw [if_neg c_1] at H
  have c_2 : (t_3 == 0) = false := beq_eq_false_iff_ne.mpr c_1
  have c_3 : (t_3 != 0) = true := bne_iff_ne.mpr c_1
  simp only [Option.some.injEq, Prod.mk.injEq] at H
  obtain ⟨rfl, rfl, rfl⟩ := H
  obtain ⟨HGz_1, hgz_1⟩ := HI_1.out
  have hcz_1 := cellS58_0 HGz_1
  have hcz_2 := cellS58_1 HGz_1
  have hfz_1 := blk_frozen HGz_1 0
  have hfz_2 := blk_frozen HGz_1 1
  clear HGz_1 hgz_1
 rotate_left
 rw [if_pos c_1] at H
 have c_2 : (t_3 == 0) = true := beq_iff_eq.mpr c_1
 have c_3 : (t_3 != 0) = false := bne_eq_false_iff_eq.mpr c_1
 clear c_1
 simp only [Option.some.injEq, Prod.mk.injEq] at H
 obtain ⟨rfl, rfl, rfl⟩ := H
 obtain ⟨HGz_1, hgz_1⟩ := HI_1.out
 have hcz_1 := cellS58_0 HGz_1
 have hcz_2 := cellS58_1 HGz_1
 have hfz_1 := blk_frozen HGz_1 0
 have hfz_2 := blk_frozen HGz_1 1
 clear HGz_1 hgz_1
 all_goals
  go_enter Try.func31, Try.ntmps31
  go_wp2_with ((with_reducible refine gk_ 60 ?_); refine gl_ (some 11) Try.func60 #[.string s0_0] ?_; (with_reducible refine (gafferref01_TakeNumber.calls k s0_0 t_1 t_2 t_3 _ A_2.out).mono ?_); rintro e w' ⟨rfl, ⟨nd, rfl⟩⟩; refine ⟨_, rfl, ?_⟩; (try (rw [drewN_self w]; generalize hq_ : World.drewN w _ = w_1; have n_1 : Aside0 (IsS58 w0 w_1 g s0_0 s0_1) := ⟨by rw [← hq_]; exact (hi58a_ HI_1)⟩; have n_2 : Aside0 (KeepBut w w_1 g none) := ⟨by rw [← hq_]; exact (hk0_ HK)⟩; have n_3 : Aside0 (Below w0.heap.size w0 w_1) := ⟨by rw [← hq_]; exact (hb1_ HB (IsS58.ge HI_1.out))⟩; clear HI_1 HK HB hq_; have HI_1 := n_1; have HK := n_2; have HB := n_3; clear n_1 n_2 n_3; obtain ⟨HGz_1, hgz_1⟩ := HI_1.out; have hcz_1 := cellS58_0 HGz_1; have hcz_2 := cellS58_1 HGz_1; have hfz_1 := blk_frozen HGz_1 0; have hfz_2 := blk_frozen HGz_1 1; clear HGz_1 hgz_1)))
  go_ret
  exact ⟨fz_, hi58a_ HI_1, hb1_ HB (IsS58.ge HI_1.out), hk0_ HK⟩

def gafferref13_flagged.f (k : Nat) (s0_0 : ByteArray) (s0_1 : Bool) : Option (Bool × ByteArray × Bool) := (gafferref09_Bag_Number.f k s0_0 s0_1).bind fun bt312 => (if bt312.1 > 1 then (some ((bt312.1 == 1), bt312.2.1, true)) else (some ((bt312.1 == 1), bt312.2.1, bt312.2.2)))
theorem gafferref13_flagged.mono : ∀ a0 a1 k, LeO (gafferref13_flagged.f k a0 a1) (gafferref13_flagged.f (k + 1) a0 a1) := by
 intro a0 a1 k
 unfold gafferref13_flagged.f
 repeat' with_reducible first | apply gafferref09_Bag_Number.mono | apply LeO.refl | apply LeO.none | apply LeO.ite | refine LeO.bind ?_ (fun _ => ?_)
theorem gafferref13_flagged.calls (k : Nat) (g : Nat) (s0_0 : ByteArray) (s0_1 : Bool) (r1 : Bool) (r2 : ByteArray) (r3 : Bool) (w0 w : World) (hI : IsS58 w0 w g s0_0 s0_1) (hB : Below w0.heap.size w0 w) (h : gafferref13_flagged.f k s0_0 s0_1 = some (r1, r2, r3)) :
  Calls Try.prog 61 #[.pointer (some ⟨g, 0, none⟩)] w fun e w' => e = .returned (.bool r1) ∧ IsS58 w0 w' g r2 r3 ∧ Below w0.heap.size w0 w' ∧ KeepBut w w' g none := by
 have HI0 := a_ hI
 have HK := a_ (KeepBut.refl w g none)
 have HL := a_ hB.size
 clear hI
 have HW0 := a_ hB.size
 have HB := a_ hB
 clear hB
 have H := h
 unfold gafferref13_flagged.f at H
 clear h
 obtain ⟨⟨t312, t313, t314⟩, A20, H⟩ := Option.bind_eq_some_iff.mp H
 try dsimp only at H
 have A2 := a_ A20
 clear A20
 by_cases c3 : t312 > 1
 rotate_left
 ·rw [if_neg c3] at H
  have c3b0 : decide (1 < t312) = false := decide_eq_false c3
  clear c3
  simp only [Option.some.injEq, Prod.mk.injEq] at H
  obtain ⟨rfl, rfl, rfl⟩ := H
  go_enter Try.func61, Try.ntmps61
  go_wp2_with (first | ((with_reducible refine gk_ 31 ?_); refine gl_ (some 5) Try.func31 #[.pointer (some ⟨g, 0, none⟩)] ?_; (with_reducible refine (gafferref09_Bag_Number.calls k g s0_0 s0_1 t312 t313 t314 w0 _ ?side1 ?side2 A2.out).mono ?_); (case side1 => exact hi58a_ HI0); (case side2 => exact hb1_ HB (IsS58.ge HI0.out)); rintro e w6 ⟨rfl, hi, hb, hk⟩; refine ⟨_, rfl, ?_⟩; replace HK := a_ (KeepBut.trans (hk0_ HK) hk (.inl rfl)); replace HB := a_ (hb); replace HI0 := a_ (hi); (try clear hb)))
  go_ret
  exact ⟨fz_, hi58a_ HI0, hb1_ HB (IsS58.ge HI0.out), hk0_ HK⟩


 rw [if_pos c3] at H
 have c3b0 : decide (1 < t312) = true := decide_eq_true c3
 clear c3
 simp only [Option.some.injEq, Prod.mk.injEq] at H
 obtain ⟨rfl, rfl, rfl⟩ := H
 go_enter Try.func61, Try.ntmps61
 go_wp2_with (first | ((with_reducible refine gk_ 31 ?_); refine gl_ (some 5) Try.func31 #[.pointer (some ⟨g, 0, none⟩)] ?_; (with_reducible refine (gafferref09_Bag_Number.calls k g s0_0 s0_1 t312 t313 t314 w0 _ ?side1 ?side2 A2.out).mono ?_); (case side1 => exact hi58a_ HI0); (case side2 => exact hb1_ HB (IsS58.ge HI0.out)); rintro e w4 ⟨rfl, hi, hb, hk⟩; refine ⟨_, rfl, ?_⟩; replace HK := a_ (KeepBut.trans (hk0_ HK) hk (.inl rfl)); replace HB := a_ (hb); replace HI0 := a_ (hi); (try clear hb); obtain ⟨HGz5, hgz5⟩ := HI0.out; have hcz5_0 := cellS58_0 HGz5; have hcz5_1 := cellS58_1 HGz5; have hfz5_0 := blk_frozen HGz5 0; have hfz5_1 := blk_frozen HGz5 1; clear HGz5 hgz5))
 go_ret
 exact ⟨fz_, hi58a_ HI0, hb1_ HB (IsS58.ge HI0.out), hk0_ HK⟩
def gafferref01_TakeText.f (k : Nat) (a0 : ByteArray) : Option (ByteArray × ByteArray × Int) := (gafferref01_TakeNumber.f k a0).bind fun bt315 => (if bt315.2.2 = 0 then (if bt315.1 > 65536 then (some ((⟨#[]⟩ : ByteArray), (⟨#[]⟩ : ByteArray), 2)) else (if (wrap64 (bt315.1)) > (bt315.2.1.size : Int) then (some ((⟨#[]⟩ : ByteArray), (⟨#[]⟩ : ByteArray), 3)) else (if 0 ≤ bt315.1 then (if bt315.1 ≤ (bt315.2.1.size : Int) then (some (bt315.2.1.extract 0 (bt315.1 : Int).toNat, bt315.2.1.extract (bt315.1 : Int).toNat bt315.2.1.size, 0)) else (none)) else (none)))) else (some ((⟨#[]⟩ : ByteArray), (⟨#[]⟩ : ByteArray), bt315.2.2)))
theorem gafferref01_TakeText.mono : ∀ a0 k, LeO (gafferref01_TakeText.f k a0) (gafferref01_TakeText.f (k + 1) a0) := by
 intro a0 k
 unfold gafferref01_TakeText.f
 repeat' with_reducible first | apply gafferref01_TakeNumber.mono | apply LeO.refl | apply LeO.none | apply LeO.ite | refine LeO.bind ?_ (fun _ => ?_)
theorem gafferref01_TakeText.calls (k : Nat) (a0 : ByteArray) (r1 : ByteArray) (r2 : ByteArray) (r3 : Int) (w : World) (h : gafferref01_TakeText.f k a0 = some (r1, r2, r3)) :
  Calls Try.prog 83 #[.string a0] w fun e w' => e = .returned (.tuple #[.string r1, .string r2, .int .i64 r3]) ∧ Drawn0 w w' := by
 have H := h
 unfold gafferref01_TakeText.f at H
 clear h
 obtain ⟨⟨t_1, t_2, t_3⟩, A_1, H⟩ := Option.bind_eq_some_iff.mp H
 try dsimp only at H
 have A_2 := a_ A_1
 clear A_1
 by_cases c_1 : t_3 = 0
 rotate_left
 focus
  rw [if_neg c_1] at H
  have c_2 : (t_3 == 0) = false := beq_eq_false_iff_ne.mpr c_1
  have c_3 : (t_3 != 0) = true := bne_iff_ne.mpr c_1
  simp only [Option.some.injEq, Prod.mk.injEq] at H
  obtain ⟨rfl, rfl, rfl⟩ := H
 rotate_left
 focus
  rw [if_pos c_1] at H
  have c_2 : (t_3 == 0) = true := beq_iff_eq.mpr c_1
  have c_3 : (t_3 != 0) = false := bne_eq_false_iff_eq.mpr c_1
  clear c_1
  by_cases c_4 : t_1 > 65536
  focus
   rw [if_pos c_4] at H
   have c_5 : decide (65536 < t_1) = true := decide_eq_true c_4
   clear c_4
   simp only [Option.some.injEq, Prod.mk.injEq] at H
   obtain ⟨rfl, rfl, rfl⟩ := H
  rotate_left
  focus
   rw [if_neg c_4] at H
   have c_5 : decide (65536 < t_1) = false := decide_eq_false c_4
   clear c_4
   by_cases c_6 : (wrap64 (t_1)) > (t_2.size : Int)
   focus
    rw [if_pos c_6] at H
    have c_7 : decide ((t_2.size : Int) < (wrap64 (t_1))) = true := decide_eq_true c_6
    clear c_6
    simp only [Option.some.injEq, Prod.mk.injEq] at H
    obtain ⟨rfl, rfl, rfl⟩ := H
   rotate_left
   focus
    rw [if_neg c_6] at H
    have c_7 : decide ((t_2.size : Int) < (wrap64 (t_1))) = false := decide_eq_false c_6
    clear c_6
    by_cases c_8 : 0 ≤ t_1
    rotate_left
    ·rw [if_neg c_8] at H
     exact absurd H (by simp)
    rw [if_pos c_8] at H
    have c_9 := eq_true c_8
    have c_10 : decide (0 ≤ t_1) = true := decide_eq_true c_8
    clear c_8
    by_cases c_11 : t_1 ≤ (t_2.size : Int)
    rotate_left
    ·rw [if_neg c_11] at H
     exact absurd H (by simp)
    rw [if_pos c_11] at H
    have c_12 := eq_true c_11
    have c_13 : decide (t_1 ≤ (t_2.size : Int)) = true := decide_eq_true c_11
    clear c_11
    have c_14 := eq_true (od_ : 0 ≤ t_1)
    have c_15 := eq_true (od_ : t_1 ≤ (t_2.size : Int))
    simp only [Option.some.injEq, Prod.mk.injEq] at H
    obtain ⟨rfl, rfl, rfl⟩ := H
 all_goals
  go_enter Try.func83, Try.ntmps83
  go_wp2_with (first | (go_at_call 60; (with_reducible refine (gafferref01_TakeNumber.calls k a0 t_1 t_2 t_3 _ A_2.out).mono ?_); rintro e w' ⟨rfl, ⟨nd, rfl⟩⟩; (try first | exact ⟨rfl, _, World.drewN_drewN _ _ _⟩ | exact ⟨rfl, _, Eq.trans (World.drewN_drewN _ _ _) (congrArg (World.drewN _) (Nat.add_assoc _ _ _))⟩)) | go_quiet (first | (go_at_call 60; (with_reducible refine (gafferref01_TakeNumber.calls k a0 t_1 t_2 t_3 _ A_2.out).mono ?_); rintro e w' ⟨rfl, ⟨nd, rfl⟩⟩; (try first | exact ⟨rfl, _, World.drewN_drewN _ _ _⟩ | exact ⟨rfl, _, Eq.trans (World.drewN_drewN _ _ _) (congrArg (World.drewN _) (Nat.add_assoc _ _ _))⟩))))
  go_ret3
  exact ⟨fz_, dr_⟩

mutual
def gafferref03_TakeInts.j0 : Nat → Int → ByteArray → Bool → Option (List Int × ByteArray × Bool)
 | 0, _, _, _ => none
 | k + 1, x5, x6, x24 => if x24 = true then (some (([] : List Int), (⟨#[]⟩ : ByteArray), false)) else (gafferref03_TakeInts.l0 k x5 x6 ([] : List Int) 0)
def gafferref03_TakeInts.l0 : Nat → Int → ByteArray → List Int → Int → Option (List Int × ByteArray × Bool)
 | 0, _, _, _, _ => none
 | k + 1, x5, x6, x8, x9 => if x9 < x5 then ((gafferref01_TakeNumber.f k x6).bind fun bt321 => (if bt321.2.2 = 0 then (if bt321.1 > 7 then (some (([] : List Int), (⟨#[]⟩ : ByteArray), false)) else (if x8.length < 17592186044416 then (gafferref03_TakeInts.l0 k x5 bt321.2.1 (x8 ++ [wrap64 (bt321.1)]) (IntKind.u64.wrap (x9 + 1))) else (none))) else (some (([] : List Int), (⟨#[]⟩ : ByteArray), false)))) else (some (x8, x6, true))
end
def gafferref03_TakeInts.f (k : Nat) (a0 : ByteArray) : Option (List Int × ByteArray × Bool) := (gafferref01_TakeNumber.f k a0).bind fun bt318 => (if bt318.2.2 = 0 then (gafferref03_TakeInts.j0 k bt318.1 bt318.2.1 (decide (bt318.1 > 7))) else (gafferref03_TakeInts.j0 k bt318.1 bt318.2.1 true))
theorem gafferref03_TakeInts.mono_l : ∀ k, (∀ y0 y1 y2, LeO (gafferref03_TakeInts.j0 k y0 y1 y2) (gafferref03_TakeInts.j0 (k + 1) y0 y1 y2)) ∧ (∀ y0 y1 y2 y3, LeO (gafferref03_TakeInts.l0 k y0 y1 y2 y3) (gafferref03_TakeInts.l0 (k + 1) y0 y1 y2 y3))
 | 0 => ⟨fun _ _ _ r h => by simp [gafferref03_TakeInts.j0] at h, fun _ _ _ _ r h => by simp [gafferref03_TakeInts.l0] at h⟩
 | k + 1 => by
  obtain ⟨ih0, ih1⟩ := gafferref03_TakeInts.mono_l k
  refine ⟨?_, ?_⟩
  ·intro y0 y1 y2
   unfold gafferref03_TakeInts.j0
   repeat' with_reducible first | apply ih0 | apply ih1 | apply gafferref01_TakeNumber.mono | apply LeO.refl | apply LeO.none | apply LeO.ite | refine LeO.bind ?_ (fun _ => ?_)
  ·intro y0 y1 y2 y3
   unfold gafferref03_TakeInts.l0
   repeat' with_reducible first | apply ih0 | apply ih1 | apply gafferref01_TakeNumber.mono | apply LeO.refl | apply LeO.none | apply LeO.ite | refine LeO.bind ?_ (fun _ => ?_)
theorem gafferref03_TakeInts.mono : ∀ a0 k, LeO (gafferref03_TakeInts.f k a0) (gafferref03_TakeInts.f (k + 1) a0) := by
 intro a0 k
 obtain ⟨ih0, ih1⟩ := gafferref03_TakeInts.mono_l k
 unfold gafferref03_TakeInts.f
 repeat' with_reducible first | apply ih0 | apply ih1 | apply gafferref01_TakeNumber.mono | apply LeO.refl | apply LeO.none | apply LeO.ite | refine LeO.bind ?_ (fun _ => ?_)
theorem gafferref03_TakeInts.calls (k : Nat) (a0 : ByteArray) (r1 : List Int) (r2 : ByteArray) (r3 : Bool) (w : World) (h : gafferref03_TakeInts.f k a0 = some (r1, r2, r3)) :
  Calls Try.prog 89 #[.string a0] w fun e w' => ∃ v0_ : Value, e = .returned (.tuple #[v0_, .string r2, .bool r3]) ∧ Kd.R (Kd.int .i64) 3 w' w.heap.size (fun _ => True) v0_ r1 ∧ Below w.heap.size w w' := by
 have HB := a_ (Below.refl w.heap.size w)
 have H := h
 unfold gafferref03_TakeInts.f at H
 clear h
 obtain ⟨⟨t318, t319, t320⟩, A20, H⟩ := Option.bind_eq_some_iff.mp H
 try dsimp only at H
 have A2 := a_ A20
 clear A20
 have HC3 := a_ H
 clear H
 go_enter Try.func89, Try.ntmps89
 go_upto_region 2 with (first | ((with_reducible refine gk_ 60 ?_); refine gl_ (some 15) Try.func60 #[.string a0] ?_; (with_reducible refine (gafferref01_TakeNumber.calls k a0 t318 t319 t320 _ A2.out).mono ?_); rintro e w' ⟨rfl, ⟨nd, rfl⟩⟩; refine ⟨_, rfl, ?_⟩))
 (try simp only [Act.put, List.setIfInBounds_toArray, List.set_cons_zero, List.set_cons_succ])
 go_cut [24] (fun v24 wc => ∃ (kq : Nat) (x24_2 : Bool), v24 = .bool x24_2 ∧ Aside0 (gafferref03_TakeInts.j0 kq t318 t319 x24_2 = some (r1, r2, r3)) ∧ Aside0 (kq ≤ k) ∧ Aside0 (Below w.heap.size w wc))
 case first =>
  have H := HC3.out
  clear HC3
  by_cases c4 : t320 = 0
  rotate_left
  ·rw [if_neg c4] at H
   have c4b0 : (t320 == 0) = false := beq_eq_false_iff_ne.mpr c4
   have c4b1 : (t320 != 0) = true := bne_iff_ne.mpr c4
   (first | rw [c4b0] | (simp only [i64_w, i32_w]; rw [c4b0]) | skip)
   have H' := a_ H
   clear H
   go_wp2
   go_meet
   case rel => exact ⟨_, (true), fz_, H', ⟨by first | omega | exact Nat.le_refl _⟩, ⟨bl_ HB⟩⟩
  rw [if_pos c4] at H
  have c4b0 : (t320 == 0) = true := beq_iff_eq.mpr c4
  have c4b1 : (t320 != 0) = false := bne_eq_false_iff_eq.mpr c4
  clear c4
  (first | rw [c4b0] | (simp only [i64_w, i32_w]; rw [c4b0]) | skip)
  have H' := a_ H
  clear H
  go_wp2
  go_meet
  case rel => exact ⟨_, (decide (t318 > 7)), fz_, H', ⟨by first | omega | exact Nat.le_refl _⟩, ⟨bl_ HB⟩⟩
 case rest =>
  clear HC3
  try clear p2
  try clear c4
  try clear c4b0
  try clear c4b1
  obtain ⟨kq, x24_2, rfl, HA, HJ2, HB⟩ := hcut
  cases kq with
  | zero => exact absurd HA.out (by simp [gafferref03_TakeInts.j0])
  | succ kj2 =>
   have H := HA.out
   clear HA
   simp only [gafferref03_TakeInts.j0] at H
   by_cases c5 : x24_2 = true
   ·subst c5
    have H1 : (some (([] : List Int), (⟨#[]⟩ : ByteArray), false)) = some (r1, r2, r3) := by rw [if_pos rfl] at H; exact H
    clear H
    have H := H1
    clear H1
    simp only [Option.some.injEq, Prod.mk.injEq] at H
    obtain ⟨rfl, rfl, rfl⟩ := H
    go_wp2
    go_ret3
    exact ⟨_, fz_, by first | exact Kd.R_nil _ _ _ _ _ | exact Kd.N_nil _ _ _ _ _ | exact Kd.V_nil _ _ _ _ _ | exact Kd.Q_nil _ _ _ _ _ | exact Kd.S_nil _ _ _ _ _, bl_ HB⟩
   replace c5 := Bool.eq_false_iff.mpr c5
   subst c5
   have H1 : (gafferref03_TakeInts.l0 kj2 t318 t319 ([] : List Int) 0) = some (r1, r2, r3) := by rw [if_neg (show ¬ (false = true) by decide)] at H; exact H
   clear H
   have H := H1
   clear H1
   have H' := a_ H
   clear H
   go_wp2
   go_loopg [6, 8, 9] kj2 (fun kq v6 v8 v9 w' => ∃ (x6_2 : ByteArray) (x8_2 : List Int) (x9_2 : Int), v6 = .string x6_2 ∧ v9 = .int .u64 x9_2 ∧ Aside0 (gafferref03_TakeInts.l0 kq t318 x6_2 x8_2 x9_2 = some (r1, r2, r3)) ∧ Aside0 (kq ≤ kj2) ∧ Aside0 (Kd.R (Kd.int .i64) 3 w' w.heap.size (fun _ => True) v8 x8_2) ∧ Aside0 (Below w.heap.size w w'))
   case atStart => exact ⟨(t319), (([] : List Int)), (0), fz_, fz_, H', ⟨Nat.le_refl _⟩, ⟨by first | exact Kd.R_nil _ _ _ _ _ | exact Kd.N_nil _ _ _ _ _ | exact Kd.V_nil _ _ _ _ _ | exact Kd.Q_nil _ _ _ _ _ | exact Kd.S_nil _ _ _ _ _⟩, ⟨bl_ HB⟩⟩
   case round =>
    clear H'
    try clear p2
    try clear c4
    try clear c4b0
    try clear c4b1
    try clear c5
    try clear p2
    obtain ⟨x6_2, x8_2, x9_2, rfl, rfl, HA, HK2, HO_8, HB⟩ := hrel
    cases gk with
    | zero => exact absurd HA.out (by simp [gafferref03_TakeInts.l0])
    | succ k2 =>
     have H := HA.out
     clear HA
     simp only [gafferref03_TakeInts.l0] at H
     by_cases c6 : x9_2 < t318
     rotate_left
     ·rw [if_neg c6] at H
      have c6b0 : decide (x9_2 < t318) = false := decide_eq_false c6
      clear c6
      simp only [Option.some.injEq, Prod.mk.injEq] at H
      obtain ⟨rfl, rfl, rfl⟩ := H
      go_wp2
      go_ret3
      exact ⟨_, fz_, by refine rq_ ?_; exact HO_8.out, bl_ HB⟩


     rw [if_pos c6] at H
     have c6b0 : decide (x9_2 < t318) = true := decide_eq_true c6
     clear c6
     obtain ⟨⟨t321, t322, t323⟩, A70, H⟩ := Option.bind_eq_some_iff.mp H
     try dsimp only at H
     have A7 := a_ A70
     clear A70
     by_cases c8 : t323 = 0
     rotate_left
     ·rw [if_neg c8] at H
      have c8b0 : (t323 == 0) = false := beq_eq_false_iff_ne.mpr c8
      have c8b1 : (t323 != 0) = true := bne_iff_ne.mpr c8
      simp only [Option.some.injEq, Prod.mk.injEq] at H
      obtain ⟨rfl, rfl, rfl⟩ := H
      go_wp2_with (first | ((with_reducible refine gk_ 60 ?_); refine gl_ (some 32) Try.func60 #[.string x6_2] ?_; (with_reducible refine (gafferref01_TakeNumber.calls k2 x6_2 t321 t322 t323 _ A7.out).mono ?_); rintro e w' ⟨rfl, ⟨nd, rfl⟩⟩; refine ⟨_, rfl, ?_⟩))
      go_ret3
      exact ⟨_, fz_, by first | exact Kd.R_nil _ _ _ _ _ | exact Kd.N_nil _ _ _ _ _ | exact Kd.V_nil _ _ _ _ _ | exact Kd.Q_nil _ _ _ _ _ | exact Kd.S_nil _ _ _ _ _, bl_ HB⟩
     rw [if_pos c8] at H
     have c8b0 : (t323 == 0) = true := beq_iff_eq.mpr c8
     have c8b1 : (t323 != 0) = false := bne_eq_false_iff_eq.mpr c8
     clear c8
     by_cases c9 : t321 > 7
     ·rw [if_pos c9] at H
      have c9b0 : decide (7 < t321) = true := decide_eq_true c9
      clear c9
      simp only [Option.some.injEq, Prod.mk.injEq] at H
      obtain ⟨rfl, rfl, rfl⟩ := H
      go_wp2_with (first | ((with_reducible refine gk_ 60 ?_); refine gl_ (some 32) Try.func60 #[.string x6_2] ?_; (with_reducible refine (gafferref01_TakeNumber.calls k2 x6_2 t321 t322 t323 _ A7.out).mono ?_); rintro e w' ⟨rfl, ⟨nd, rfl⟩⟩; refine ⟨_, rfl, ?_⟩))
      go_ret3
      exact ⟨_, fz_, by first | exact Kd.R_nil _ _ _ _ _ | exact Kd.N_nil _ _ _ _ _ | exact Kd.V_nil _ _ _ _ _ | exact Kd.Q_nil _ _ _ _ _ | exact Kd.S_nil _ _ _ _ _, bl_ HB⟩
     rw [if_neg c9] at H
     have c9b0 : decide (7 < t321) = false := decide_eq_false c9
     clear c9
     by_cases c10 : x8_2.length < 17592186044416
     rotate_left
     ·rw [if_neg c10] at H
      exact absurd H (by simp)
     rw [if_pos c10] at H
     have LMc10 := a_ c10
     clear c10
     obtain ⟨y324, hy324⟩ : ∃ y_ : List Int, y_ = (x8_2 ++ [wrap64 (t321)]) := ⟨_, rfl⟩
     replace H : (gafferref03_TakeInts.l0 k2 t318 t322 y324 (IntKind.u64.wrap (x9_2 + 1))) = some (r1, r2, r3) := by first | (rw [hy324]; with_reducible exact H) | (have H2_ := (Option.bind_some _ _).symm.trans H; rw [hy324]; with_reducible exact H2_) | (have H2_ := (Option.bind_some _ _).symm.trans H; with_reducible exact H2_) | with_reducible exact H | (rw [hy324]; exact H) | exact H
     have Ny324 := a_ hy324
     clear hy324
     have H' := a_ H
     clear H
     go_wp2_with (first | ((with_reducible refine gk_ 60 ?_); refine gl_ (some 32) Try.func60 #[.string x6_2] ?_; (with_reducible refine (gafferref01_TakeNumber.calls k2 x6_2 t321 t322 t323 _ A7.out).mono ?_); rintro e w' ⟨rfl, ⟨nd, rfl⟩⟩; refine ⟨_, rfl, ?_⟩) | ((with_reducible refine gate_builtin (b := .append) (xs := #[.tmp 42, .tmp 45]) rfl ?_); at_builtin; refine Kd.R_append (Kd.int .i64) (w0 := w) w.heap.size rfl (.tmp 42) (.tmp 45) 33 3 (.int .i64 0) 8 rfl Try.underlying33 info3 rfl (by decide) (by omega) u8 x8_2 (wrap64 (t321)) [.int .i64 (wrap64 (t321))] (fun _ => True) (fun _ => False) rfl rfl ?aP (fun _ hk => hk.elim) ?aF ?aO ?aB ?aS ?aL ?_; (case aP => exact rfl); (case aB => exact (bl_ HB)); (case aF => exact (fun _ _ => trivial)); (case aO => exact (by refine rq_ ?_; exact HO_8.out)); (case aS => exact (below_size (bl_ HB))); (case aL => have := LMc10.out; omega); intro v325 w11 ho hb hg hat; rw [← Ny324.out] at ho; replace HB := a_ (hb); have HO326 := a_ (ho); clear HO_8; clear ho hb hg hat))
     go_roundg k2
     case measure => have := HJ2.out; have := HK2.out; omega
     case rel => exact ⟨(t322), (y324), (IntKind.u64.wrap (x9_2 + 1)), fz_, fz_, H', ⟨by have := HJ2.out; have := HK2.out; omega⟩, ⟨by refine rq_ ?_; exact HO326.out⟩, ⟨bl_ HB⟩⟩
def gafferref03_Take.f (k : Nat) (a0 : ByteArray) : Option (Int × Int × Int × ByteArray × List Int × ByteArray × Bool) := (gafferref01_TakeNumber.f k a0).bind fun bt328 => ((gafferref01_TakeNumber.f k bt328.2.1).bind fun bt331 => ((gafferref01_TakeNumber.f k bt331.2.1).bind fun bt334 => ((gafferref01_TakeText.f k bt334.2.1).bind fun bt337 => ((gafferref03_TakeInts.f k bt337.2.1).bind fun bt340 => (if bt328.2.2 = 0 then (if bt331.2.2 = 0 then (if bt334.2.2 = 0 then (if bt337.2.2 = 0 then (if bt340.2.2 = true then (if bt334.1 > 255 then (some (0, 0, 0, (⟨#[]⟩ : ByteArray), ([] : List Int), (⟨#[]⟩ : ByteArray), false)) else ((gafferref03_Check.f k bt328.1 bt331.1 ((bt334.1) % 256) bt337.1 bt340.1).bind fun t346 => (if t346 = 0 then (some (bt328.1, bt331.1, (bt334.1) % 256, bt337.1, bt340.1, bt340.2.1, true)) else (some (0, 0, 0, (⟨#[]⟩ : ByteArray), ([] : List Int), (⟨#[]⟩ : ByteArray), false))))) else (some (0, 0, 0, (⟨#[]⟩ : ByteArray), ([] : List Int), (⟨#[]⟩ : ByteArray), false))) else (some (0, 0, 0, (⟨#[]⟩ : ByteArray), ([] : List Int), (⟨#[]⟩ : ByteArray), false))) else (some (0, 0, 0, (⟨#[]⟩ : ByteArray), ([] : List Int), (⟨#[]⟩ : ByteArray), false))) else (some (0, 0, 0, (⟨#[]⟩ : ByteArray), ([] : List Int), (⟨#[]⟩ : ByteArray), false))) else (some (0, 0, 0, (⟨#[]⟩ : ByteArray), ([] : List Int), (⟨#[]⟩ : ByteArray), false)))))))
theorem gafferref03_Take.mono : ∀ a0 k, LeO (gafferref03_Take.f k a0) (gafferref03_Take.f (k + 1) a0) := by
 intro a0 k
 unfold gafferref03_Take.f
 repeat' with_reducible first | apply gafferref01_TakeNumber.mono | apply gafferref01_TakeText.mono | apply gafferref03_Check.mono | apply gafferref03_TakeInts.mono | apply LeO.refl | apply LeO.none | apply LeO.ite | refine LeO.bind ?_ (fun _ => ?_)
theorem gafferref03_Take.calls (k : Nat) (a0 : ByteArray) (r1 : Int) (r2 : Int) (r3 : Int) (r4 : ByteArray) (r5 : List Int) (r6 : ByteArray) (r7 : Bool) (w : World) (h : gafferref03_Take.f k a0 = some (r1, r2, r3, r4, r5, r6, r7)) :
  Calls Try.prog 82 #[.string a0] w fun e w' => ∃ v4_ : Value, e = .returned (.tuple #[.agg #[.int .u64 r1, .int .u64 r2, .int .u8 r3, .string r4, v4_], .string r6, .bool r7]) ∧ Kd.R (Kd.int .i64) 3 w' w.heap.size (fun _ => True) v4_ r5 ∧ Below w.heap.size w w' := by
 have hu_1 := Try.underlying67
 have HB := a_ (Below.refl w.heap.size w)
 have H := h
 unfold gafferref03_Take.f at H
 clear h
 obtain ⟨⟨t_1, t_2, t_3⟩, A_1, H⟩ := Option.bind_eq_some_iff.mp H
 try dsimp only at H
 have A_2 := a_ A_1
 clear A_1
 obtain ⟨⟨t_4, t_5, t_6⟩, A_3, H⟩ := Option.bind_eq_some_iff.mp H
 try dsimp only at H
 have A_4 := a_ A_3
 clear A_3
 obtain ⟨⟨t_7, t_8, t_9⟩, A_5, H⟩ := Option.bind_eq_some_iff.mp H
 try dsimp only at H
 have A_6 := a_ A_5
 clear A_5
 obtain ⟨⟨t_10, t_11, t_12⟩, A_7, H⟩ := Option.bind_eq_some_iff.mp H
 try dsimp only at H
 have A_8 := a_ A_7
 clear A_7
 obtain ⟨⟨t_13, t_14, t_15⟩, A_9, H⟩ := Option.bind_eq_some_iff.mp H
 try dsimp only at H
 have A_10 := a_ A_9
 clear A_9
 by_cases c_1 : t_3 = 0
 rotate_left
 focus
  rw [if_neg c_1] at H
  have c_2 : (t_3 == 0) = false := beq_eq_false_iff_ne.mpr c_1
  have c_3 : (t_3 != 0) = true := bne_iff_ne.mpr c_1
  simp only [Option.some.injEq, Prod.mk.injEq] at H
  obtain ⟨rfl, rfl, rfl, rfl, rfl, rfl, rfl⟩ := H
  have L0_ := trivial
 rotate_left
 focus
  rw [if_pos c_1] at H
  have c_2 : (t_3 == 0) = true := beq_iff_eq.mpr c_1
  have c_3 : (t_3 != 0) = false := bne_eq_false_iff_eq.mpr c_1
  clear c_1
  by_cases c_4 : t_6 = 0
  rotate_left
  focus
   rw [if_neg c_4] at H
   have c_5 : (t_6 == 0) = false := beq_eq_false_iff_ne.mpr c_4
   have c_6 : (t_6 != 0) = true := bne_iff_ne.mpr c_4
   simp only [Option.some.injEq, Prod.mk.injEq] at H
   obtain ⟨rfl, rfl, rfl, rfl, rfl, rfl, rfl⟩ := H
   have L0_ := trivial
  rotate_left
  focus
   rw [if_pos c_4] at H
   have c_5 : (t_6 == 0) = true := beq_iff_eq.mpr c_4
   have c_6 : (t_6 != 0) = false := bne_eq_false_iff_eq.mpr c_4
   clear c_4
   by_cases c_7 : t_9 = 0
   rotate_left
   focus
    rw [if_neg c_7] at H
    have c_8 : (t_9 == 0) = false := beq_eq_false_iff_ne.mpr c_7
    have c_9 : (t_9 != 0) = true := bne_iff_ne.mpr c_7
    simp only [Option.some.injEq, Prod.mk.injEq] at H
    obtain ⟨rfl, rfl, rfl, rfl, rfl, rfl, rfl⟩ := H
    have L0_ := trivial
   rotate_left
   focus
    rw [if_pos c_7] at H
    have c_8 : (t_9 == 0) = true := beq_iff_eq.mpr c_7
    have c_9 : (t_9 != 0) = false := bne_eq_false_iff_eq.mpr c_7
    clear c_7
    by_cases c_10 : t_12 = 0
    rotate_left
    focus
     rw [if_neg c_10] at H
     have c_11 : (t_12 == 0) = false := beq_eq_false_iff_ne.mpr c_10
     have c_12 : (t_12 != 0) = true := bne_iff_ne.mpr c_10
     simp only [Option.some.injEq, Prod.mk.injEq] at H
     obtain ⟨rfl, rfl, rfl, rfl, rfl, rfl, rfl⟩ := H
     have L0_ := trivial
    rotate_left
    focus
     rw [if_pos c_10] at H
     have c_11 : (t_12 == 0) = true := beq_iff_eq.mpr c_10
     have c_12 : (t_12 != 0) = false := bne_eq_false_iff_eq.mpr c_10
     clear c_10
     by_cases c_13 : t_15 = true
     rotate_left
     focus
      replace c_13 := Bool.eq_false_iff.mpr c_13
      subst c_13
      rw [if_neg (show ¬ (false = true) by decide)] at H
      simp only [Option.some.injEq, Prod.mk.injEq] at H
      obtain ⟨rfl, rfl, rfl, rfl, rfl, rfl, rfl⟩ := H
      have L1_ := trivial
     rotate_left
     focus
      subst c_13
      rw [if_pos rfl] at H
      by_cases c_14 : t_7 > 255
      focus
       rw [if_pos c_14] at H
       have c_15 : decide (255 < t_7) = true := decide_eq_true c_14
       clear c_14
       simp only [Option.some.injEq, Prod.mk.injEq] at H
       obtain ⟨rfl, rfl, rfl, rfl, rfl, rfl, rfl⟩ := H
       have L1_ := trivial
      rotate_left
      focus
       rw [if_neg c_14] at H
       have c_15 : decide (255 < t_7) = false := decide_eq_false c_14
       clear c_14
       obtain ⟨t_16, A_11, H⟩ := Option.bind_eq_some_iff.mp H
       try dsimp only at H
       have A_1 := a_ A_11
       clear A_11
       by_cases c_16 : t_16 = 0
       rotate_left
       focus
        rw [if_neg c_16] at H
        have c_17 : (t_16 == 0) = false := beq_eq_false_iff_ne.mpr c_16
        have c_18 : (t_16 != 0) = true := bne_iff_ne.mpr c_16
        simp only [Option.some.injEq, Prod.mk.injEq] at H
        obtain ⟨rfl, rfl, rfl, rfl, rfl, rfl, rfl⟩ := H
        have L2_ := trivial
       rotate_left
       rw [if_pos c_16] at H
       have c_17 : (t_16 == 0) = true := beq_iff_eq.mpr c_16
       have c_18 : (t_16 != 0) = false := bne_eq_false_iff_eq.mpr c_16
       clear c_16
       simp only [Option.some.injEq, Prod.mk.injEq] at H
       obtain ⟨rfl, rfl, rfl, rfl, rfl, rfl, rfl⟩ := H
       have L3_ := trivial
 all_goals
  go_enter Try.func82, Try.ntmps82
  first
  | (have _ := L0_
     go_wp2_with (first | ((with_reducible refine gd_ 2 ?_); refine bx_ 2 #[.int .u64 0, .int .u64 0, .int .u8 0, .string (⟨#[]⟩ : ByteArray), .slice none 0 0] 67 ?_; intro gb_1 hg w_1 hbox hb; have BK_1 := a_ (hbox); have GE_1 := a_ (bs_0 hg HB); replace HB := hB_ (bl_ HB) hb; clear hb hbox hg) | ((with_reducible refine gk_ 60 ?_); refine gl_ (some 18) Try.func60 #[.string a0] ?_; (with_reducible refine (gafferref01_TakeNumber.calls k a0 t_1 t_2 t_3 _ A_2.out).mono ?_); rintro e w' ⟨rfl, ⟨nd, rfl⟩⟩; refine ⟨_, rfl, ?_⟩; (try (rw [drewN_self w_1]; generalize hq_ : World.drewN w_1 _ = w_1; have n_1 : Aside0 (w_1.heap[gb_1]? = some (.cells #[.int .u64 0, .int .u64 0, .int .u8 0, .string (⟨#[]⟩ : ByteArray), .slice none 0 0] 67 (0, 0))) := ⟨by rw [← hq_]; exact (bk_ BK_1)⟩; have n_2 : Aside0 (Below w.heap.size w w_1) := ⟨by rw [← hq_]; exact (bl_1 HB GE_1)⟩; clear BK_1 HB hq_; have BK_1 := n_1; have HB := n_2; clear n_1 n_2))) | ((with_reducible refine gk_ 60 ?_); refine gl_ (some 24) Try.func60 #[.string t_2] ?_; (with_reducible refine (gafferref01_TakeNumber.calls k t_2 t_4 t_5 t_6 _ A_4.out).mono ?_); rintro e w' ⟨rfl, ⟨nd, rfl⟩⟩; refine ⟨_, rfl, ?_⟩; (try (rw [drewN_self w_1]; generalize hq_ : World.drewN w_1 _ = w_1; have n_1 : Aside0 (w_1.heap[gb_1]? = some (.cells #[.int .u64 0, .int .u64 0, .int .u8 0, .string (⟨#[]⟩ : ByteArray), .slice none 0 0] 67 (0, 0))) := ⟨by rw [← hq_]; exact (bk_ BK_1)⟩; have n_2 : Aside0 (Below w.heap.size w w_1) := ⟨by rw [← hq_]; exact (bl_1 HB GE_1)⟩; clear BK_1 HB hq_; have BK_1 := n_1; have HB := n_2; clear n_1 n_2))) | ((with_reducible refine gk_ 60 ?_); refine gl_ (some 30) Try.func60 #[.string t_5] ?_; (with_reducible refine (gafferref01_TakeNumber.calls k t_5 t_7 t_8 t_9 _ A_6.out).mono ?_); rintro e w' ⟨rfl, ⟨nd, rfl⟩⟩; refine ⟨_, rfl, ?_⟩; (try (rw [drewN_self w_1]; generalize hq_ : World.drewN w_1 _ = w_1; have n_1 : Aside0 (w_1.heap[gb_1]? = some (.cells #[.int .u64 0, .int .u64 0, .int .u8 0, .string (⟨#[]⟩ : ByteArray), .slice none 0 0] 67 (0, 0))) := ⟨by rw [← hq_]; exact (bk_ BK_1)⟩; have n_2 : Aside0 (Below w.heap.size w w_1) := ⟨by rw [← hq_]; exact (bl_1 HB GE_1)⟩; clear BK_1 HB hq_; have BK_1 := n_1; have HB := n_2; clear n_1 n_2))) | ((with_reducible refine gk_ 83 ?_); refine gl_ (some 36) Try.func83 #[.string t_8] ?_; (with_reducible refine (gafferref01_TakeText.calls k t_8 t_10 t_11 t_12 _ A_8.out).mono ?_); rintro e w' ⟨rfl, ⟨nd, rfl⟩⟩; refine ⟨_, rfl, ?_⟩; (try (rw [drewN_self w_1]; generalize hq_ : World.drewN w_1 _ = w_1; have n_1 : Aside0 (w_1.heap[gb_1]? = some (.cells #[.int .u64 0, .int .u64 0, .int .u8 0, .string (⟨#[]⟩ : ByteArray), .slice none 0 0] 67 (0, 0))) := ⟨by rw [← hq_]; exact (bk_ BK_1)⟩; have n_2 : Aside0 (Below w.heap.size w w_1) := ⟨by rw [← hq_]; exact (bl_1 HB GE_1)⟩; clear BK_1 HB hq_; have BK_1 := n_1; have HB := n_2; clear n_1 n_2))) | ((with_reducible refine gk_ 89 ?_); refine gl_ (some 42) Try.func89 #[.string t_11] ?_; (with_reducible refine (gafferref03_TakeInts.calls k t_11 t_13 t_14 t_15 _ A_10.out).mono ?_); rintro e w_2 ⟨v_1, rfl, ho_1, hb⟩; refine ⟨_, rfl, ?_⟩; have HO_1 := a_ (Kd.R_lower ho_1 (below_size (bl_1 HB GE_1))); replace BK_1 := bB_ BK_1 hb; replace HB := hB_ (bl_1 HB GE_1) hb; (try clear hb); (try clear ho_1); obtain ⟨Ao_1, co_1, eo_1⟩ := Kd.R_slice HO_1.out; subst eo_1) | ((with_reducible refine gd_ 15 ?_); refine bx_ 15 #[.int .u64 0, .int .u64 0, .int .u8 0, .string (⟨#[]⟩ : ByteArray), .slice none 0 0] 67 ?_; intro gb_2 hg w_3 hbox hb; replace HO_1 := a_ (Kd.R_below (by refine rq_ ?_; exact HO_1.out) hb); have BK_2 := a_ (hbox); have GE_2 := a_ (bs_1 hg HB GE_1); replace HB := hB_ (bl_1 HB GE_1) hb; have NB_1 := nB_ hg BK_1; have NB_2 := nC_ hg BK_1; replace BK_1 := bB_ BK_1 hb; clear hb hbox hg; have hnb_1 := NB_2.out; have hnc_1 := NB_1.out; obtain ⟨_, _, _, _, _, _, _, _, _, _⟩ := c5_ BK_2; obtain ⟨_, _, _, _, _, _, _, _, _, _⟩ := c5_ BK_1))
     refine bodyPost_ret (results_ctt rfl _ _ gb_1 67 #[.int .u64 0, .int .u64 0, .int .u8 0, .string (⟨#[]⟩ : ByteArray), .slice none 0 0] (0, 0) _ rfl (bp_1 BK_1 NB_1) Try.underlying67 rfl (by kernel_rfl)) rfl ?_
     exact ⟨_, fz_, by first | exact Kd.R_nil _ _ _ _ _ | exact Kd.N_nil _ _ _ _ _ | exact Kd.V_nil _ _ _ _ _ | exact Kd.Q_nil _ _ _ _ _ | exact Kd.S_nil _ _ _ _ _, bl_2 HB GE_1 GE_2⟩)
  | (have _ := L1_
     go_wp2_with (first | ((with_reducible refine gd_ 2 ?_); refine bx_ 2 #[.int .u64 0, .int .u64 0, .int .u8 0, .string (⟨#[]⟩ : ByteArray), .slice none 0 0] 67 ?_; intro gb_1 hg w_1 hbox hb; have BK_1 := a_ (hbox); have GE_1 := a_ (bs_0 hg HB); replace HB := hB_ (bl_ HB) hb; clear hb hbox hg) | ((with_reducible refine gk_ 60 ?_); refine gl_ (some 18) Try.func60 #[.string a0] ?_; (with_reducible refine (gafferref01_TakeNumber.calls k a0 t_1 t_2 t_3 _ A_2.out).mono ?_); rintro e w' ⟨rfl, ⟨nd, rfl⟩⟩; refine ⟨_, rfl, ?_⟩; (try (rw [drewN_self w_1]; generalize hq_ : World.drewN w_1 _ = w_1; have n_1 : Aside0 (w_1.heap[gb_1]? = some (.cells #[.int .u64 0, .int .u64 0, .int .u8 0, .string (⟨#[]⟩ : ByteArray), .slice none 0 0] 67 (0, 0))) := ⟨by rw [← hq_]; exact (bk_ BK_1)⟩; have n_2 : Aside0 (Below w.heap.size w w_1) := ⟨by rw [← hq_]; exact (bl_1 HB GE_1)⟩; clear BK_1 HB hq_; have BK_1 := n_1; have HB := n_2; clear n_1 n_2))) | ((with_reducible refine gk_ 60 ?_); refine gl_ (some 24) Try.func60 #[.string t_2] ?_; (with_reducible refine (gafferref01_TakeNumber.calls k t_2 t_4 t_5 t_6 _ A_4.out).mono ?_); rintro e w' ⟨rfl, ⟨nd, rfl⟩⟩; refine ⟨_, rfl, ?_⟩; (try (rw [drewN_self w_1]; generalize hq_ : World.drewN w_1 _ = w_1; have n_1 : Aside0 (w_1.heap[gb_1]? = some (.cells #[.int .u64 0, .int .u64 0, .int .u8 0, .string (⟨#[]⟩ : ByteArray), .slice none 0 0] 67 (0, 0))) := ⟨by rw [← hq_]; exact (bk_ BK_1)⟩; have n_2 : Aside0 (Below w.heap.size w w_1) := ⟨by rw [← hq_]; exact (bl_1 HB GE_1)⟩; clear BK_1 HB hq_; have BK_1 := n_1; have HB := n_2; clear n_1 n_2))) | ((with_reducible refine gk_ 60 ?_); refine gl_ (some 30) Try.func60 #[.string t_5] ?_; (with_reducible refine (gafferref01_TakeNumber.calls k t_5 t_7 t_8 t_9 _ A_6.out).mono ?_); rintro e w' ⟨rfl, ⟨nd, rfl⟩⟩; refine ⟨_, rfl, ?_⟩; (try (rw [drewN_self w_1]; generalize hq_ : World.drewN w_1 _ = w_1; have n_1 : Aside0 (w_1.heap[gb_1]? = some (.cells #[.int .u64 0, .int .u64 0, .int .u8 0, .string (⟨#[]⟩ : ByteArray), .slice none 0 0] 67 (0, 0))) := ⟨by rw [← hq_]; exact (bk_ BK_1)⟩; have n_2 : Aside0 (Below w.heap.size w w_1) := ⟨by rw [← hq_]; exact (bl_1 HB GE_1)⟩; clear BK_1 HB hq_; have BK_1 := n_1; have HB := n_2; clear n_1 n_2))) | ((with_reducible refine gk_ 83 ?_); refine gl_ (some 36) Try.func83 #[.string t_8] ?_; (with_reducible refine (gafferref01_TakeText.calls k t_8 t_10 t_11 t_12 _ A_8.out).mono ?_); rintro e w' ⟨rfl, ⟨nd, rfl⟩⟩; refine ⟨_, rfl, ?_⟩; (try (rw [drewN_self w_1]; generalize hq_ : World.drewN w_1 _ = w_1; have n_1 : Aside0 (w_1.heap[gb_1]? = some (.cells #[.int .u64 0, .int .u64 0, .int .u8 0, .string (⟨#[]⟩ : ByteArray), .slice none 0 0] 67 (0, 0))) := ⟨by rw [← hq_]; exact (bk_ BK_1)⟩; have n_2 : Aside0 (Below w.heap.size w w_1) := ⟨by rw [← hq_]; exact (bl_1 HB GE_1)⟩; clear BK_1 HB hq_; have BK_1 := n_1; have HB := n_2; clear n_1 n_2))) | ((with_reducible refine gk_ 89 ?_); refine gl_ (some 42) Try.func89 #[.string t_11] ?_; (with_reducible refine (gafferref03_TakeInts.calls k t_11 t_13 t_14 _ _ A_10.out).mono ?_); rintro e w_2 ⟨v_1, rfl, ho_1, hb⟩; refine ⟨_, rfl, ?_⟩; have HO_1 := a_ (Kd.R_lower ho_1 (below_size (bl_1 HB GE_1))); replace BK_1 := bB_ BK_1 hb; replace HB := hB_ (bl_1 HB GE_1) hb; (try clear hb); (try clear ho_1); obtain ⟨Ao_1, co_1, eo_1⟩ := Kd.R_slice HO_1.out; subst eo_1) | ((with_reducible refine gd_ 15 ?_); refine bx_ 15 #[.int .u64 0, .int .u64 0, .int .u8 0, .string (⟨#[]⟩ : ByteArray), .slice none 0 0] 67 ?_; intro gb_2 hg w_3 hbox hb; replace HO_1 := a_ (Kd.R_below (by refine rq_ ?_; exact HO_1.out) hb); have BK_2 := a_ (hbox); have GE_2 := a_ (bs_1 hg HB GE_1); replace HB := hB_ (bl_1 HB GE_1) hb; have NB_1 := nB_ hg BK_1; have NB_2 := nC_ hg BK_1; replace BK_1 := bB_ BK_1 hb; clear hb hbox hg; have hnb_1 := NB_2.out; have hnc_1 := NB_1.out; obtain ⟨_, _, _, _, _, _, _, _, _, _⟩ := c5_ BK_2; obtain ⟨_, _, _, _, _, _, _, _, _, _⟩ := c5_ BK_1))
     refine bodyPost_ret (results_ctt rfl _ _ gb_1 67 #[.int .u64 0, .int .u64 0, .int .u8 0, .string (⟨#[]⟩ : ByteArray), .slice none 0 0] (0, 0) _ rfl (bp_1 BK_1 NB_1) Try.underlying67 rfl (by kernel_rfl)) rfl ?_
     exact ⟨_, fz_, by first | exact Kd.R_nil _ _ _ _ _ | exact Kd.N_nil _ _ _ _ _ | exact Kd.V_nil _ _ _ _ _ | exact Kd.Q_nil _ _ _ _ _ | exact Kd.S_nil _ _ _ _ _, bl_2 HB GE_1 GE_2⟩)
  | (have _ := L2_
     go_wp2_with (first | ((with_reducible refine gd_ 2 ?_); refine bx_ 2 #[.int .u64 0, .int .u64 0, .int .u8 0, .string (⟨#[]⟩ : ByteArray), .slice none 0 0] 67 ?_; intro gb_1 hg w_1 hbox hb; have BK_1 := a_ (hbox); have GE_1 := a_ (bs_0 hg HB); replace HB := hB_ (bl_ HB) hb; clear hb hbox hg) | ((with_reducible refine gk_ 60 ?_); refine gl_ (some 18) Try.func60 #[.string a0] ?_; (with_reducible refine (gafferref01_TakeNumber.calls k a0 t_1 t_2 t_3 _ A_2.out).mono ?_); rintro e w' ⟨rfl, ⟨nd, rfl⟩⟩; refine ⟨_, rfl, ?_⟩; (try (rw [drewN_self w_1]; generalize hq_ : World.drewN w_1 _ = w_1; have n_1 : Aside0 (w_1.heap[gb_1]? = some (.cells #[.int .u64 0, .int .u64 0, .int .u8 0, .string (⟨#[]⟩ : ByteArray), .slice none 0 0] 67 (0, 0))) := ⟨by rw [← hq_]; exact (bk_ BK_1)⟩; have n_2 : Aside0 (Below w.heap.size w w_1) := ⟨by rw [← hq_]; exact (bl_1 HB GE_1)⟩; clear BK_1 HB hq_; have BK_1 := n_1; have HB := n_2; clear n_1 n_2))) | ((with_reducible refine gk_ 60 ?_); refine gl_ (some 24) Try.func60 #[.string t_2] ?_; (with_reducible refine (gafferref01_TakeNumber.calls k t_2 t_4 t_5 t_6 _ A_4.out).mono ?_); rintro e w' ⟨rfl, ⟨nd, rfl⟩⟩; refine ⟨_, rfl, ?_⟩; (try (rw [drewN_self w_1]; generalize hq_ : World.drewN w_1 _ = w_1; have n_1 : Aside0 (w_1.heap[gb_1]? = some (.cells #[.int .u64 0, .int .u64 0, .int .u8 0, .string (⟨#[]⟩ : ByteArray), .slice none 0 0] 67 (0, 0))) := ⟨by rw [← hq_]; exact (bk_ BK_1)⟩; have n_2 : Aside0 (Below w.heap.size w w_1) := ⟨by rw [← hq_]; exact (bl_1 HB GE_1)⟩; clear BK_1 HB hq_; have BK_1 := n_1; have HB := n_2; clear n_1 n_2))) | ((with_reducible refine gk_ 60 ?_); refine gl_ (some 30) Try.func60 #[.string t_5] ?_; (with_reducible refine (gafferref01_TakeNumber.calls k t_5 t_7 t_8 t_9 _ A_6.out).mono ?_); rintro e w' ⟨rfl, ⟨nd, rfl⟩⟩; refine ⟨_, rfl, ?_⟩; (try (rw [drewN_self w_1]; generalize hq_ : World.drewN w_1 _ = w_1; have n_1 : Aside0 (w_1.heap[gb_1]? = some (.cells #[.int .u64 0, .int .u64 0, .int .u8 0, .string (⟨#[]⟩ : ByteArray), .slice none 0 0] 67 (0, 0))) := ⟨by rw [← hq_]; exact (bk_ BK_1)⟩; have n_2 : Aside0 (Below w.heap.size w w_1) := ⟨by rw [← hq_]; exact (bl_1 HB GE_1)⟩; clear BK_1 HB hq_; have BK_1 := n_1; have HB := n_2; clear n_1 n_2))) | ((with_reducible refine gk_ 83 ?_); refine gl_ (some 36) Try.func83 #[.string t_8] ?_; (with_reducible refine (gafferref01_TakeText.calls k t_8 t_10 t_11 t_12 _ A_8.out).mono ?_); rintro e w' ⟨rfl, ⟨nd, rfl⟩⟩; refine ⟨_, rfl, ?_⟩; (try (rw [drewN_self w_1]; generalize hq_ : World.drewN w_1 _ = w_1; have n_1 : Aside0 (w_1.heap[gb_1]? = some (.cells #[.int .u64 0, .int .u64 0, .int .u8 0, .string (⟨#[]⟩ : ByteArray), .slice none 0 0] 67 (0, 0))) := ⟨by rw [← hq_]; exact (bk_ BK_1)⟩; have n_2 : Aside0 (Below w.heap.size w w_1) := ⟨by rw [← hq_]; exact (bl_1 HB GE_1)⟩; clear BK_1 HB hq_; have BK_1 := n_1; have HB := n_2; clear n_1 n_2))) | ((with_reducible refine gk_ 89 ?_); refine gl_ (some 42) Try.func89 #[.string t_11] ?_; (with_reducible refine (gafferref03_TakeInts.calls k t_11 t_13 t_14 _ _ A_10.out).mono ?_); rintro e w_2 ⟨v_1, rfl, ho_1, hb⟩; refine ⟨_, rfl, ?_⟩; have HO_1 := a_ (Kd.R_lower ho_1 (below_size (bl_1 HB GE_1))); replace BK_1 := bB_ BK_1 hb; replace HB := hB_ (bl_1 HB GE_1) hb; (try clear hb); (try clear ho_1); obtain ⟨Ao_1, co_1, eo_1⟩ := Kd.R_slice HO_1.out; subst eo_1) | ((with_reducible refine gd_ 15 ?_); refine bx_ 15 #[.int .u64 0, .int .u64 0, .int .u8 0, .string (⟨#[]⟩ : ByteArray), .slice none 0 0] 67 ?_; intro gb_2 hg w_3 hbox hb; replace HO_1 := a_ (Kd.R_below (by refine rq_ ?_; exact HO_1.out) hb); have BK_2 := a_ (hbox); have GE_2 := a_ (bs_1 hg HB GE_1); replace HB := hB_ (bl_1 HB GE_1) hb; have NB_1 := nB_ hg BK_1; have NB_2 := nC_ hg BK_1; replace BK_1 := bB_ BK_1 hb; clear hb hbox hg; have hnb_1 := NB_2.out; have hnc_1 := NB_1.out; obtain ⟨_, _, _, _, _, _, _, _, _, _⟩ := c5_ BK_2) | (go_at_call 39; (with_reducible refine (gafferref03_Check.calls k t_1 t_4 ((t_7) % 256) t_10 _ _ t_13 t_16 _ ?side1 ?side2 A_1.out).mono ?_); (case side1 => refine (Kd.R_reads' (e := 3) (base := w.heap.size) (ok := fun k_ => True) (n := t_13.length) (c := co_1) ?_).2.2; exact (by refine rq_ ?_; exact (Kd.R_mono (Kd.R_far (p := ⟨gb_2, 4, none⟩) (Kd.R_far (p := ⟨gb_2, 3, none⟩) (Kd.R_far (p := ⟨gb_2, 2, none⟩) (Kd.R_far (p := ⟨gb_2, 1, none⟩) (Kd.R_far (p := ⟨gb_2, 0, none⟩) (Kd.R_types HO_1.out BK_2.out (by decide)) (fun _ hk => hk.2) (.int .u64 t_1)) (fun _ hk => hk.2) (.int .u64 t_4)) (fun _ hk => hk.2) (.int .u8 ((t_7) % 256))) (fun _ hk => hk.2) (.string t_10)) (fun _ hk => hk.2) (.slice Ao_1 t_13.length co_1)) (fun _ h_ => h_.1)))); (case side2 => exact (Kd.R_reads' HO_1.out).2.1); rintro e w_4 ⟨rfl, hb⟩; replace HO_1 := a_ (Kd.R_below (by refine rq_ ?_; exact (Kd.R_mono (Kd.R_far (p := ⟨gb_2, 4, none⟩) (Kd.R_far (p := ⟨gb_2, 3, none⟩) (Kd.R_far (p := ⟨gb_2, 2, none⟩) (Kd.R_far (p := ⟨gb_2, 1, none⟩) (Kd.R_far (p := ⟨gb_2, 0, none⟩) (Kd.R_types HO_1.out BK_2.out (by decide)) (fun _ hk => hk.2) (.int .u64 t_1)) (fun _ hk => hk.2) (.int .u64 t_4)) (fun _ hk => hk.2) (.int .u8 ((t_7) % 256))) (fun _ hk => hk.2) (.string t_10)) (fun _ hk => hk.2) (.slice Ao_1 t_13.length co_1)) (fun _ h_ => h_.1))) hb); replace BK_1 := a_ (blk_below (g := gb_1) (o := .cells #[.int .u64 0, .int .u64 0, .int .u8 0, .string (⟨#[]⟩ : ByteArray), .slice none 0 0] 67 (0, 0)) (bp_1 BK_1 NB_1) hb); replace BK_2 := a_ (blk_below (g := gb_2) (o := .cells #[.int .u64 t_1, .int .u64 t_4, .int .u8 ((t_7) % 256), .string t_10, .slice Ao_1 t_13.length co_1] 67 (0, 0)) (bp_0 BK_2) hb); replace HB := hB_ (bl_2 HB GE_1 GE_2) hb; (try clear hb); obtain ⟨_, _, _, _, _, _, _, _, _, _⟩ := c5_ BK_1))
     refine bodyPost_ret (results_ctt rfl _ _ gb_1 67 #[.int .u64 0, .int .u64 0, .int .u8 0, .string (⟨#[]⟩ : ByteArray), .slice none 0 0] (0, 0) _ rfl (bp_0 BK_1) Try.underlying67 rfl (by kernel_rfl)) rfl ?_
     exact ⟨_, fz_, by first | exact Kd.R_nil _ _ _ _ _ | exact Kd.N_nil _ _ _ _ _ | exact Kd.V_nil _ _ _ _ _ | exact Kd.Q_nil _ _ _ _ _ | exact Kd.S_nil _ _ _ _ _, bl_2 HB GE_1 GE_2⟩)
  | (have _ := L3_
     go_wp2_with (first | ((with_reducible refine gd_ 2 ?_); refine bx_ 2 #[.int .u64 0, .int .u64 0, .int .u8 0, .string (⟨#[]⟩ : ByteArray), .slice none 0 0] 67 ?_; intro gb_1 hg w_1 hbox hb; have BK_1 := a_ (hbox); have GE_1 := a_ (bs_0 hg HB); replace HB := hB_ (bl_ HB) hb; clear hb hbox hg) | ((with_reducible refine gk_ 60 ?_); refine gl_ (some 18) Try.func60 #[.string a0] ?_; (with_reducible refine (gafferref01_TakeNumber.calls k a0 t_1 t_2 t_3 _ A_2.out).mono ?_); rintro e w' ⟨rfl, ⟨nd, rfl⟩⟩; refine ⟨_, rfl, ?_⟩; (try (rw [drewN_self w_1]; generalize hq_ : World.drewN w_1 _ = w_1; have n_1 : Aside0 (w_1.heap[gb_1]? = some (.cells #[.int .u64 0, .int .u64 0, .int .u8 0, .string (⟨#[]⟩ : ByteArray), .slice none 0 0] 67 (0, 0))) := ⟨by rw [← hq_]; exact (bk_ BK_1)⟩; have n_2 : Aside0 (Below w.heap.size w w_1) := ⟨by rw [← hq_]; exact (bl_1 HB GE_1)⟩; clear BK_1 HB hq_; have BK_1 := n_1; have HB := n_2; clear n_1 n_2))) | ((with_reducible refine gk_ 60 ?_); refine gl_ (some 24) Try.func60 #[.string t_2] ?_; (with_reducible refine (gafferref01_TakeNumber.calls k t_2 t_4 t_5 t_6 _ A_4.out).mono ?_); rintro e w' ⟨rfl, ⟨nd, rfl⟩⟩; refine ⟨_, rfl, ?_⟩; (try (rw [drewN_self w_1]; generalize hq_ : World.drewN w_1 _ = w_1; have n_1 : Aside0 (w_1.heap[gb_1]? = some (.cells #[.int .u64 0, .int .u64 0, .int .u8 0, .string (⟨#[]⟩ : ByteArray), .slice none 0 0] 67 (0, 0))) := ⟨by rw [← hq_]; exact (bk_ BK_1)⟩; have n_2 : Aside0 (Below w.heap.size w w_1) := ⟨by rw [← hq_]; exact (bl_1 HB GE_1)⟩; clear BK_1 HB hq_; have BK_1 := n_1; have HB := n_2; clear n_1 n_2))) | ((with_reducible refine gk_ 60 ?_); refine gl_ (some 30) Try.func60 #[.string t_5] ?_; (with_reducible refine (gafferref01_TakeNumber.calls k t_5 t_7 t_8 t_9 _ A_6.out).mono ?_); rintro e w' ⟨rfl, ⟨nd, rfl⟩⟩; refine ⟨_, rfl, ?_⟩; (try (rw [drewN_self w_1]; generalize hq_ : World.drewN w_1 _ = w_1; have n_1 : Aside0 (w_1.heap[gb_1]? = some (.cells #[.int .u64 0, .int .u64 0, .int .u8 0, .string (⟨#[]⟩ : ByteArray), .slice none 0 0] 67 (0, 0))) := ⟨by rw [← hq_]; exact (bk_ BK_1)⟩; have n_2 : Aside0 (Below w.heap.size w w_1) := ⟨by rw [← hq_]; exact (bl_1 HB GE_1)⟩; clear BK_1 HB hq_; have BK_1 := n_1; have HB := n_2; clear n_1 n_2))) | ((with_reducible refine gk_ 83 ?_); refine gl_ (some 36) Try.func83 #[.string t_8] ?_; (with_reducible refine (gafferref01_TakeText.calls k t_8 t_10 t_11 t_12 _ A_8.out).mono ?_); rintro e w' ⟨rfl, ⟨nd, rfl⟩⟩; refine ⟨_, rfl, ?_⟩; (try (rw [drewN_self w_1]; generalize hq_ : World.drewN w_1 _ = w_1; have n_1 : Aside0 (w_1.heap[gb_1]? = some (.cells #[.int .u64 0, .int .u64 0, .int .u8 0, .string (⟨#[]⟩ : ByteArray), .slice none 0 0] 67 (0, 0))) := ⟨by rw [← hq_]; exact (bk_ BK_1)⟩; have n_2 : Aside0 (Below w.heap.size w w_1) := ⟨by rw [← hq_]; exact (bl_1 HB GE_1)⟩; clear BK_1 HB hq_; have BK_1 := n_1; have HB := n_2; clear n_1 n_2))) | ((with_reducible refine gk_ 89 ?_); refine gl_ (some 42) Try.func89 #[.string t_11] ?_; (with_reducible refine (gafferref03_TakeInts.calls k t_11 t_13 t_14 _ _ A_10.out).mono ?_); rintro e w_2 ⟨v_1, rfl, ho_1, hb⟩; refine ⟨_, rfl, ?_⟩; have HO_1 := a_ (Kd.R_lower ho_1 (below_size (bl_1 HB GE_1))); replace BK_1 := bB_ BK_1 hb; replace HB := hB_ (bl_1 HB GE_1) hb; (try clear hb); (try clear ho_1); obtain ⟨Ao_1, co_1, eo_1⟩ := Kd.R_slice HO_1.out; subst eo_1) | ((with_reducible refine gd_ 15 ?_); refine bx_ 15 #[.int .u64 0, .int .u64 0, .int .u8 0, .string (⟨#[]⟩ : ByteArray), .slice none 0 0] 67 ?_; intro gb_2 hg w_3 hbox hb; replace HO_1 := a_ (Kd.R_below (by refine rq_ ?_; exact HO_1.out) hb); have BK_2 := a_ (hbox); have GE_2 := a_ (bs_1 hg HB GE_1); replace HB := hB_ (bl_1 HB GE_1) hb; have NB_1 := nB_ hg BK_1; have NB_2 := nC_ hg BK_1; replace BK_1 := bB_ BK_1 hb; clear hb hbox hg; have hnb_1 := NB_2.out; have hnc_1 := NB_1.out; obtain ⟨_, _, _, _, _, _, _, _, _, _⟩ := c5_ BK_2) | (go_at_call 39; (with_reducible refine (gafferref03_Check.calls k t_1 t_4 ((t_7) % 256) t_10 _ _ t_13 t_16 _ ?side1 ?side2 A_1.out).mono ?_); (case side1 => refine (Kd.R_reads' (e := 3) (base := w.heap.size) (ok := fun k_ => True) (n := t_13.length) (c := co_1) ?_).2.2; exact (by refine rq_ ?_; exact (Kd.R_mono (Kd.R_far (p := ⟨gb_2, 4, none⟩) (Kd.R_far (p := ⟨gb_2, 3, none⟩) (Kd.R_far (p := ⟨gb_2, 2, none⟩) (Kd.R_far (p := ⟨gb_2, 1, none⟩) (Kd.R_far (p := ⟨gb_2, 0, none⟩) (Kd.R_types HO_1.out BK_2.out (by decide)) (fun _ hk => hk.2) (.int .u64 t_1)) (fun _ hk => hk.2) (.int .u64 t_4)) (fun _ hk => hk.2) (.int .u8 ((t_7) % 256))) (fun _ hk => hk.2) (.string t_10)) (fun _ hk => hk.2) (.slice Ao_1 t_13.length co_1)) (fun _ h_ => h_.1)))); (case side2 => exact (Kd.R_reads' HO_1.out).2.1); rintro e w_4 ⟨rfl, hb⟩; replace HO_1 := a_ (Kd.R_below (by refine rq_ ?_; exact (Kd.R_mono (Kd.R_far (p := ⟨gb_2, 4, none⟩) (Kd.R_far (p := ⟨gb_2, 3, none⟩) (Kd.R_far (p := ⟨gb_2, 2, none⟩) (Kd.R_far (p := ⟨gb_2, 1, none⟩) (Kd.R_far (p := ⟨gb_2, 0, none⟩) (Kd.R_types HO_1.out BK_2.out (by decide)) (fun _ hk => hk.2) (.int .u64 t_1)) (fun _ hk => hk.2) (.int .u64 t_4)) (fun _ hk => hk.2) (.int .u8 ((t_7) % 256))) (fun _ hk => hk.2) (.string t_10)) (fun _ hk => hk.2) (.slice Ao_1 t_13.length co_1)) (fun _ h_ => h_.1))) hb); replace BK_1 := a_ (blk_below (g := gb_1) (o := .cells #[.int .u64 0, .int .u64 0, .int .u8 0, .string (⟨#[]⟩ : ByteArray), .slice none 0 0] 67 (0, 0)) (bp_1 BK_1 NB_1) hb); replace BK_2 := a_ (blk_below (g := gb_2) (o := .cells #[.int .u64 t_1, .int .u64 t_4, .int .u8 ((t_7) % 256), .string t_10, .slice Ao_1 t_13.length co_1] 67 (0, 0)) (bp_0 BK_2) hb); replace HB := hB_ (bl_2 HB GE_1 GE_2) hb; (try clear hb); obtain ⟨_, _, _, _, _, _, _, _, _, _⟩ := c5_ BK_2; obtain ⟨_, _, _, _, _, _, _, _, _, _⟩ := c5_ BK_1))
     refine bodyPost_ret (results_ctt rfl _ _ gb_1 67 #[.int .u64 t_1, .int .u64 t_4, .int .u8 ((t_7) % 256), .string t_10, .slice Ao_1 t_13.length co_1] (0, 0) _ rfl (bp_0 BK_1) Try.underlying67 rfl (by kernel_rfl)) rfl ?_
     exact ⟨_, fz_, by refine rq_ ?_; exact Kd.R_mono (Kd.R_far (p := ⟨gb_1, 4, none⟩) (Kd.R_far (p := ⟨gb_1, 3, none⟩) (Kd.R_far (p := ⟨gb_1, 2, none⟩) (Kd.R_far (p := ⟨gb_1, 1, none⟩) (Kd.R_far (p := ⟨gb_1, 0, none⟩) (Kd.R_types HO_1.out BK_1.out (by decide)) (fun _ hk => hk.2) (.int .u64 t_1)) (fun _ hk => hk.2) (.int .u64 t_4)) (fun _ hk => hk.2) (.int .u8 ((t_7) % 256))) (fun _ hk => hk.2) (.string t_10)) (fun _ hk => hk.2) (.slice Ao_1 t_13.length co_1)) (fun _ hk => trivial), bl_2 HB GE_1 GE_2⟩)

def gafferref03_Decode.f (k : Nat) (a0 : ByteArray) : Option (Int × Int × Int × ByteArray × List Int × Int) := (gafferref03_Take.f k a0).bind fun bt348 => (if bt348.2.2.2.2.2.2 = true then (if bt348.2.2.2.2.2.1.toList = ([] : List UInt8) then (some (bt348.1, bt348.2.1, bt348.2.2.1, bt348.2.2.2.1, bt348.2.2.2.2.1, 0)) else (some (0, 0, 0, (⟨#[]⟩ : ByteArray), ([] : List Int), 4))) else (some (0, 0, 0, (⟨#[]⟩ : ByteArray), ([] : List Int), 4)))
theorem gafferref03_Decode.mono : ∀ a0 k, LeO (gafferref03_Decode.f k a0) (gafferref03_Decode.f (k + 1) a0) := by
 intro a0 k
 unfold gafferref03_Decode.f
 repeat' with_reducible first | apply gafferref03_Take.mono | apply LeO.refl | apply LeO.none | apply LeO.ite | refine LeO.bind ?_ (fun _ => ?_)
theorem gafferref03_Decode.calls (k : Nat) (a0 : ByteArray) (r1 : Int) (r2 : Int) (r3 : Int) (r4 : ByteArray) (r5 : List Int) (r6 : Int) (w : World) (h : gafferref03_Decode.f k a0 = some (r1, r2, r3, r4, r5, r6)) :
  Calls Try.prog 62 #[.string a0] w fun e w' => ∃ v4_ : Value, e = .returned (.tuple #[.agg #[.int .u64 r1, .int .u64 r2, .int .u8 r3, .string r4, v4_], .int .i64 r6]) ∧ Kd.R (Kd.int .i64) 3 w' w.heap.size (fun _ => True) v4_ r5 ∧ Below w.heap.size w w' := by
 have hu_1 := Try.underlying67
 have HB := a_ (Below.refl w.heap.size w)
 have H := h
 unfold gafferref03_Decode.f at H
 clear h
 obtain ⟨⟨t_1, t_2, t_3, t_4, t_5, t_6, t_7⟩, A_1, H⟩ := Option.bind_eq_some_iff.mp H
 try dsimp only at H
 have A_2 := a_ A_1
 clear A_1
 by_cases c_1 : t_7 = true
 rotate_left
 focus
  replace c_1 := Bool.eq_false_iff.mpr c_1
  subst c_1
  rw [if_neg (show ¬ (false = true) by decide)] at H
  simp only [Option.some.injEq, Prod.mk.injEq] at H
  obtain ⟨rfl, rfl, rfl, rfl, rfl, rfl⟩ := H
  have L0_ := trivial
 rotate_left
 focus
  subst c_1
  rw [if_pos rfl] at H
  by_cases c_2 : t_6.toList = ([] : List UInt8)
  rotate_left
  focus
   rw [if_neg c_2] at H
   have c_3 : (t_6.toList == ([] : List UInt8)) = false := beq_eq_false_iff_ne.mpr c_2
   have c_4 : (t_6.toList != ([] : List UInt8)) = true := bne_iff_ne.mpr c_2
   simp only [Option.some.injEq, Prod.mk.injEq] at H
   obtain ⟨rfl, rfl, rfl, rfl, rfl, rfl⟩ := H
   have L0_ := trivial
  rotate_left
  rw [if_pos c_2] at H
  have c_3 : (t_6.toList == ([] : List UInt8)) = true := beq_iff_eq.mpr c_2
  have c_4 : (t_6.toList != ([] : List UInt8)) = false := bne_eq_false_iff_eq.mpr c_2
  clear c_2
  simp only [Option.some.injEq, Prod.mk.injEq] at H
  obtain ⟨rfl, rfl, rfl, rfl, rfl, rfl⟩ := H
  have L1_ := trivial
 all_goals
  go_enter Try.func62, Try.ntmps62
  go_wp2_with (first | ((with_reducible refine gd_ 2 ?_); refine bx_ 2 #[.int .u64 0, .int .u64 0, .int .u8 0, .string (⟨#[]⟩ : ByteArray), .slice none 0 0] 67 ?_; intro gb_1 hg w_1 hbox hb; have BK_1 := a_ (hbox); have GE_1 := a_ (bs_0 hg HB); replace HB := hB_ (bl_ HB) hb; clear hb hbox hg) | ((with_reducible refine gk_ 82 ?_); refine gl_ (some 9) Try.func82 #[.string a0] ?_; (with_reducible refine (gafferref03_Take.calls k a0 t_1 t_2 t_3 t_4 t_5 t_6 _ _ A_2.out).mono ?_); rintro e w_2 ⟨v_1, rfl, ho_1, hb⟩; refine ⟨_, rfl, ?_⟩; have HO_1 := a_ (Kd.R_lower ho_1 (below_size (bl_1 HB GE_1))); replace BK_1 := bB_ BK_1 hb; replace HB := hB_ (bl_1 HB GE_1) hb; (try clear hb); (try clear ho_1)) | ((with_reducible refine gd_ 4 ?_); refine bx_ 4 #[.int .u64 0, .int .u64 0, .int .u8 0, .string (⟨#[]⟩ : ByteArray), .slice none 0 0] 67 ?_; intro gb_2 hg w_3 hbox hb; replace HO_1 := a_ (Kd.R_below (by refine rq_ ?_; exact HO_1.out) hb); have BK_2 := a_ (hbox); have GE_2 := a_ (bs_1 hg HB GE_1); replace HB := hB_ (bl_1 HB GE_1) hb; have NB_1 := nB_ hg BK_1; have NB_2 := nC_ hg BK_1; replace BK_1 := bB_ BK_1 hb; clear hb hbox hg; have hnb_1 := NB_2.out; have hnc_1 := NB_1.out; obtain ⟨_, _, _, _, _, _, _, _, _, _⟩ := c5_ BK_2; obtain ⟨Ao_1, co_1, eo_1⟩ := Kd.R_slice HO_1.out; subst eo_1; obtain ⟨_, _, _, _, _, _, _, _, _, _⟩ := c5_ BK_1))
  first
  | (have _ := L0_
     refine bodyPost_ret (results_ct rfl _ _ gb_1 67 #[.int .u64 0, .int .u64 0, .int .u8 0, .string (⟨#[]⟩ : ByteArray), .slice none 0 0] (0, 0) _ rfl (bp_1 BK_1 NB_1) Try.underlying67 rfl (by kernel_rfl)) rfl ?_
     exact ⟨_, fz_, by first | exact Kd.R_nil _ _ _ _ _ | exact Kd.N_nil _ _ _ _ _ | exact Kd.V_nil _ _ _ _ _ | exact Kd.Q_nil _ _ _ _ _ | exact Kd.S_nil _ _ _ _ _, bl_2 HB GE_1 GE_2⟩)
  | (have _ := L1_
     refine bodyPost_ret (results_ct rfl _ _ gb_1 67 #[.int .u64 t_1, .int .u64 t_2, .int .u8 t_3, .string t_4, .slice Ao_1 t_5.length co_1] (0, 0) _ rfl (bp_1 BK_1 NB_1) Try.underlying67 rfl (by kernel_rfl)) rfl ?_
     exact ⟨_, fz_, by refine rq_ ?_; exact Kd.R_mono (Kd.R_far (p := ⟨gb_1, 4, none⟩) (Kd.R_far (p := ⟨gb_1, 3, none⟩) (Kd.R_far (p := ⟨gb_1, 2, none⟩) (Kd.R_far (p := ⟨gb_1, 1, none⟩) (Kd.R_far (p := ⟨gb_1, 0, none⟩) (Kd.R_far (p := ⟨gb_2, 4, none⟩) (Kd.R_far (p := ⟨gb_2, 3, none⟩) (Kd.R_far (p := ⟨gb_2, 2, none⟩) (Kd.R_far (p := ⟨gb_2, 1, none⟩) (Kd.R_far (p := ⟨gb_2, 0, none⟩) (Kd.R_types (Kd.R_types HO_1.out BK_2.out (by decide)) BK_1.out (by decide)) (fun _ hk => hk.1.2) (.int .u64 t_1)) (fun _ hk => hk.1.2) (.int .u64 t_2)) (fun _ hk => hk.1.2) (.int .u8 t_3)) (fun _ hk => hk.1.2) (.string t_4)) (fun _ hk => hk.1.2) (.slice Ao_1 t_5.length co_1)) (fun _ hk => hk.2) (.int .u64 t_1)) (fun _ hk => hk.2) (.int .u64 t_2)) (fun _ hk => hk.2) (.int .u8 t_3)) (fun _ hk => hk.2) (.string t_4)) (fun _ hk => hk.2) (.slice Ao_1 t_5.length co_1)) (fun _ hk => trivial), bl_2 HB GE_1 GE_2⟩)

def gafferref09_Bag_Text.f (k : Nat) (s0_0 : ByteArray) (s0_1 : Bool) : Option (ByteArray × ByteArray × Bool) := (gafferref01_TakeText.f k s0_0).bind fun bt358 => (if bt358.2.2 = 0 then (some (bt358.1, bt358.2.1, s0_1)) else (some (bt358.1, bt358.2.1, true)))
theorem gafferref09_Bag_Text.mono : ∀ a0 a1 k, LeO (gafferref09_Bag_Text.f k a0 a1) (gafferref09_Bag_Text.f (k + 1) a0 a1) := by
 intro a0 a1 k
 unfold gafferref09_Bag_Text.f
 repeat' with_reducible first | apply gafferref01_TakeText.mono | apply LeO.refl | apply LeO.none | apply LeO.ite | refine LeO.bind ?_ (fun _ => ?_)
theorem gafferref09_Bag_Text.calls (k : Nat) (g : Nat) (s0_0 : ByteArray) (s0_1 : Bool) (r1 : ByteArray) (r2 : ByteArray) (r3 : Bool) (w0 w : World) (hI : IsS58 w0 w g s0_0 s0_1) (hB : Below w0.heap.size w0 w) (h : gafferref09_Bag_Text.f k s0_0 s0_1 = some (r1, r2, r3)) :
  Calls Try.prog 63 #[.pointer (some ⟨g, 0, none⟩)] w fun e w' => e = .returned (.string r1) ∧ IsS58 w0 w' g r2 r3 ∧ Below w0.heap.size w0 w' ∧ KeepBut w w' g none := by
 have HI_1 := a_ hI
 have HK := a_ (KeepBut.refl w g none)
 have HL := a_ hB.size
 clear hI
 have HW_1 := a_ hB.size
 have HB := a_ hB
 clear hB
 have H := h
 unfold gafferref09_Bag_Text.f at H
 clear h
 obtain ⟨⟨t_1, t_2, t_3⟩, A_1, H⟩ := Option.bind_eq_some_iff.mp H
 try dsimp only at H
 have A_2 := a_ A_1
 clear A_1
 by_cases c_1 : t_3 = 0
 rotate_left
 focus
  rw [if_neg c_1] at H
  have c_2 : (t_3 == 0) = false := beq_eq_false_iff_ne.mpr c_1
  have c_3 : (t_3 != 0) = true := bne_iff_ne.mpr c_1
  simp only [Option.some.injEq, Prod.mk.injEq] at H
  obtain ⟨rfl, rfl, rfl⟩ := H
  obtain ⟨HGz_1, hgz_1⟩ := HI_1.out
  have hcz_1 := cellS58_0 HGz_1
  have hcz_2 := cellS58_1 HGz_1
  have hfz_1 := blk_frozen HGz_1 0
  have hfz_2 := blk_frozen HGz_1 1
  clear HGz_1 hgz_1
 rotate_left
 rw [if_pos c_1] at H
 have c_2 : (t_3 == 0) = true := beq_iff_eq.mpr c_1
 have c_3 : (t_3 != 0) = false := bne_eq_false_iff_eq.mpr c_1
 clear c_1
 simp only [Option.some.injEq, Prod.mk.injEq] at H
 obtain ⟨rfl, rfl, rfl⟩ := H
 obtain ⟨HGz_1, hgz_1⟩ := HI_1.out
 have hcz_1 := cellS58_0 HGz_1
 have hcz_2 := cellS58_1 HGz_1
 have hfz_1 := blk_frozen HGz_1 0
 have hfz_2 := blk_frozen HGz_1 1
 clear HGz_1 hgz_1
 all_goals
  go_enter Try.func63, Try.ntmps63
  go_wp2_with ((with_reducible refine gk_ 83 ?_); refine gl_ (some 11) Try.func83 #[.string s0_0] ?_; (with_reducible refine (gafferref01_TakeText.calls k s0_0 t_1 t_2 t_3 _ A_2.out).mono ?_); rintro e w' ⟨rfl, ⟨nd, rfl⟩⟩; refine ⟨_, rfl, ?_⟩; (try (rw [drewN_self w]; generalize hq_ : World.drewN w _ = w_1; have n_1 : Aside0 (IsS58 w0 w_1 g s0_0 s0_1) := ⟨by rw [← hq_]; exact (hi58a_ HI_1)⟩; have n_2 : Aside0 (KeepBut w w_1 g none) := ⟨by rw [← hq_]; exact (hk0_ HK)⟩; have n_3 : Aside0 (Below w0.heap.size w0 w_1) := ⟨by rw [← hq_]; exact (hb1_ HB (IsS58.ge HI_1.out))⟩; clear HI_1 HK HB hq_; have HI_1 := n_1; have HK := n_2; have HB := n_3; clear n_1 n_2 n_3; obtain ⟨HGz_1, hgz_1⟩ := HI_1.out; have hcz_1 := cellS58_0 HGz_1; have hcz_2 := cellS58_1 HGz_1; have hfz_1 := blk_frozen HGz_1 0; have hfz_2 := blk_frozen HGz_1 1; clear HGz_1 hgz_1)))
  go_ret
  exact ⟨fz_, hi58a_ HI_1, hb1_ HB (IsS58.ge HI_1.out), hk0_ HK⟩

end Go.Proofs.Ytcdibodjkdoknaa.PM
