-- Written for this claim by a program of this session. Lean checks it.
import Derived.Test.YtpdacpopkegecaaPAx0
import Derived.Test.YtpdacpopkegecaaPAx4
import Derived.Test.YtpdacpopkegecaaPAx8
import Derived.Test.YtpdacpopkegecaaPAx13
namespace Go.Proofs.Ytpdacpopkegecaa.PA
open Go.RowKit Go.Proofs.YtpdacpopkegecaaW.PrintWords Go.Proofs.YtpdacpopkegecaaW.PrintLast Go.Proofs.YtpdacpopkegecaaW.PrintMore Go.Proofs.Ytpdacpopkegecaa.Sh Go.Proofs.Ytpdacpopkegecaa.Op
attribute [local go_sem] max2_int min2_int max_two min_two max_three min_three max_four min_four   -- for this text's walks alone
set_option linter.unusedVariables false
set_option linter.unusedSimpArgs false

/-! ### disk_Names: function 29 -/
def disk_Names.l0 : Nat → ByteArray → List ByteArray → List (S35) → Int → Int → Option (List ByteArray × Int)
 | 0, _, _, _, _, _ => none
 | k + 1, x1, x7, x16, x17, x18 => if x18 < x17 then (if 0 ≤ x18 then (if x18 < (x16.length : Int) then ((strings_HasPrefix.f ((rd_T35 x16 x18).f0) x1).bind fun t517 => (if t517 = true then (if x7.length < 8796093022208 then (disk_Names.l0 k x1 (x7 ++ [(rd_T35 x16 x18).f0]) x16 x17 (wrap64 (x18 + 1))) else (none)) else (disk_Names.l0 k x1 x7 x16 x17 (wrap64 (x18 + 1))))) else (none)) else (none)) else (some (x7, 0))
def disk_Names.f (k : Nat) (l0_0 : List (S35)) (a0_1 : Bool) (a0_2 : Int) (a1 : ByteArray) : Option (List ByteArray × Int) := (disk_asked.f k l0_0 a0_1 a0_2).bind fun t514 => (if t514 = 0 then (disk_Names.l0 k a1 ([] : List ByteArray) l0_0 (l0_0.length : Int) 0) else (some (([] : List ByteArray), t514)))
theorem disk_Names.mono_l : ∀ k, (∀ y0 y1 y2 y3 y4, LeO (disk_Names.l0 k y0 y1 y2 y3 y4) (disk_Names.l0 (k + 1) y0 y1 y2 y3 y4))
 | 0 => fun _ _ _ _ _ r h => by simp [disk_Names.l0] at h
 | k + 1 => by
  have ih0 := disk_Names.mono_l k
  ·intro y0 y1 y2 y3 y4
   unfold disk_Names.l0
   repeat' first
   | (with_reducible exact ih0 _ _ _ _ _)
   | (with_reducible exact disk_asked.mono _ _ _ _)
   | (with_reducible exact LeO.refl _)
   | (with_reducible exact LeO.none _)
   | (with_reducible refine LeO.ite ?_ ?_)
   | (with_reducible refine LeO.bind ?_ (fun _ => ?_))
   | exact ih0 _ _ _ _ _
   | exact disk_asked.mono _ _ _ _
   | exact LeO.none _
   | refine LeO.ite ?_ ?_
   | refine LeO.bind ?_ (fun _ => ?_)
theorem disk_Names.mono : ∀ a0 a1 a2 a3 k, LeO (disk_Names.f k a0 a1 a2 a3) (disk_Names.f (k + 1) a0 a1 a2 a3) := by
 intro a0 a1 a2 a3 k
 have ih0 := disk_Names.mono_l k
 unfold disk_Names.f
 repeat' first
   | (with_reducible exact ih0 _ _ _ _ _)
   | (with_reducible exact disk_asked.mono _ _ _ _)
   | (with_reducible exact LeO.refl _)
   | (with_reducible exact LeO.none _)
   | (with_reducible refine LeO.ite ?_ ?_)
   | (with_reducible refine LeO.bind ?_ (fun _ => ?_))
   | exact ih0 _ _ _ _ _
   | exact disk_asked.mono _ _ _ _
   | exact LeO.none _
   | refine LeO.ite ?_ ?_
   | refine LeO.bind ?_ (fun _ => ?_)
set_option maxHeartbeats 80000000 in
set_option maxRecDepth 100000 in
theorem disk_Names.calls (k : Nat) (A0_0 : Option Addr) (c0_0 : Nat) (l0_0 : List (S35)) (a0_1 : Bool) (a0_2 : Int) (a1 : ByteArray) (r1 : List ByteArray) (r2 : Int) (w : World) (hr0_0 : Kd.C k35 w A0_0 l0_0.length l0_0) (hc0_0 : l0_0.length ≤ c0_0) (h : disk_Names.f k l0_0 a0_1 a0_2 a1 = some (r1, r2)) :
  Calls Try.prog 29 #[.agg #[.slice A0_0 l0_0.length c0_0, .bool a0_1, .int .i64 a0_2], .string a1] w fun e w' => ∃ v0_ : Value, e = .returned (.tuple #[v0_, .int .i64 r2]) ∧ Kd.R Kd.string 9 w' w.heap.size (fun _ => True) v0_ r1 ∧ Below w.heap.size w w' := by
 have hu24 := Try.underlying24
 have hu35 := Try.underlying35
 have HR0_0 := Aside0.mk hr0_0
 have HC0_0 := Aside0.mk hc0_0
 clear hr0_0 hc0_0
 have HB := Aside0.mk (Below.refl w.heap.size w)
 have H : ((disk_asked.f k l0_0 a0_1 a0_2).bind fun t514 => (if t514 = 0 then (disk_Names.l0 k a1 ([] : List ByteArray) l0_0 (l0_0.length : Int) 0) else (some (([] : List ByteArray), t514)))) = some (r1, r2) := h
 clear h
 replace H := Option.bind_eq_some_iff.mp H
 obtain ⟨t514, A30, H⟩ := H
 replace H : (if t514 = 0 then (disk_Names.l0 k a1 ([] : List ByteArray) l0_0 (l0_0.length : Int) 0) else (some (([] : List ByteArray), t514))) = some (r1, r2) := H
 have A3 := Aside0.mk A30
 clear A30
 by_cases c4 : t514 = 0
 ·rw [if_pos c4] at H
  have c4b0 : (t514 == 0) = true := beq_iff_eq.mpr c4
  have c4b1 : (t514 != 0) = false := bne_eq_false_iff_eq.mpr c4
  clear c4
  have H' := Aside0.mk H
  clear H
  go_enter Try.func29, Try.ntmps29
  go_wp2_with (first | ((with_reducible refine gate_dst (N := 2) rfl ?_); refine box_event ?hg (N := 2) ?hd (cs := #[.slice A0_0 l0_0.length c0_0, .bool a0_1, .int .i64 a0_2]) (t := 24) ?hr ?_; (case hd => rfl); (case hg => rfl); (case hr => first | (go_simp; done) | (go_simp; rfl)); intro gb513 hg w5 hbox hb; have BK513 := Aside0.mk (hbox); have GW513 := Aside0.mk (bs_0 hg HB); have GE513 := Aside0.mk (bs_0 hg HB); replace HB := Aside0.mk (below_step (bl_ HB) hb); clear hb hbox hg; obtain ⟨hcz6_0, hcz6_1, hcz6_2, hfz6_0, hfz6_1, hfz6_2⟩ := c3_ BK513) | ((with_reducible refine gate_callee (f := 33) rfl ?_); refine goesL_ (some 11) rfl rfl Try.func33 (by kernel_rfl) rfl #[.agg #[.slice A0_0 l0_0.length c0_0, .bool a0_1, .int .i64 a0_2]] rfl (ar_) ?_; (with_reducible refine (disk_asked.calls k _ _ l0_0 a0_1 a0_2 t514 _ ?side1 ?side2 A3.out).mono ?_); (case side1 => repeat (first | exact (Kd.C_below HR0_0.out HB.out) | (with_reducible refine Kd.C_alloc ?_ _) | (with_reducible refine Kd.C_drewN ?_ _) | (with_reducible refine Kd.C_drew ?_))); (case side2 => exact HC0_0.out); rintro e w7 ⟨rfl, hb⟩; refine ⟨_, rfl, ?_⟩; replace BK513 := Aside0.mk (bb_ BK513 hb); replace HB := Aside0.mk (below_step (bl_1 HB GE513) hb); (try clear hb); (try clear hb2); (try clear hk); (try clear hi); obtain ⟨hcz8_0, hcz8_1, hcz8_2, hfz8_0, hfz8_1, hfz8_2⟩ := c3_ BK513))
  go_loopg [7, 18] k (fun kq v7 v18 w' => ∃ (x7_1 : List ByteArray) (x18_1 : Int), v18 = .int .i64 x18_1 ∧ Aside0 (disk_Names.l0 kq a1 x7_1 l0_0 (l0_0.length : Int) x18_1 = some (r1, r2)) ∧ Aside0 (kq ≤ k) ∧ Aside0 (Kd.R Kd.string 9 w' w.heap.size (fun _ => True) v7 x7_1) ∧ Aside0 (w'.heap[gb513]? = some (.cells #[(.slice A0_0 l0_0.length c0_0), .bool a0_1, .int .i64 a0_2] 24 (0, 0))) ∧ Aside0 (Below w.heap.size w w'))
  case atStart => exact ⟨(([] : List ByteArray)), (0), (by first | rfl | (simp; done) | (simp [*]; done)), H', ⟨Nat.le_refl _⟩, ⟨by first | exact Kd.R_nil _ _ _ _ _ | exact Kd.N_nil _ _ _ _ _ | exact Kd.V_nil _ _ _ _ _ | exact Kd.Q_nil _ _ _ _ _ | exact Kd.S_nil _ _ _ _ _⟩, ⟨bk_ BK513⟩, ⟨bl_1 HB GE513⟩⟩
  case round =>
   clear H'
   try clear c2
   try clear p2
   try clear c3
   try clear c4
   try clear c4b0
   try clear c4b1
   try clear hcz6_0
   try clear hcz6_1
   try clear hcz6_2
   try clear hcz8_0
   try clear hcz8_1
   try clear hcz8_2
   try clear hfz6_0
   try clear hfz6_1
   try clear hfz6_2
   try clear hfz8_0
   try clear hfz8_1
   try clear hfz8_2
   obtain ⟨x7_1, x18_1, rfl, HA, HK1, HO_7, BK513, HB⟩ := hrel
   cases gk with
   | zero => exact absurd HA.out (by simp [disk_Names.l0])
   | succ k1 =>
    have H := HA.out
    clear HA
    simp only [disk_Names.l0] at H
    by_cases c9 : x18_1 < (l0_0.length : Int)
    ·rw [if_pos c9] at H
     have c9b0 : decide (x18_1 < (l0_0.length : Int)) = true := decide_eq_true c9
     clear c9
     by_cases c10 : 0 ≤ x18_1
     ·rw [if_pos c10] at H
      have c10b0 : decide (0 ≤ x18_1) = true := decide_eq_true c10
      clear c10
      by_cases c11 : x18_1 < (l0_0.length : Int)
      ·rw [if_pos c11] at H
       have c11b0 : decide (x18_1 < (l0_0.length : Int)) = true := decide_eq_true c11
       clear c11
       replace H := Option.bind_eq_some_iff.mp H
       obtain ⟨t517, A120, H⟩ := H
       replace H : (if t517 = true then (if x7_1.length < 8796093022208 then (disk_Names.l0 k1 a1 (x7_1 ++ [(rd_T35 l0_0 x18_1).f0]) l0_0 (l0_0.length : Int) (wrap64 (x18_1 + 1))) else (none)) else (disk_Names.l0 k1 a1 x7_1 l0_0 (l0_0.length : Int) (wrap64 (x18_1 + 1)))) = some (r1, r2) := H
       have A12 := Aside0.mk A120
       clear A120
       by_cases c13 : t517 = true
       ·subst c13
        have H1 : (if x7_1.length < 8796093022208 then (disk_Names.l0 k1 a1 (x7_1 ++ [(rd_T35 l0_0 x18_1).f0]) l0_0 (l0_0.length : Int) (wrap64 (x18_1 + 1))) else (none)) = some (r1, r2) := by rw [if_pos rfl] at H; exact H
        clear H
        have H := H1
        clear H1
        by_cases c14 : x7_1.length < 8796093022208
        ·rw [if_pos c14] at H
         have LMc14 := Aside0.mk c14
         clear c14
         obtain ⟨y518, hy518⟩ : ∃ y_ : List ByteArray, y_ = (x7_1 ++ [(rd_T35 l0_0 x18_1).f0]) := ⟨_, rfl⟩
         replace H : (disk_Names.l0 k1 a1 y518 l0_0 (l0_0.length : Int) (wrap64 (x18_1 + 1))) = some (r1, r2) := by first | (rw [hy518]; with_reducible exact H) | (have H2_ := (Option.bind_some _ _).symm.trans H; rw [hy518]; with_reducible exact H2_) | (have H2_ := (Option.bind_some _ _).symm.trans H; with_reducible exact H2_) | with_reducible exact H | (rw [hy518]; exact H) | exact H
         have Ny518 := Aside0.mk hy518
         clear hy518
         have H' := Aside0.mk H
         clear H
         have p515 : 0 ≤ (x18_1 : Int) := of_decide_eq_true (by first | (with_reducible assumption) | assumption)
         have q515 : x18_1 < (l0_0.length : Int) := of_decide_eq_true (by first | (with_reducible assumption) | assumption)
         obtain ⟨ad515, e515, hx515_0, hx515_1, hx515_2⟩ := at_T35 HR0_0.out x18_1 p515 q515
         cases e515
         replace hx515_0 := (HB.out.cell (World.block_lt_of_cell? w _ hx515_0)).trans hx515_0
         replace hx515_1 := (HB.out.cell (World.block_lt_of_cell? w _ hx515_1)).trans hx515_1
         replace hx515_2 := (HB.out.cell (World.block_lt_of_cell? w _ hx515_2)).trans hx515_2
         replace p515 := eq_true p515
         replace q515 := eq_true q515
         go_wp2_with (first | ((with_reducible refine gate_dst (N := 9) rfl ?_); refine box_event ?hg (N := 9) ?hd (cs := #[.string (⟨#[]⟩ : ByteArray), .string (⟨#[]⟩ : ByteArray), .int .i64 0]) (t := 35) ?hr ?_; (case hd => rfl); (case hg => rfl); (case hr => first | (go_simp; done) | (go_simp; rfl)); intro gb516 hg w15 hbox hb; replace HO_7 := Aside0.mk (Kd.R_below (by (with_reducible repeat (first | apply Kd.R_alloc | apply Kd.R_drewN | apply Kd.R_drew)); exact HO_7.out) hb); have BK516 := Aside0.mk (hbox); have GW516 := Aside0.mk (bs_1 hg HB GE513); have GE516 := Aside0.mk (bs_1 hg HB GE513); replace HB := Aside0.mk (below_step (bl_1 HB GE513) hb); have NB513_516 := Aside0.mk (nb_ hg BK513); have NB516_513 := Aside0.mk (nc_ hg BK513); replace BK513 := Aside0.mk (bb_ BK513 hb); clear hb hbox hg; have hnb16 := NB516_513.out; have hnc16 := NB513_516.out; obtain ⟨hcz17_0, hcz17_1, hcz17_2, hfz17_0, hfz17_1, hfz17_2⟩ := c3_ BK516) | ((with_reducible refine gate_callee (f := 43) rfl ?_); refine goesL_ (some 25) rfl rfl Try.func43 (by kernel_rfl) rfl #[.string ((rd_T35 l0_0 x18_1).f0), .string a1] rfl (ar_) ?_; (with_reducible refine (strings_HasPrefix.calls ((rd_T35 l0_0 x18_1).f0) a1 true _ A12.out).mono ?_); rintro e w' ⟨rfl, ⟨nd, rfl⟩⟩; refine ⟨_, rfl, ?_⟩) | ((with_reducible refine gate_builtin (b := .append) (xs := #[.tmp 26, .tmp 29]) rfl ?_); at_builtin; refine Kd.R_append Kd.string (w0 := w) w.heap.size rfl (.tmp 26) (.tmp 29) 45 9 (.string ⟨#[]⟩) 16 rfl Try.underlying45 info9 rfl (by decide) (by omega) u7 x7_1 ((rd_T35 l0_0 x18_1).f0) [.string ((rd_T35 l0_0 x18_1).f0)] (fun _ => True) (fun _ => False) rfl (by first | (go_simp; done) | (go_simp; rfl)) ?aP (fun _ hk => hk.elim) ?aF ?aO ?aB ?aS ?aL ?_; (case aP => exact rfl); (case aB => exact (bl_2 HB GE513 GE516)); (case aF => exact (fun _ _ => trivial)); (case aO => exact (by (with_reducible repeat (first | apply Kd.R_alloc | apply Kd.R_drewN | apply Kd.R_drew)); exact Kd.R_mono (Kd.R_far (p := ⟨gb516, 2, none⟩) (Kd.R_far (p := ⟨gb516, 1, none⟩) (Kd.R_far (p := ⟨gb516, 0, none⟩) (Kd.R_types HO_7.out BK516.out (by decide)) (fun _ hk => hk.2) (.string ((rd_T35 l0_0 x18_1).f0))) (fun _ hk => hk.2) (.string ((rd_T35 l0_0 x18_1).f1))) (fun _ hk => hk.2) (.int .i64 ((rd_T35 l0_0 x18_1).f2))) (fun _ hk => trivial))); (case aS => exact (below_size (bl_2 HB GE513 GE516))); (case aL => have := LMc14.out; omega); intro v519 w18 ho hb hg hat; rw [← Ny518.out] at ho; replace BK513 := Aside0.mk (blk_grown (g := gb513) (o := .cells #[.slice (some ad515) l0_0.length c0_0, .bool a0_1, .int .i64 a0_2] 24 (0, 0)) (bp_1 BK513 NB513_516) hg (Kd.R_ne HO_7.out BK513.out (by decide))); replace BK516 := Aside0.mk (blk_grown (g := gb516) (o := .cells #[.string ((rd_T35 l0_0 x18_1).f0), .string ((rd_T35 l0_0 x18_1).f1), .int .i64 ((rd_T35 l0_0 x18_1).f2)] 35 (0, 0)) (bp_0 BK516) hg (Kd.R_ne HO_7.out BK516.out (by decide))); replace HB := Aside0.mk (hb); have HO520 := Aside0.mk (ho); clear HO_7; clear ho hb hg hat))
         go_roundg k1
         case measure => have := HK1.out; omega
         case rel => exact ⟨(y518), (wrap64 (x18_1 + 1)), (by first | rfl | (simp; done) | (simp [*]; done)), H', ⟨by have := HK1.out; omega⟩, ⟨by (with_reducible repeat (first | apply Kd.R_alloc | apply Kd.R_drewN | apply Kd.R_drew)); exact HO520.out⟩, ⟨bk_ BK513⟩, ⟨bl_2 HB GE513 GE516⟩⟩
        ·rw [if_neg c14] at H
         exact absurd H (by simp)
       ·replace c13 := Bool.eq_false_iff.mpr c13
        subst c13
        have H1 : (disk_Names.l0 k1 a1 x7_1 l0_0 (l0_0.length : Int) (wrap64 (x18_1 + 1))) = some (r1, r2) := by rw [if_neg (show ¬ (false = true) by decide)] at H; exact H
        clear H
        have H := H1
        clear H1
        have H' := Aside0.mk H
        clear H
        have p515 : 0 ≤ (x18_1 : Int) := of_decide_eq_true (by first | (with_reducible assumption) | assumption)
        have q515 : x18_1 < (l0_0.length : Int) := of_decide_eq_true (by first | (with_reducible assumption) | assumption)
        obtain ⟨ad515, e515, hx515_0, hx515_1, hx515_2⟩ := at_T35 HR0_0.out x18_1 p515 q515
        cases e515
        replace hx515_0 := (HB.out.cell (World.block_lt_of_cell? w _ hx515_0)).trans hx515_0
        replace hx515_1 := (HB.out.cell (World.block_lt_of_cell? w _ hx515_1)).trans hx515_1
        replace hx515_2 := (HB.out.cell (World.block_lt_of_cell? w _ hx515_2)).trans hx515_2
        replace p515 := eq_true p515
        replace q515 := eq_true q515
        go_wp2_with (first | ((with_reducible refine gate_dst (N := 9) rfl ?_); refine box_event ?hg (N := 9) ?hd (cs := #[.string (⟨#[]⟩ : ByteArray), .string (⟨#[]⟩ : ByteArray), .int .i64 0]) (t := 35) ?hr ?_; (case hd => rfl); (case hg => rfl); (case hr => first | (go_simp; done) | (go_simp; rfl)); intro gb516 hg w19 hbox hb; replace HO_7 := Aside0.mk (Kd.R_below (by (with_reducible repeat (first | apply Kd.R_alloc | apply Kd.R_drewN | apply Kd.R_drew)); exact HO_7.out) hb); have BK516 := Aside0.mk (hbox); have GW516 := Aside0.mk (bs_1 hg HB GE513); have GE516 := Aside0.mk (bs_1 hg HB GE513); replace HB := Aside0.mk (below_step (bl_1 HB GE513) hb); have NB513_516 := Aside0.mk (nb_ hg BK513); have NB516_513 := Aside0.mk (nc_ hg BK513); replace BK513 := Aside0.mk (bb_ BK513 hb); clear hb hbox hg; have hnb20 := NB516_513.out; have hnc20 := NB513_516.out; obtain ⟨hcz21_0, hcz21_1, hcz21_2, hfz21_0, hfz21_1, hfz21_2⟩ := c3_ BK516) | ((with_reducible refine gate_callee (f := 43) rfl ?_); refine goesL_ (some 25) rfl rfl Try.func43 (by kernel_rfl) rfl #[.string ((rd_T35 l0_0 x18_1).f0), .string a1] rfl (ar_) ?_; (with_reducible refine (strings_HasPrefix.calls ((rd_T35 l0_0 x18_1).f0) a1 false _ A12.out).mono ?_); rintro e w' ⟨rfl, ⟨nd, rfl⟩⟩; refine ⟨_, rfl, ?_⟩))
        go_roundg k1
        case measure => have := HK1.out; omega
        case rel => exact ⟨(x7_1), (wrap64 (x18_1 + 1)), (by first | rfl | (simp; done) | (simp [*]; done)), H', ⟨by have := HK1.out; omega⟩, ⟨by (with_reducible repeat (first | apply Kd.R_alloc | apply Kd.R_drewN | apply Kd.R_drew)); exact Kd.R_mono (Kd.R_far (p := ⟨gb516, 2, none⟩) (Kd.R_far (p := ⟨gb516, 1, none⟩) (Kd.R_far (p := ⟨gb516, 0, none⟩) (Kd.R_types HO_7.out BK516.out (by decide)) (fun _ hk => hk.2) (.string ((rd_T35 l0_0 x18_1).f0))) (fun _ hk => hk.2) (.string ((rd_T35 l0_0 x18_1).f1))) (fun _ hk => hk.2) (.int .i64 ((rd_T35 l0_0 x18_1).f2))) (fun _ hk => trivial)⟩, ⟨by (with_reducible repeat (first | refine blk_drewN ?_ _ | refine blk_drew ?_ | refine blk_alloc ?_ _)); refine blk_far ?_ NB513_516.out _; (with_reducible repeat (first | refine blk_drewN ?_ _ | refine blk_drew ?_ | refine blk_alloc ?_ _)); refine blk_far ?_ NB513_516.out _; (with_reducible repeat (first | refine blk_drewN ?_ _ | refine blk_drew ?_ | refine blk_alloc ?_ _)); refine blk_far ?_ NB513_516.out _; (with_reducible repeat (first | refine blk_drewN ?_ _ | refine blk_drew ?_ | refine blk_alloc ?_ _)); exact BK513.out⟩, ⟨bl_2 HB GE513 GE516⟩⟩
      ·rw [if_neg c11] at H
       exact absurd H (by simp)
     ·rw [if_neg c10] at H
      exact absurd H (by simp)
    ·rw [if_neg c9] at H
     have c9b0 : decide (x18_1 < (l0_0.length : Int)) = false := decide_eq_false c9
     clear c9
     simp only [Option.some.injEq, Prod.mk.injEq] at H
     obtain ⟨rfl, rfl⟩ := H
     go_wp2
     go_ret2
     exact ⟨_, by first | rfl | (simp; done) | (simp [*]; done), by (with_reducible repeat (first | apply Kd.R_alloc | apply Kd.R_drewN | apply Kd.R_drew)); exact HO_7.out, bl_1 HB GE513⟩
 ·rw [if_neg c4] at H
  have c4b0 : (t514 == 0) = false := beq_eq_false_iff_ne.mpr c4
  have c4b1 : (t514 != 0) = true := bne_iff_ne.mpr c4
  simp only [Option.some.injEq, Prod.mk.injEq] at H
  obtain ⟨rfl, rfl⟩ := H
  go_enter Try.func29, Try.ntmps29
  go_wp2_with (first | ((with_reducible refine gate_dst (N := 2) rfl ?_); refine box_event ?hg (N := 2) ?hd (cs := #[.slice A0_0 l0_0.length c0_0, .bool a0_1, .int .i64 a0_2]) (t := 24) ?hr ?_; (case hd => rfl); (case hg => rfl); (case hr => first | (go_simp; done) | (go_simp; rfl)); intro gb513 hg w22 hbox hb; have BK513 := Aside0.mk (hbox); have GW513 := Aside0.mk (bs_0 hg HB); have GE513 := Aside0.mk (bs_0 hg HB); replace HB := Aside0.mk (below_step (bl_ HB) hb); clear hb hbox hg; obtain ⟨hcz23_0, hcz23_1, hcz23_2, hfz23_0, hfz23_1, hfz23_2⟩ := c3_ BK513) | ((with_reducible refine gate_callee (f := 33) rfl ?_); refine goesL_ (some 11) rfl rfl Try.func33 (by kernel_rfl) rfl #[.agg #[.slice A0_0 l0_0.length c0_0, .bool a0_1, .int .i64 a0_2]] rfl (ar_) ?_; (with_reducible refine (disk_asked.calls k _ _ l0_0 a0_1 a0_2 t514 _ ?side1 ?side2 A3.out).mono ?_); (case side1 => repeat (first | exact (Kd.C_below HR0_0.out HB.out) | (with_reducible refine Kd.C_alloc ?_ _) | (with_reducible refine Kd.C_drewN ?_ _) | (with_reducible refine Kd.C_drew ?_))); (case side2 => exact HC0_0.out); rintro e w24 ⟨rfl, hb⟩; refine ⟨_, rfl, ?_⟩; replace BK513 := Aside0.mk (bb_ BK513 hb); replace HB := Aside0.mk (below_step (bl_1 HB GE513) hb); (try clear hb); (try clear hb2); (try clear hk); (try clear hi)))
  go_ret2
  exact ⟨_, by first | rfl | (simp; done) | (simp [*]; done), by first | exact Kd.R_nil _ _ _ _ _ | exact Kd.N_nil _ _ _ _ _ | exact Kd.V_nil _ _ _ _ _ | exact Kd.Q_nil _ _ _ _ _ | exact Kd.S_nil _ _ _ _ _, bl_1 HB GE513⟩

/-! ### gafferref02_Names: function 30 -/
def gafferref02_Names.l0 : Nat → ByteArray → List ByteArray → List (S35) → Int → Int → Option (List ByteArray × Int)
 | 0, _, _, _, _, _ => none
 | k + 1, x1, x6, x15, x16, x17 => if x17 < x16 then (if 0 ≤ x17 then (if x17 < (x15.length : Int) then (if (((rd_T35 x15 x17).f0).size : Int) ≥ (x1.size : Int) then (if 0 ≤ (x1.size : Int) then (if (x1.size : Int) ≤ (((rd_T35 x15 x17).f0).size : Int) then (if (((rd_T35 x15 x17).f0).extract 0 x1.size).toList = x1.toList then (if x6.length < 8796093022208 then (gafferref02_Names.l0 k x1 (x6 ++ [(rd_T35 x15 x17).f0]) x15 x16 (wrap64 (x17 + 1))) else (none)) else (gafferref02_Names.l0 k x1 x6 x15 x16 (wrap64 (x17 + 1)))) else (none)) else (none)) else (gafferref02_Names.l0 k x1 x6 x15 x16 (wrap64 (x17 + 1)))) else (none)) else (none)) else (some (x6, 0))
def gafferref02_Names.f (k : Nat) (l0_0 : List (S35)) (a0_1 : Bool) (a0_2 : Int) (a1 : ByteArray) : Option (List ByteArray × Int) := (gafferref02_Check.f k l0_0 a0_1 a0_2).bind fun t522 => (if t522 = 0 then (if a0_1 = true then (some (([] : List ByteArray), 8)) else (gafferref02_Names.l0 k a1 ([] : List ByteArray) l0_0 (l0_0.length : Int) 0)) else (some (([] : List ByteArray), 10)))
theorem gafferref02_Names.mono_l : ∀ k, (∀ y0 y1 y2 y3 y4, LeO (gafferref02_Names.l0 k y0 y1 y2 y3 y4) (gafferref02_Names.l0 (k + 1) y0 y1 y2 y3 y4))
 | 0 => fun _ _ _ _ _ r h => by simp [gafferref02_Names.l0] at h
 | k + 1 => by
  have ih0 := gafferref02_Names.mono_l k
  ·intro y0 y1 y2 y3 y4
   unfold gafferref02_Names.l0
   repeat' first
   | (with_reducible exact ih0 _ _ _ _ _)
   | (with_reducible exact gafferref02_Check.mono _ _ _ _)
   | (with_reducible exact LeO.refl _)
   | (with_reducible exact LeO.none _)
   | (with_reducible refine LeO.ite ?_ ?_)
   | (with_reducible refine LeO.bind ?_ (fun _ => ?_))
   | exact ih0 _ _ _ _ _
   | exact gafferref02_Check.mono _ _ _ _
   | exact LeO.none _
   | refine LeO.ite ?_ ?_
   | refine LeO.bind ?_ (fun _ => ?_)
theorem gafferref02_Names.mono : ∀ a0 a1 a2 a3 k, LeO (gafferref02_Names.f k a0 a1 a2 a3) (gafferref02_Names.f (k + 1) a0 a1 a2 a3) := by
 intro a0 a1 a2 a3 k
 have ih0 := gafferref02_Names.mono_l k
 unfold gafferref02_Names.f
 repeat' first
   | (with_reducible exact ih0 _ _ _ _ _)
   | (with_reducible exact gafferref02_Check.mono _ _ _ _)
   | (with_reducible exact LeO.refl _)
   | (with_reducible exact LeO.none _)
   | (with_reducible refine LeO.ite ?_ ?_)
   | (with_reducible refine LeO.bind ?_ (fun _ => ?_))
   | exact ih0 _ _ _ _ _
   | exact gafferref02_Check.mono _ _ _ _
   | exact LeO.none _
   | refine LeO.ite ?_ ?_
   | refine LeO.bind ?_ (fun _ => ?_)
set_option maxHeartbeats 80000000 in
set_option maxRecDepth 100000 in
theorem gafferref02_Names.calls (k : Nat) (A0_0 : Option Addr) (c0_0 : Nat) (l0_0 : List (S35)) (a0_1 : Bool) (a0_2 : Int) (a1 : ByteArray) (r1 : List ByteArray) (r2 : Int) (w : World) (hr0_0 : Kd.C k35 w A0_0 l0_0.length l0_0) (hc0_0 : l0_0.length ≤ c0_0) (h : gafferref02_Names.f k l0_0 a0_1 a0_2 a1 = some (r1, r2)) :
  Calls Try.prog 30 #[.agg #[.slice A0_0 l0_0.length c0_0, .bool a0_1, .int .i64 a0_2], .string a1] w fun e w' => ∃ v0_ : Value, e = .returned (.tuple #[v0_, .int .i64 r2]) ∧ Kd.R Kd.string 9 w' w.heap.size (fun _ => True) v0_ r1 ∧ Below w.heap.size w w' := by
 have hu24 := Try.underlying24
 have hu35 := Try.underlying35
 have HR0_0 := Aside0.mk hr0_0
 have HC0_0 := Aside0.mk hc0_0
 clear hr0_0 hc0_0
 have HB := Aside0.mk (Below.refl w.heap.size w)
 have H : ((gafferref02_Check.f k l0_0 a0_1 a0_2).bind fun t522 => (if t522 = 0 then (if a0_1 = true then (some (([] : List ByteArray), 8)) else (gafferref02_Names.l0 k a1 ([] : List ByteArray) l0_0 (l0_0.length : Int) 0)) else (some (([] : List ByteArray), 10)))) = some (r1, r2) := h
 clear h
 replace H := Option.bind_eq_some_iff.mp H
 obtain ⟨t522, A30, H⟩ := H
 replace H : (if t522 = 0 then (if a0_1 = true then (some (([] : List ByteArray), 8)) else (gafferref02_Names.l0 k a1 ([] : List ByteArray) l0_0 (l0_0.length : Int) 0)) else (some (([] : List ByteArray), 10))) = some (r1, r2) := H
 have A3 := Aside0.mk A30
 clear A30
 by_cases c4 : t522 = 0
 ·rw [if_pos c4] at H
  have c4b0 : (t522 == 0) = true := beq_iff_eq.mpr c4
  have c4b1 : (t522 != 0) = false := bne_eq_false_iff_eq.mpr c4
  clear c4
  by_cases c5 : a0_1 = true
  ·subst c5
   have H1 : (some (([] : List ByteArray), 8)) = some (r1, r2) := by rw [if_pos rfl] at H; exact H
   clear H
   have H := H1
   clear H1
   simp only [Option.some.injEq, Prod.mk.injEq] at H
   obtain ⟨rfl, rfl⟩ := H
   go_enter Try.func30, Try.ntmps30
   go_wp2_with (first | ((with_reducible refine gate_dst (N := 2) rfl ?_); (try (refine gate_guard (by rfl) ?_; dsimp only)); refine box_event ?hg (N := 2) ?hd (cs := #[.slice A0_0 l0_0.length c0_0, .bool true, .int .i64 a0_2]) (t := 24) ?hr ?_; (case hd => rfl); (case hg => rfl); (case hr => first | (go_simp; done) | (go_simp; rfl)); intro gb521 hg w6 hbox hb; have BK521 := Aside0.mk (hbox); have GW521 := Aside0.mk (bs_0 hg HB); have GE521 := Aside0.mk (bs_0 hg HB); replace HB := Aside0.mk (below_step (bl_ HB) hb); clear hb hbox hg; obtain ⟨hcz7_0, hcz7_1, hcz7_2, hfz7_0, hfz7_1, hfz7_2⟩ := c3_ BK521) | ((with_reducible refine gate_callee (f := 31) rfl ?_); refine goesL_ (some 10) rfl rfl Try.func31 (by kernel_rfl) rfl #[.agg #[.slice A0_0 l0_0.length c0_0, .bool true, .int .i64 a0_2]] rfl (ar_) ?_; (with_reducible refine (gafferref02_Check.calls k _ _ l0_0 true a0_2 t522 _ ?side1 ?side2 A3.out).mono ?_); (case side1 => repeat (first | exact (Kd.C_below HR0_0.out HB.out) | (with_reducible refine Kd.C_alloc ?_ _) | (with_reducible refine Kd.C_drewN ?_ _) | (with_reducible refine Kd.C_drew ?_))); (case side2 => exact HC0_0.out); rintro e w8 ⟨rfl, hb⟩; refine ⟨_, rfl, ?_⟩; replace BK521 := Aside0.mk (bb_ BK521 hb); replace HB := Aside0.mk (below_step (bl_1 HB GE521) hb); (try clear hb); (try clear hb2); (try clear hk); (try clear hi); obtain ⟨hcz9_0, hcz9_1, hcz9_2, hfz9_0, hfz9_1, hfz9_2⟩ := c3_ BK521))
   go_ret2
   exact ⟨_, by first | rfl | (simp; done) | (simp [*]; done), by first | exact Kd.R_nil _ _ _ _ _ | exact Kd.N_nil _ _ _ _ _ | exact Kd.V_nil _ _ _ _ _ | exact Kd.Q_nil _ _ _ _ _ | exact Kd.S_nil _ _ _ _ _, bl_1 HB GE521⟩
  ·replace c5 := Bool.eq_false_iff.mpr c5
   subst c5
   have H1 : (gafferref02_Names.l0 k a1 ([] : List ByteArray) l0_0 (l0_0.length : Int) 0) = some (r1, r2) := by rw [if_neg (show ¬ (false = true) by decide)] at H; exact H
   clear H
   have H := H1
   clear H1
   have H' := Aside0.mk H
   clear H
   go_enter Try.func30, Try.ntmps30
   go_wp2_with (first | ((with_reducible refine gate_dst (N := 2) rfl ?_); (try (refine gate_guard (by rfl) ?_; dsimp only)); refine box_event ?hg (N := 2) ?hd (cs := #[.slice A0_0 l0_0.length c0_0, .bool false, .int .i64 a0_2]) (t := 24) ?hr ?_; (case hd => rfl); (case hg => rfl); (case hr => first | (go_simp; done) | (go_simp; rfl)); intro gb521 hg w10 hbox hb; have BK521 := Aside0.mk (hbox); have GW521 := Aside0.mk (bs_0 hg HB); have GE521 := Aside0.mk (bs_0 hg HB); replace HB := Aside0.mk (below_step (bl_ HB) hb); clear hb hbox hg; obtain ⟨hcz11_0, hcz11_1, hcz11_2, hfz11_0, hfz11_1, hfz11_2⟩ := c3_ BK521) | ((with_reducible refine gate_callee (f := 31) rfl ?_); refine goesL_ (some 10) rfl rfl Try.func31 (by kernel_rfl) rfl #[.agg #[.slice A0_0 l0_0.length c0_0, .bool false, .int .i64 a0_2]] rfl (ar_) ?_; (with_reducible refine (gafferref02_Check.calls k _ _ l0_0 false a0_2 t522 _ ?side1 ?side2 A3.out).mono ?_); (case side1 => repeat (first | exact (Kd.C_below HR0_0.out HB.out) | (with_reducible refine Kd.C_alloc ?_ _) | (with_reducible refine Kd.C_drewN ?_ _) | (with_reducible refine Kd.C_drew ?_))); (case side2 => exact HC0_0.out); rintro e w12 ⟨rfl, hb⟩; refine ⟨_, rfl, ?_⟩; replace BK521 := Aside0.mk (bb_ BK521 hb); replace HB := Aside0.mk (below_step (bl_1 HB GE521) hb); (try clear hb); (try clear hb2); (try clear hk); (try clear hi); obtain ⟨hcz13_0, hcz13_1, hcz13_2, hfz13_0, hfz13_1, hfz13_2⟩ := c3_ BK521))
   go_loopg [6, 17] k (fun kq v6 v17 w' => ∃ (x6_1 : List ByteArray) (x17_1 : Int), v17 = .int .i64 x17_1 ∧ Aside0 (gafferref02_Names.l0 kq a1 x6_1 l0_0 (l0_0.length : Int) x17_1 = some (r1, r2)) ∧ Aside0 (kq ≤ k) ∧ Aside0 (Kd.R Kd.string 9 w' w.heap.size (fun _ => True) v6 x6_1) ∧ Aside0 (w'.heap[gb521]? = some (.cells #[(.slice A0_0 l0_0.length c0_0), .bool false, .int .i64 a0_2] 24 (0, 0))) ∧ Aside0 (Below w.heap.size w w'))
   case atStart => exact ⟨(([] : List ByteArray)), (0), (by first | rfl | (simp; done) | (simp [*]; done)), H', ⟨Nat.le_refl _⟩, ⟨by first | exact Kd.R_nil _ _ _ _ _ | exact Kd.N_nil _ _ _ _ _ | exact Kd.V_nil _ _ _ _ _ | exact Kd.Q_nil _ _ _ _ _ | exact Kd.S_nil _ _ _ _ _⟩, ⟨bk_ BK521⟩, ⟨bl_1 HB GE521⟩⟩
   case round =>
    clear H'
    try clear p2
    try clear c3
    try clear c4
    try clear c4b0
    try clear c4b1
    try clear c5
    try clear hcz11_0
    try clear hcz11_1
    try clear hcz11_2
    try clear hcz13_0
    try clear hcz13_1
    try clear hcz13_2
    try clear hcz7_0
    try clear hcz7_1
    try clear hcz7_2
    try clear hcz9_0
    try clear hcz9_1
    try clear hcz9_2
    try clear hfz11_0
    try clear hfz11_1
    try clear hfz11_2
    try clear hfz13_0
    try clear hfz13_1
    try clear hfz13_2
    try clear hfz7_0
    try clear hfz7_1
    try clear hfz7_2
    try clear hfz9_0
    try clear hfz9_1
    try clear hfz9_2
    obtain ⟨x6_1, x17_1, rfl, HA, HK1, HO_6, BK521, HB⟩ := hrel
    cases gk with
    | zero => exact absurd HA.out (by simp [gafferref02_Names.l0])
    | succ k1 =>
     have H := HA.out
     clear HA
     simp only [gafferref02_Names.l0] at H
     by_cases c14 : x17_1 < (l0_0.length : Int)
     ·rw [if_pos c14] at H
      have c14b0 : decide (x17_1 < (l0_0.length : Int)) = true := decide_eq_true c14
      clear c14
      by_cases c15 : 0 ≤ x17_1
      ·rw [if_pos c15] at H
       have c15b0 : decide (0 ≤ x17_1) = true := decide_eq_true c15
       clear c15
       by_cases c16 : x17_1 < (l0_0.length : Int)
       ·rw [if_pos c16] at H
        have c16b0 : decide (x17_1 < (l0_0.length : Int)) = true := decide_eq_true c16
        clear c16
        by_cases c17 : (((rd_T35 l0_0 x17_1).f0).size : Int) ≥ (a1.size : Int)
        ·rw [if_pos c17] at H
         have c17b0 : decide ((a1.size : Int) ≤ (((rd_T35 l0_0 x17_1).f0).size : Int)) = true := decide_eq_true c17
         have c17b1 : decide (a1.size ≤ ((rd_T35 l0_0 x17_1).f0).size) = true := decide_eq_true (Int.ofNat_le.mp c17)
         clear c17
         by_cases c18 : 0 ≤ (a1.size : Int)
         ·rw [if_pos c18] at H
          have c18b0 := eq_true c18
          have c18b1 : decide (0 ≤ (a1.size : Int)) = true := decide_eq_true c18
          clear c18
          by_cases c19 : (a1.size : Int) ≤ (((rd_T35 l0_0 x17_1).f0).size : Int)
          ·rw [if_pos c19] at H
           have c19b0 := eq_true c19
           have c19b1 : decide ((a1.size : Int) ≤ (((rd_T35 l0_0 x17_1).f0).size : Int)) = true := decide_eq_true c19
           clear c19
           by_cases c20 : (((rd_T35 l0_0 x17_1).f0).extract 0 a1.size).toList = a1.toList
           ·rw [if_pos c20] at H
            have c20b0 : ((((rd_T35 l0_0 x17_1).f0).extract 0 a1.size).toList == a1.toList) = true := beq_iff_eq.mpr c20
            have c20b1 : ((((rd_T35 l0_0 x17_1).f0).extract 0 a1.size).toList != a1.toList) = false := bne_eq_false_iff_eq.mpr c20
            clear c20
            by_cases c21 : x6_1.length < 8796093022208
            ·rw [if_pos c21] at H
             have LMc21 := Aside0.mk c21
             clear c21
             obtain ⟨y525, hy525⟩ : ∃ y_ : List ByteArray, y_ = (x6_1 ++ [(rd_T35 l0_0 x17_1).f0]) := ⟨_, rfl⟩
             replace H : (gafferref02_Names.l0 k1 a1 y525 l0_0 (l0_0.length : Int) (wrap64 (x17_1 + 1))) = some (r1, r2) := by first | (rw [hy525]; with_reducible exact H) | (have H2_ := (Option.bind_some _ _).symm.trans H; rw [hy525]; with_reducible exact H2_) | (have H2_ := (Option.bind_some _ _).symm.trans H; with_reducible exact H2_) | with_reducible exact H | (rw [hy525]; exact H) | exact H
             have Ny525 := Aside0.mk hy525
             clear hy525
             have H' := Aside0.mk H
             clear H
             have p523 : 0 ≤ (x17_1 : Int) := of_decide_eq_true (by first | (with_reducible assumption) | assumption)
             have q523 : x17_1 < (l0_0.length : Int) := of_decide_eq_true (by first | (with_reducible assumption) | assumption)
             obtain ⟨ad523, e523, hx523_0, hx523_1, hx523_2⟩ := at_T35 HR0_0.out x17_1 p523 q523
             cases e523
             replace hx523_0 := (HB.out.cell (World.block_lt_of_cell? w _ hx523_0)).trans hx523_0
             replace hx523_1 := (HB.out.cell (World.block_lt_of_cell? w _ hx523_1)).trans hx523_1
             replace hx523_2 := (HB.out.cell (World.block_lt_of_cell? w _ hx523_2)).trans hx523_2
             replace p523 := eq_true p523
             replace q523 := eq_true q523
             go_wp2_with (first | ((with_reducible refine gate_dst (N := 8) rfl ?_); (try (refine gate_guard (by rfl) ?_; dsimp only)); refine box_event ?hg (N := 8) ?hd (cs := #[.string (⟨#[]⟩ : ByteArray), .string (⟨#[]⟩ : ByteArray), .int .i64 0]) (t := 35) ?hr ?_; (case hd => rfl); (case hg => rfl); (case hr => first | (go_simp; done) | (go_simp; rfl)); intro gb524 hg w22 hbox hb; replace HO_6 := Aside0.mk (Kd.R_below (by (with_reducible repeat (first | apply Kd.R_alloc | apply Kd.R_drewN | apply Kd.R_drew)); exact HO_6.out) hb); have BK524 := Aside0.mk (hbox); have GW524 := Aside0.mk (bs_1 hg HB GE521); have GE524 := Aside0.mk (bs_1 hg HB GE521); replace HB := Aside0.mk (below_step (bl_1 HB GE521) hb); have NB521_524 := Aside0.mk (nb_ hg BK521); have NB524_521 := Aside0.mk (nc_ hg BK521); replace BK521 := Aside0.mk (bb_ BK521 hb); clear hb hbox hg; have hnb23 := NB524_521.out; have hnc23 := NB521_524.out; obtain ⟨hcz24_0, hcz24_1, hcz24_2, hfz24_0, hfz24_1, hfz24_2⟩ := c3_ BK524) | ((with_reducible refine gate_builtin (b := .append) (xs := #[.tmp 36, .tmp 39]) rfl ?_); (try (refine gate_guard (by rfl) ?_; dsimp only)); at_builtin; refine Kd.R_append Kd.string (w0 := w) w.heap.size rfl (.tmp 36) (.tmp 39) 45 9 (.string ⟨#[]⟩) 16 rfl Try.underlying45 info9 rfl (by decide) (by omega) u6 x6_1 ((rd_T35 l0_0 x17_1).f0) [.string ((rd_T35 l0_0 x17_1).f0)] (fun _ => True) (fun _ => False) rfl (by first | (go_simp; done) | (go_simp; rfl)) ?aP (fun _ hk => hk.elim) ?aF ?aO ?aB ?aS ?aL ?_; (case aP => exact rfl); (case aB => exact (bl_2 HB GE521 GE524)); (case aF => exact (fun _ _ => trivial)); (case aO => exact (by (with_reducible repeat (first | apply Kd.R_alloc | apply Kd.R_drewN | apply Kd.R_drew)); exact Kd.R_mono (Kd.R_far (p := ⟨gb524, 2, none⟩) (Kd.R_far (p := ⟨gb524, 1, none⟩) (Kd.R_far (p := ⟨gb524, 0, none⟩) (Kd.R_types HO_6.out BK524.out (by decide)) (fun _ hk => hk.2) (.string ((rd_T35 l0_0 x17_1).f0))) (fun _ hk => hk.2) (.string ((rd_T35 l0_0 x17_1).f1))) (fun _ hk => hk.2) (.int .i64 ((rd_T35 l0_0 x17_1).f2))) (fun _ hk => trivial))); (case aS => exact (below_size (bl_2 HB GE521 GE524))); (case aL => have := LMc21.out; omega); intro v526 w25 ho hb hg hat; rw [← Ny525.out] at ho; replace BK521 := Aside0.mk (blk_grown (g := gb521) (o := .cells #[.slice (some ad523) l0_0.length c0_0, .bool false, .int .i64 a0_2] 24 (0, 0)) (bp_1 BK521 NB521_524) hg (Kd.R_ne HO_6.out BK521.out (by decide))); replace BK524 := Aside0.mk (blk_grown (g := gb524) (o := .cells #[.string ((rd_T35 l0_0 x17_1).f0), .string ((rd_T35 l0_0 x17_1).f1), .int .i64 ((rd_T35 l0_0 x17_1).f2)] 35 (0, 0)) (bp_0 BK524) hg (Kd.R_ne HO_6.out BK524.out (by decide))); replace HB := Aside0.mk (hb); have HO527 := Aside0.mk (ho); clear HO_6; clear ho hb hg hat))
             go_roundg k1
             case measure => have := HK1.out; omega
             case rel => exact ⟨(y525), (wrap64 (x17_1 + 1)), (by first | rfl | (simp; done) | (simp [*]; done)), H', ⟨by have := HK1.out; omega⟩, ⟨by (with_reducible repeat (first | apply Kd.R_alloc | apply Kd.R_drewN | apply Kd.R_drew)); exact HO527.out⟩, ⟨bk_ BK521⟩, ⟨bl_2 HB GE521 GE524⟩⟩
            ·rw [if_neg c21] at H
             exact absurd H (by simp)
           ·rw [if_neg c20] at H
            have c20b0 : ((((rd_T35 l0_0 x17_1).f0).extract 0 a1.size).toList == a1.toList) = false := beq_eq_false_iff_ne.mpr c20
            have c20b1 : ((((rd_T35 l0_0 x17_1).f0).extract 0 a1.size).toList != a1.toList) = true := bne_iff_ne.mpr c20
            have H' := Aside0.mk H
            clear H
            have p523 : 0 ≤ (x17_1 : Int) := of_decide_eq_true (by first | (with_reducible assumption) | assumption)
            have q523 : x17_1 < (l0_0.length : Int) := of_decide_eq_true (by first | (with_reducible assumption) | assumption)
            obtain ⟨ad523, e523, hx523_0, hx523_1, hx523_2⟩ := at_T35 HR0_0.out x17_1 p523 q523
            cases e523
            replace hx523_0 := (HB.out.cell (World.block_lt_of_cell? w _ hx523_0)).trans hx523_0
            replace hx523_1 := (HB.out.cell (World.block_lt_of_cell? w _ hx523_1)).trans hx523_1
            replace hx523_2 := (HB.out.cell (World.block_lt_of_cell? w _ hx523_2)).trans hx523_2
            replace p523 := eq_true p523
            replace q523 := eq_true q523
            go_wp2_with (first | ((with_reducible refine gate_dst (N := 8) rfl ?_); (try (refine gate_guard (by rfl) ?_; dsimp only)); refine box_event ?hg (N := 8) ?hd (cs := #[.string (⟨#[]⟩ : ByteArray), .string (⟨#[]⟩ : ByteArray), .int .i64 0]) (t := 35) ?hr ?_; (case hd => rfl); (case hg => rfl); (case hr => first | (go_simp; done) | (go_simp; rfl)); intro gb524 hg w26 hbox hb; replace HO_6 := Aside0.mk (Kd.R_below (by (with_reducible repeat (first | apply Kd.R_alloc | apply Kd.R_drewN | apply Kd.R_drew)); exact HO_6.out) hb); have BK524 := Aside0.mk (hbox); have GW524 := Aside0.mk (bs_1 hg HB GE521); have GE524 := Aside0.mk (bs_1 hg HB GE521); replace HB := Aside0.mk (below_step (bl_1 HB GE521) hb); have NB521_524 := Aside0.mk (nb_ hg BK521); have NB524_521 := Aside0.mk (nc_ hg BK521); replace BK521 := Aside0.mk (bb_ BK521 hb); clear hb hbox hg; have hnb27 := NB524_521.out; have hnc27 := NB521_524.out; obtain ⟨hcz28_0, hcz28_1, hcz28_2, hfz28_0, hfz28_1, hfz28_2⟩ := c3_ BK524))
            go_roundg k1
            case measure => have := HK1.out; omega
            case rel => exact ⟨(x6_1), (wrap64 (x17_1 + 1)), (by first | rfl | (simp; done) | (simp [*]; done)), H', ⟨by have := HK1.out; omega⟩, ⟨by (with_reducible repeat (first | apply Kd.R_alloc | apply Kd.R_drewN | apply Kd.R_drew)); exact Kd.R_mono (Kd.R_far (p := ⟨gb524, 2, none⟩) (Kd.R_far (p := ⟨gb524, 1, none⟩) (Kd.R_far (p := ⟨gb524, 0, none⟩) (Kd.R_types HO_6.out BK524.out (by decide)) (fun _ hk => hk.2) (.string ((rd_T35 l0_0 x17_1).f0))) (fun _ hk => hk.2) (.string ((rd_T35 l0_0 x17_1).f1))) (fun _ hk => hk.2) (.int .i64 ((rd_T35 l0_0 x17_1).f2))) (fun _ hk => trivial)⟩, ⟨by (with_reducible repeat (first | refine blk_drewN ?_ _ | refine blk_drew ?_ | refine blk_alloc ?_ _)); refine blk_far ?_ NB521_524.out _; (with_reducible repeat (first | refine blk_drewN ?_ _ | refine blk_drew ?_ | refine blk_alloc ?_ _)); refine blk_far ?_ NB521_524.out _; (with_reducible repeat (first | refine blk_drewN ?_ _ | refine blk_drew ?_ | refine blk_alloc ?_ _)); refine blk_far ?_ NB521_524.out _; (with_reducible repeat (first | refine blk_drewN ?_ _ | refine blk_drew ?_ | refine blk_alloc ?_ _)); exact BK521.out⟩, ⟨bl_2 HB GE521 GE524⟩⟩
          ·rw [if_neg c19] at H
           exact absurd H (by simp)
         ·rw [if_neg c18] at H
          exact absurd H (by simp)
        ·rw [if_neg c17] at H
         have c17b0 : decide ((a1.size : Int) ≤ (((rd_T35 l0_0 x17_1).f0).size : Int)) = false := decide_eq_false c17
         have c17b1 : decide (a1.size ≤ ((rd_T35 l0_0 x17_1).f0).size) = false := decide_eq_false (fun h => c17 (Int.ofNat_le.mpr h))
         clear c17
         have H' := Aside0.mk H
         clear H
         have p523 : 0 ≤ (x17_1 : Int) := of_decide_eq_true (by first | (with_reducible assumption) | assumption)
         have q523 : x17_1 < (l0_0.length : Int) := of_decide_eq_true (by first | (with_reducible assumption) | assumption)
         obtain ⟨ad523, e523, hx523_0, hx523_1, hx523_2⟩ := at_T35 HR0_0.out x17_1 p523 q523
         cases e523
         replace hx523_0 := (HB.out.cell (World.block_lt_of_cell? w _ hx523_0)).trans hx523_0
         replace hx523_1 := (HB.out.cell (World.block_lt_of_cell? w _ hx523_1)).trans hx523_1
         replace hx523_2 := (HB.out.cell (World.block_lt_of_cell? w _ hx523_2)).trans hx523_2
         replace p523 := eq_true p523
         replace q523 := eq_true q523
         go_wp2_with (first | ((with_reducible refine gate_dst (N := 8) rfl ?_); (try (refine gate_guard (by rfl) ?_; dsimp only)); refine box_event ?hg (N := 8) ?hd (cs := #[.string (⟨#[]⟩ : ByteArray), .string (⟨#[]⟩ : ByteArray), .int .i64 0]) (t := 35) ?hr ?_; (case hd => rfl); (case hg => rfl); (case hr => first | (go_simp; done) | (go_simp; rfl)); intro gb524 hg w29 hbox hb; replace HO_6 := Aside0.mk (Kd.R_below (by (with_reducible repeat (first | apply Kd.R_alloc | apply Kd.R_drewN | apply Kd.R_drew)); exact HO_6.out) hb); have BK524 := Aside0.mk (hbox); have GW524 := Aside0.mk (bs_1 hg HB GE521); have GE524 := Aside0.mk (bs_1 hg HB GE521); replace HB := Aside0.mk (below_step (bl_1 HB GE521) hb); have NB521_524 := Aside0.mk (nb_ hg BK521); have NB524_521 := Aside0.mk (nc_ hg BK521); replace BK521 := Aside0.mk (bb_ BK521 hb); clear hb hbox hg; have hnb30 := NB524_521.out; have hnc30 := NB521_524.out; obtain ⟨hcz31_0, hcz31_1, hcz31_2, hfz31_0, hfz31_1, hfz31_2⟩ := c3_ BK524))
         go_roundg k1
         case measure => have := HK1.out; omega
         case rel => exact ⟨(x6_1), (wrap64 (x17_1 + 1)), (by first | rfl | (simp; done) | (simp [*]; done)), H', ⟨by have := HK1.out; omega⟩, ⟨by (with_reducible repeat (first | apply Kd.R_alloc | apply Kd.R_drewN | apply Kd.R_drew)); exact Kd.R_mono (Kd.R_far (p := ⟨gb524, 2, none⟩) (Kd.R_far (p := ⟨gb524, 1, none⟩) (Kd.R_far (p := ⟨gb524, 0, none⟩) (Kd.R_types HO_6.out BK524.out (by decide)) (fun _ hk => hk.2) (.string ((rd_T35 l0_0 x17_1).f0))) (fun _ hk => hk.2) (.string ((rd_T35 l0_0 x17_1).f1))) (fun _ hk => hk.2) (.int .i64 ((rd_T35 l0_0 x17_1).f2))) (fun _ hk => trivial)⟩, ⟨by (with_reducible repeat (first | refine blk_drewN ?_ _ | refine blk_drew ?_ | refine blk_alloc ?_ _)); refine blk_far ?_ NB521_524.out _; (with_reducible repeat (first | refine blk_drewN ?_ _ | refine blk_drew ?_ | refine blk_alloc ?_ _)); refine blk_far ?_ NB521_524.out _; (with_reducible repeat (first | refine blk_drewN ?_ _ | refine blk_drew ?_ | refine blk_alloc ?_ _)); refine blk_far ?_ NB521_524.out _; (with_reducible repeat (first | refine blk_drewN ?_ _ | refine blk_drew ?_ | refine blk_alloc ?_ _)); exact BK521.out⟩, ⟨bl_2 HB GE521 GE524⟩⟩
       ·rw [if_neg c16] at H
        exact absurd H (by simp)
      ·rw [if_neg c15] at H
       exact absurd H (by simp)
     ·rw [if_neg c14] at H
      have c14b0 : decide (x17_1 < (l0_0.length : Int)) = false := decide_eq_false c14
      clear c14
      simp only [Option.some.injEq, Prod.mk.injEq] at H
      obtain ⟨rfl, rfl⟩ := H
      go_wp2
      go_ret2
      exact ⟨_, by first | rfl | (simp; done) | (simp [*]; done), by (with_reducible repeat (first | apply Kd.R_alloc | apply Kd.R_drewN | apply Kd.R_drew)); exact HO_6.out, bl_1 HB GE521⟩
 ·rw [if_neg c4] at H
  have c4b0 : (t522 == 0) = false := beq_eq_false_iff_ne.mpr c4
  have c4b1 : (t522 != 0) = true := bne_iff_ne.mpr c4
  simp only [Option.some.injEq, Prod.mk.injEq] at H
  obtain ⟨rfl, rfl⟩ := H
  go_enter Try.func30, Try.ntmps30
  go_wp2_with (first | ((with_reducible refine gate_dst (N := 2) rfl ?_); (try (refine gate_guard (by rfl) ?_; dsimp only)); refine box_event ?hg (N := 2) ?hd (cs := #[.slice A0_0 l0_0.length c0_0, .bool a0_1, .int .i64 a0_2]) (t := 24) ?hr ?_; (case hd => rfl); (case hg => rfl); (case hr => first | (go_simp; done) | (go_simp; rfl)); intro gb521 hg w32 hbox hb; have BK521 := Aside0.mk (hbox); have GW521 := Aside0.mk (bs_0 hg HB); have GE521 := Aside0.mk (bs_0 hg HB); replace HB := Aside0.mk (below_step (bl_ HB) hb); clear hb hbox hg; obtain ⟨hcz33_0, hcz33_1, hcz33_2, hfz33_0, hfz33_1, hfz33_2⟩ := c3_ BK521) | ((with_reducible refine gate_callee (f := 31) rfl ?_); refine goesL_ (some 10) rfl rfl Try.func31 (by kernel_rfl) rfl #[.agg #[.slice A0_0 l0_0.length c0_0, .bool a0_1, .int .i64 a0_2]] rfl (ar_) ?_; (with_reducible refine (gafferref02_Check.calls k _ _ l0_0 a0_1 a0_2 t522 _ ?side1 ?side2 A3.out).mono ?_); (case side1 => repeat (first | exact (Kd.C_below HR0_0.out HB.out) | (with_reducible refine Kd.C_alloc ?_ _) | (with_reducible refine Kd.C_drewN ?_ _) | (with_reducible refine Kd.C_drew ?_))); (case side2 => exact HC0_0.out); rintro e w34 ⟨rfl, hb⟩; refine ⟨_, rfl, ?_⟩; replace BK521 := Aside0.mk (bb_ BK521 hb); replace HB := Aside0.mk (below_step (bl_1 HB GE521) hb); (try clear hb); (try clear hb2); (try clear hk); (try clear hi)))
  go_ret2
  exact ⟨_, by first | rfl | (simp; done) | (simp [*]; done), by first | exact Kd.R_nil _ _ _ _ _ | exact Kd.N_nil _ _ _ _ _ | exact Kd.V_nil _ _ _ _ _ | exact Kd.Q_nil _ _ _ _ _ | exact Kd.S_nil _ _ _ _ _, bl_1 HB GE521⟩

end Go.Proofs.Ytpdacpopkegecaa.PA
