-- By a program of this session.
import Derived.Test.YtcdibodjkdoknaaPMx0
import Derived.Test.YtcdibodjkdoknaaPMx1
namespace Go.Proofs.Ytcdibodjkdoknaa.PM
open Go.RowKit YtcdibodjkdoknaaW.PrintWords YtcdibodjkdoknaaW.PrintLast YtcdibodjkdoknaaW.PrintMore Sh Ytcdibodjkdoknaa.Op
attribute [local go_sem] max2_int min2_int max_two min_two max_three min_three max_four min_four
set_option linter.unusedVariables false
set_option maxHeartbeats 80000000
set_option maxRecDepth 100000
set_option linter.unusedSimpArgs false

theorem gen_world {P : Program} {c : Code} {Q : Exit → Act → World → Prop} {a : Act} {W : World} (F : World → Prop) (hF : F W) (h : ∀ w1, F w1 → Code.wp P c Q a w1) : Code.wp P c Q a W := h W hF
theorem msg_bare_1 (a0_0 a0_1 a0_2 a0_3 a0_4 : Int) (a0_5 : Bool) (A6 : Option Addr) (n6 c6 : Nat) (a0_7 a0_8 : Int) (A9 : Option Addr) (n9 c9 : Nat) (a0_10 : ByteArray) (w : World) (e1 : (a0_0 == 1) = true) :
  Calls Try.prog 67 #[.agg #[.int .u8 a0_0, .int .u64 a0_1, .int .u64 a0_2, .int .u64 a0_3, .int .u64 a0_4, .bool a0_5, .slice A6 n6 c6, .int .u64 a0_7, .int .u64 a0_8, .slice A9 n9 c9, .string a0_10]] w fun e w' => e = .returned (.agg #[.int .u8 a0_0, .int .u64 a0_1, .int .u64 a0_2, .int .u64 a0_3, .int .u64 0, .bool false, .slice none 0 0, .int .u64 0, .int .u64 0, .slice none 0 0, .string (⟨#[]⟩ : ByteArray)]) ∧ Below w.heap.size w w' := by
 have HB := a_ (Below.refl w.heap.size w)
 have hu37 := Try.underlying37
 have hu35 := Try.underlying35
 go_enter Try.func67, Try.ntmps67
 go_upto_region 2 with (first | ((with_reducible refine gd_ 1 ?_); refine bx_ 1 #[.int .u8 a0_0, .int .u64 a0_1, .int .u64 a0_2, .int .u64 a0_3, .int .u64 a0_4, .bool a0_5, .slice A6 n6 c6, .int .u64 a0_7, .int .u64 a0_8, .slice A9 n9 c9, .string a0_10] 37 ?_; intro ga hg w_ hbox hb; have BKa := a_ hbox; have GEa := a_ (bs_0 hg HB); replace HB := hB_ (bl_ HB) hb; clear hb hbox hg) | ((with_reducible refine gd_ 2 ?_); refine bx_ 2 #[.int .u8 0, .int .u64 0, .int .u64 0, .int .u64 0, .int .u64 0, .bool false, .slice none 0 0, .int .u64 0, .int .u64 0, .slice none 0 0, .string (⟨#[]⟩ : ByteArray)] 37 ?_; intro gr hg w_ hbox hb; have BKr := a_ hbox; have GEr := a_ (bs_1 hg HB GEa); have NBa_r := nB_ hg BKa; have NBr_a := nC_ hg BKa; replace BKa := bB_ BKa hb; replace HB := hB_ (bl_1 HB GEa) hb; clear hb hbox hg; have hna := NBa_r.out; have hnb := NBr_a.out; have hca_0 := (blk_cell BKa.out 0).trans rfl; have hca_1 := (blk_cell BKa.out 1).trans rfl) | ((with_reducible refine gd_ 3 ?_); refine bx_ 3 #[.int .u8 0, .int .u64 0, .int .u64 0, .int .u64 0, .int .u64 0, .bool false, .slice none 0 0, .int .u64 0, .int .u64 0, .slice none 0 0, .string (⟨#[]⟩ : ByteArray)] 37 ?_; intro gb hg w_ hbox hb; have BKb := a_ hbox; have GEb := a_ (bs_2 hg HB GEa GEr); have NBa_b := nB_ hg BKa; have NBb_a := nC_ hg BKa; have NBr_b := nB_ hg BKr; have NBb_r := nC_ hg BKr; replace BKa := bB_ BKa hb; replace BKr := bB_ BKr hb; replace HB := hB_ (bl_2 HB GEa GEr) hb; clear hb hbox hg; have hnc := NBa_b.out; have hnd := NBb_a.out; have hne := NBr_b.out; have hnf := NBb_r.out; obtain ⟨hcc_0, hcc_1, hcc_2, hcc_3, hcc_4, hcc_5, hcc_6, hcc_7, hcc_8, hcc_9, hcc_10, -⟩ := c11_ BKa; obtain ⟨hcb_0, hcb_1, hcb_2, hcb_3, hcb_4, hcb_5, hcb_6, hcb_7, hcb_8, hcb_9, hcb_10, hfb_0, hfb_1, hfb_2, hfb_3, hfb_4, hfb_5, hfb_6, hfb_7, hfb_8, hfb_9, hfb_10⟩ := c11_ BKb; have hcr_0 := (blk_cell BKr.out 0).trans rfl; have hfr_0 := blk_frozen BKr.out 0; have hcr_1 := (blk_cell BKr.out 1).trans rfl; have hfr_1 := blk_frozen BKr.out 1; have hcr_2 := (blk_cell BKr.out 2).trans rfl; have hfr_2 := blk_frozen BKr.out 2; have hcr_3 := (blk_cell BKr.out 3).trans rfl; have hfr_3 := blk_frozen BKr.out 3; have hcr_4 := (blk_cell BKr.out 4).trans rfl; have hfr_4 := blk_frozen BKr.out 4; have hcr_5 := (blk_cell BKr.out 5).trans rfl; have hfr_5 := blk_frozen BKr.out 5; have hcr_6 := (blk_cell BKr.out 6).trans rfl; have hfr_6 := blk_frozen BKr.out 6; have hcr_7 := (blk_cell BKr.out 7).trans rfl; have hfr_7 := blk_frozen BKr.out 7; have hcr_8 := (blk_cell BKr.out 8).trans rfl; have hfr_8 := blk_frozen BKr.out 8; have hcr_9 := (blk_cell BKr.out 9).trans rfl; have hfr_9 := blk_frozen BKr.out 9; have hcr_10 := (blk_cell BKr.out 10).trans rfl; have hfr_10 := blk_frozen BKr.out 10))
 refine gen_world (fun w1 => w1.heap[gb]? = some (.cells #[.int .u8 a0_0, .int .u64 a0_1, .int .u64 0, .int .u64 0, .int .u64 0, .bool false, .slice none 0 0, .int .u64 0, .int .u64 0, .slice none 0 0, .string (⟨#[]⟩ : ByteArray)] 37 (0, 0)) ∧ w1.heap[gr]? = some (.cells #[.int .u8 0, .int .u64 0, .int .u64 0, .int .u64 0, .int .u64 0, .bool false, .slice none 0 0, .int .u64 0, .int .u64 0, .slice none 0 0, .string (⟨#[]⟩ : ByteArray)] 37 (0, 0)) ∧ w1.heap[ga]? = some (.cells #[.int .u8 a0_0, .int .u64 a0_1, .int .u64 a0_2, .int .u64 a0_3, .int .u64 a0_4, .bool a0_5, .slice A6 n6 c6, .int .u64 a0_7, .int .u64 a0_8, .slice A9 n9 c9, .string a0_10] 37 (0, 0)) ∧ Below w.heap.size w w1) ⟨?_, (by (iterate 11 refine blk_far (p := ⟨gb, _, none⟩) ?_ NBr_b.out _); exact BKr.out), (by (iterate 11 refine blk_far (p := ⟨gb, _, none⟩) ?_ NBa_b.out _); exact BKa.out), (by (iterate 11 refine Below.setCell (p := ⟨gb, _, none⟩) ?_ GEb.out _); exact HB.out)⟩ ?_
 · refine Eq.trans (blk_set (blk_set (blk_set (blk_set (blk_set (blk_set (blk_set (blk_set (blk_set (blk_set (blk_set BKb.out 0 _) 1 _) 2 _) 3 _) 4 _) 5 _) 6 _) 7 _) 8 _) 9 _) 10 _) ?_
   simp only [List.setIfInBounds_toArray, List.set_cons_zero, List.set_cons_succ]
 clear hcc_0 hcb_0 hfb_0 hcr_0 hfr_0 hcc_1 hcb_1 hfb_1 hcr_1 hfr_1 hcc_2 hcb_2 hfb_2 hcr_2 hfr_2 hcc_3 hcb_3 hfb_3 hcr_3 hfr_3 hcc_4 hcb_4 hfb_4 hcr_4 hfr_4 hcc_5 hcb_5 hfb_5 hcr_5 hfr_5 hcc_6 hcb_6 hfb_6 hcr_6 hfr_6 hcc_7 hcb_7 hfb_7 hcr_7 hfr_7 hcc_8 hcb_8 hfb_8 hcr_8 hfr_8 hcc_9 hcb_9 hfb_9 hcr_9 hfr_9 hcc_10 hcb_10 hfb_10 hcr_10 hfr_10 BKb BKr BKa HB
 rintro w1 ⟨kb, kr, ka, hB⟩
 have hcc_0 := (blk_cell ka 0).trans rfl
 have hcb_0 := (blk_cell kb 0).trans rfl
 have hfb_0 := blk_frozen kb 0
 have hcr_0 := (blk_cell kr 0).trans rfl
 have hfr_0 := blk_frozen kr 0
 have hcc_1 := (blk_cell ka 1).trans rfl
 have hcb_1 := (blk_cell kb 1).trans rfl
 have hfb_1 := blk_frozen kb 1
 have hcr_1 := (blk_cell kr 1).trans rfl
 have hfr_1 := blk_frozen kr 1
 have hcc_2 := (blk_cell ka 2).trans rfl
 have hcb_2 := (blk_cell kb 2).trans rfl
 have hfb_2 := blk_frozen kb 2
 have hcr_2 := (blk_cell kr 2).trans rfl
 have hfr_2 := blk_frozen kr 2
 have hcc_3 := (blk_cell ka 3).trans rfl
 have hcb_3 := (blk_cell kb 3).trans rfl
 have hfb_3 := blk_frozen kb 3
 have hcr_3 := (blk_cell kr 3).trans rfl
 have hfr_3 := blk_frozen kr 3
 have hcc_4 := (blk_cell ka 4).trans rfl
 have hcb_4 := (blk_cell kb 4).trans rfl
 have hfb_4 := blk_frozen kb 4
 have hcr_4 := (blk_cell kr 4).trans rfl
 have hfr_4 := blk_frozen kr 4
 have hcc_5 := (blk_cell ka 5).trans rfl
 have hcb_5 := (blk_cell kb 5).trans rfl
 have hfb_5 := blk_frozen kb 5
 have hcr_5 := (blk_cell kr 5).trans rfl
 have hfr_5 := blk_frozen kr 5
 have hcc_6 := (blk_cell ka 6).trans rfl
 have hcb_6 := (blk_cell kb 6).trans rfl
 have hfb_6 := blk_frozen kb 6
 have hcr_6 := (blk_cell kr 6).trans rfl
 have hfr_6 := blk_frozen kr 6
 have hcc_7 := (blk_cell ka 7).trans rfl
 have hcb_7 := (blk_cell kb 7).trans rfl
 have hfb_7 := blk_frozen kb 7
 have hcr_7 := (blk_cell kr 7).trans rfl
 have hfr_7 := blk_frozen kr 7
 have hcc_8 := (blk_cell ka 8).trans rfl
 have hcb_8 := (blk_cell kb 8).trans rfl
 have hfb_8 := blk_frozen kb 8
 have hcr_8 := (blk_cell kr 8).trans rfl
 have hfr_8 := blk_frozen kr 8
 have hcc_9 := (blk_cell ka 9).trans rfl
 have hcb_9 := (blk_cell kb 9).trans rfl
 have hfb_9 := blk_frozen kb 9
 have hcr_9 := (blk_cell kr 9).trans rfl
 have hfr_9 := blk_frozen kr 9
 have hcc_10 := (blk_cell ka 10).trans rfl
 have hcb_10 := (blk_cell kb 10).trans rfl
 have hfb_10 := blk_frozen kb 10
 have hcr_10 := (blk_cell kr 10).trans rfl
 have hfr_10 := blk_frozen kr 10
 go_wp2
 go_region
 go_wp2
 refine bodyPost_ret (results_cell_row rfl _ _ gr 37 _ (0, 0) _ rfl (blk_drew (blk_set (blk_set (blk_set (blk_set (blk_set (blk_set (blk_set (blk_set (blk_set (blk_set (blk_set (blk_far (blk_far kr (p := ⟨gb, _, none⟩) NBr_b.out _) (p := ⟨gb, _, none⟩) NBr_b.out _) 0 _) 1 _) 2 _) 3 _) 4 _) 5 _) 6 _) 7 _) 8 _) 9 _) 10 _)) Try.underlying37 rfl (by kernel_rfl)) rfl ?_
 exact ⟨by simp only [List.setIfInBounds_toArray, List.set_cons_zero, List.set_cons_succ], (by refine Below.drew ?_; (iterate 11 refine Below.setCell (p := ⟨gr, _, none⟩) ?_ GEr.out _); (iterate 2 refine Below.setCell (p := ⟨gb, _, none⟩) ?_ GEb.out _); exact hB)⟩
theorem msg_bare_2 (a0_0 a0_1 a0_2 a0_3 a0_4 : Int) (a0_5 : Bool) (A6 : Option Addr) (n6 c6 : Nat) (a0_7 a0_8 : Int) (A9 : Option Addr) (n9 c9 : Nat) (a0_10 : ByteArray) (w : World) (e1 : (a0_0 == 1) = false) (e2 : (a0_0 == 2) = true) :
  Calls Try.prog 67 #[.agg #[.int .u8 a0_0, .int .u64 a0_1, .int .u64 a0_2, .int .u64 a0_3, .int .u64 a0_4, .bool a0_5, .slice A6 n6 c6, .int .u64 a0_7, .int .u64 a0_8, .slice A9 n9 c9, .string a0_10]] w fun e w' => e = .returned (.agg #[.int .u8 a0_0, .int .u64 a0_1, .int .u64 0, .int .u64 0, .int .u64 0, .bool a0_5, .slice none 0 0, .int .u64 0, .int .u64 0, .slice none 0 0, .string (⟨#[]⟩ : ByteArray)]) ∧ Below w.heap.size w w' := by
 have HB := a_ (Below.refl w.heap.size w)
 have hu37 := Try.underlying37
 have hu35 := Try.underlying35
 go_enter Try.func67, Try.ntmps67
 go_upto_region 2 with (first | ((with_reducible refine gd_ 1 ?_); refine bx_ 1 #[.int .u8 a0_0, .int .u64 a0_1, .int .u64 a0_2, .int .u64 a0_3, .int .u64 a0_4, .bool a0_5, .slice A6 n6 c6, .int .u64 a0_7, .int .u64 a0_8, .slice A9 n9 c9, .string a0_10] 37 ?_; intro ga hg w_ hbox hb; have BKa := a_ hbox; have GEa := a_ (bs_0 hg HB); replace HB := hB_ (bl_ HB) hb; clear hb hbox hg) | ((with_reducible refine gd_ 2 ?_); refine bx_ 2 #[.int .u8 0, .int .u64 0, .int .u64 0, .int .u64 0, .int .u64 0, .bool false, .slice none 0 0, .int .u64 0, .int .u64 0, .slice none 0 0, .string (⟨#[]⟩ : ByteArray)] 37 ?_; intro gr hg w_ hbox hb; have BKr := a_ hbox; have GEr := a_ (bs_1 hg HB GEa); have NBa_r := nB_ hg BKa; have NBr_a := nC_ hg BKa; replace BKa := bB_ BKa hb; replace HB := hB_ (bl_1 HB GEa) hb; clear hb hbox hg; have hna := NBa_r.out; have hnb := NBr_a.out; have hca_0 := (blk_cell BKa.out 0).trans rfl; have hca_1 := (blk_cell BKa.out 1).trans rfl) | ((with_reducible refine gd_ 3 ?_); refine bx_ 3 #[.int .u8 0, .int .u64 0, .int .u64 0, .int .u64 0, .int .u64 0, .bool false, .slice none 0 0, .int .u64 0, .int .u64 0, .slice none 0 0, .string (⟨#[]⟩ : ByteArray)] 37 ?_; intro gb hg w_ hbox hb; have BKb := a_ hbox; have GEb := a_ (bs_2 hg HB GEa GEr); have NBa_b := nB_ hg BKa; have NBb_a := nC_ hg BKa; have NBr_b := nB_ hg BKr; have NBb_r := nC_ hg BKr; replace BKa := bB_ BKa hb; replace BKr := bB_ BKr hb; replace HB := hB_ (bl_2 HB GEa GEr) hb; clear hb hbox hg; have hnc := NBa_b.out; have hnd := NBb_a.out; have hne := NBr_b.out; have hnf := NBb_r.out; obtain ⟨hcc_0, hcc_1, hcc_2, hcc_3, hcc_4, hcc_5, hcc_6, hcc_7, hcc_8, hcc_9, hcc_10, -⟩ := c11_ BKa; obtain ⟨hcb_0, hcb_1, hcb_2, hcb_3, hcb_4, hcb_5, hcb_6, hcb_7, hcb_8, hcb_9, hcb_10, hfb_0, hfb_1, hfb_2, hfb_3, hfb_4, hfb_5, hfb_6, hfb_7, hfb_8, hfb_9, hfb_10⟩ := c11_ BKb; have hcr_0 := (blk_cell BKr.out 0).trans rfl; have hfr_0 := blk_frozen BKr.out 0; have hcr_1 := (blk_cell BKr.out 1).trans rfl; have hfr_1 := blk_frozen BKr.out 1; have hcr_2 := (blk_cell BKr.out 2).trans rfl; have hfr_2 := blk_frozen BKr.out 2; have hcr_3 := (blk_cell BKr.out 3).trans rfl; have hfr_3 := blk_frozen BKr.out 3; have hcr_4 := (blk_cell BKr.out 4).trans rfl; have hfr_4 := blk_frozen BKr.out 4; have hcr_5 := (blk_cell BKr.out 5).trans rfl; have hfr_5 := blk_frozen BKr.out 5; have hcr_6 := (blk_cell BKr.out 6).trans rfl; have hfr_6 := blk_frozen BKr.out 6; have hcr_7 := (blk_cell BKr.out 7).trans rfl; have hfr_7 := blk_frozen BKr.out 7; have hcr_8 := (blk_cell BKr.out 8).trans rfl; have hfr_8 := blk_frozen BKr.out 8; have hcr_9 := (blk_cell BKr.out 9).trans rfl; have hfr_9 := blk_frozen BKr.out 9; have hcr_10 := (blk_cell BKr.out 10).trans rfl; have hfr_10 := blk_frozen BKr.out 10))
 refine gen_world (fun w1 => w1.heap[gb]? = some (.cells #[.int .u8 a0_0, .int .u64 a0_1, .int .u64 0, .int .u64 0, .int .u64 0, .bool false, .slice none 0 0, .int .u64 0, .int .u64 0, .slice none 0 0, .string (⟨#[]⟩ : ByteArray)] 37 (0, 0)) ∧ w1.heap[gr]? = some (.cells #[.int .u8 0, .int .u64 0, .int .u64 0, .int .u64 0, .int .u64 0, .bool false, .slice none 0 0, .int .u64 0, .int .u64 0, .slice none 0 0, .string (⟨#[]⟩ : ByteArray)] 37 (0, 0)) ∧ w1.heap[ga]? = some (.cells #[.int .u8 a0_0, .int .u64 a0_1, .int .u64 a0_2, .int .u64 a0_3, .int .u64 a0_4, .bool a0_5, .slice A6 n6 c6, .int .u64 a0_7, .int .u64 a0_8, .slice A9 n9 c9, .string a0_10] 37 (0, 0)) ∧ Below w.heap.size w w1) ⟨?_, (by (iterate 11 refine blk_far (p := ⟨gb, _, none⟩) ?_ NBr_b.out _); exact BKr.out), (by (iterate 11 refine blk_far (p := ⟨gb, _, none⟩) ?_ NBa_b.out _); exact BKa.out), (by (iterate 11 refine Below.setCell (p := ⟨gb, _, none⟩) ?_ GEb.out _); exact HB.out)⟩ ?_
 · refine Eq.trans (blk_set (blk_set (blk_set (blk_set (blk_set (blk_set (blk_set (blk_set (blk_set (blk_set (blk_set BKb.out 0 _) 1 _) 2 _) 3 _) 4 _) 5 _) 6 _) 7 _) 8 _) 9 _) 10 _) ?_
   simp only [List.setIfInBounds_toArray, List.set_cons_zero, List.set_cons_succ]
 clear hcc_0 hcb_0 hfb_0 hcr_0 hfr_0 hcc_1 hcb_1 hfb_1 hcr_1 hfr_1 hcc_2 hcb_2 hfb_2 hcr_2 hfr_2 hcc_3 hcb_3 hfb_3 hcr_3 hfr_3 hcc_4 hcb_4 hfb_4 hcr_4 hfr_4 hcc_5 hcb_5 hfb_5 hcr_5 hfr_5 hcc_6 hcb_6 hfb_6 hcr_6 hfr_6 hcc_7 hcb_7 hfb_7 hcr_7 hfr_7 hcc_8 hcb_8 hfb_8 hcr_8 hfr_8 hcc_9 hcb_9 hfb_9 hcr_9 hfr_9 hcc_10 hcb_10 hfb_10 hcr_10 hfr_10 BKb BKr BKa HB
 rintro w1 ⟨kb, kr, ka, hB⟩
 have hcc_0 := (blk_cell ka 0).trans rfl
 have hcb_0 := (blk_cell kb 0).trans rfl
 have hfb_0 := blk_frozen kb 0
 have hcr_0 := (blk_cell kr 0).trans rfl
 have hfr_0 := blk_frozen kr 0
 have hcc_1 := (blk_cell ka 1).trans rfl
 have hcb_1 := (blk_cell kb 1).trans rfl
 have hfb_1 := blk_frozen kb 1
 have hcr_1 := (blk_cell kr 1).trans rfl
 have hfr_1 := blk_frozen kr 1
 have hcc_2 := (blk_cell ka 2).trans rfl
 have hcb_2 := (blk_cell kb 2).trans rfl
 have hfb_2 := blk_frozen kb 2
 have hcr_2 := (blk_cell kr 2).trans rfl
 have hfr_2 := blk_frozen kr 2
 have hcc_3 := (blk_cell ka 3).trans rfl
 have hcb_3 := (blk_cell kb 3).trans rfl
 have hfb_3 := blk_frozen kb 3
 have hcr_3 := (blk_cell kr 3).trans rfl
 have hfr_3 := blk_frozen kr 3
 have hcc_4 := (blk_cell ka 4).trans rfl
 have hcb_4 := (blk_cell kb 4).trans rfl
 have hfb_4 := blk_frozen kb 4
 have hcr_4 := (blk_cell kr 4).trans rfl
 have hfr_4 := blk_frozen kr 4
 have hcc_5 := (blk_cell ka 5).trans rfl
 have hcb_5 := (blk_cell kb 5).trans rfl
 have hfb_5 := blk_frozen kb 5
 have hcr_5 := (blk_cell kr 5).trans rfl
 have hfr_5 := blk_frozen kr 5
 have hcc_6 := (blk_cell ka 6).trans rfl
 have hcb_6 := (blk_cell kb 6).trans rfl
 have hfb_6 := blk_frozen kb 6
 have hcr_6 := (blk_cell kr 6).trans rfl
 have hfr_6 := blk_frozen kr 6
 have hcc_7 := (blk_cell ka 7).trans rfl
 have hcb_7 := (blk_cell kb 7).trans rfl
 have hfb_7 := blk_frozen kb 7
 have hcr_7 := (blk_cell kr 7).trans rfl
 have hfr_7 := blk_frozen kr 7
 have hcc_8 := (blk_cell ka 8).trans rfl
 have hcb_8 := (blk_cell kb 8).trans rfl
 have hfb_8 := blk_frozen kb 8
 have hcr_8 := (blk_cell kr 8).trans rfl
 have hfr_8 := blk_frozen kr 8
 have hcc_9 := (blk_cell ka 9).trans rfl
 have hcb_9 := (blk_cell kb 9).trans rfl
 have hfb_9 := blk_frozen kb 9
 have hcr_9 := (blk_cell kr 9).trans rfl
 have hfr_9 := blk_frozen kr 9
 have hcc_10 := (blk_cell ka 10).trans rfl
 have hcb_10 := (blk_cell kb 10).trans rfl
 have hfb_10 := blk_frozen kb 10
 have hcr_10 := (blk_cell kr 10).trans rfl
 have hfr_10 := blk_frozen kr 10
 go_wp2
 refine bodyPost_ret (results_cell_row rfl _ _ gr 37 _ (0, 0) _ rfl (blk_set (blk_set (blk_set (blk_set (blk_set (blk_set (blk_set (blk_set (blk_set (blk_set (blk_set (blk_far kr (p := ⟨gb, _, none⟩) NBr_b.out _) 0 _) 1 _) 2 _) 3 _) 4 _) 5 _) 6 _) 7 _) 8 _) 9 _) 10 _) Try.underlying37 rfl (by kernel_rfl)) rfl ?_
 exact ⟨by simp only [List.setIfInBounds_toArray, List.set_cons_zero, List.set_cons_succ], (by (iterate 11 refine Below.setCell (p := ⟨gr, _, none⟩) ?_ GEr.out _); (iterate 1 refine Below.setCell (p := ⟨gb, _, none⟩) ?_ GEb.out _); exact hB)⟩
theorem msg_bare_3 (a0_0 a0_1 a0_2 a0_3 a0_4 : Int) (a0_5 : Bool) (A6 : Option Addr) (n6 c6 : Nat) (a0_7 a0_8 : Int) (A9 : Option Addr) (n9 c9 : Nat) (a0_10 : ByteArray) (w : World) (e1 : (a0_0 == 1) = false) (e2 : (a0_0 == 2) = false) (e3 : (a0_0 == 3) = true) :
  Calls Try.prog 67 #[.agg #[.int .u8 a0_0, .int .u64 a0_1, .int .u64 a0_2, .int .u64 a0_3, .int .u64 a0_4, .bool a0_5, .slice A6 n6 c6, .int .u64 a0_7, .int .u64 a0_8, .slice A9 n9 c9, .string a0_10]] w fun e w' => e = .returned (.agg #[.int .u8 a0_0, .int .u64 a0_1, .int .u64 a0_2, .int .u64 a0_3, .int .u64 a0_4, .bool false, .slice A6 n6 c6, .int .u64 0, .int .u64 0, .slice none 0 0, .string (⟨#[]⟩ : ByteArray)]) ∧ Below w.heap.size w w' := by
 have HB := a_ (Below.refl w.heap.size w)
 have hu37 := Try.underlying37
 have hu35 := Try.underlying35
 go_enter Try.func67, Try.ntmps67
 go_upto_region 2 with (first | ((with_reducible refine gd_ 1 ?_); refine bx_ 1 #[.int .u8 a0_0, .int .u64 a0_1, .int .u64 a0_2, .int .u64 a0_3, .int .u64 a0_4, .bool a0_5, .slice A6 n6 c6, .int .u64 a0_7, .int .u64 a0_8, .slice A9 n9 c9, .string a0_10] 37 ?_; intro ga hg w_ hbox hb; have BKa := a_ hbox; have GEa := a_ (bs_0 hg HB); replace HB := hB_ (bl_ HB) hb; clear hb hbox hg) | ((with_reducible refine gd_ 2 ?_); refine bx_ 2 #[.int .u8 0, .int .u64 0, .int .u64 0, .int .u64 0, .int .u64 0, .bool false, .slice none 0 0, .int .u64 0, .int .u64 0, .slice none 0 0, .string (⟨#[]⟩ : ByteArray)] 37 ?_; intro gr hg w_ hbox hb; have BKr := a_ hbox; have GEr := a_ (bs_1 hg HB GEa); have NBa_r := nB_ hg BKa; have NBr_a := nC_ hg BKa; replace BKa := bB_ BKa hb; replace HB := hB_ (bl_1 HB GEa) hb; clear hb hbox hg; have hna := NBa_r.out; have hnb := NBr_a.out; have hca_0 := (blk_cell BKa.out 0).trans rfl; have hca_1 := (blk_cell BKa.out 1).trans rfl) | ((with_reducible refine gd_ 3 ?_); refine bx_ 3 #[.int .u8 0, .int .u64 0, .int .u64 0, .int .u64 0, .int .u64 0, .bool false, .slice none 0 0, .int .u64 0, .int .u64 0, .slice none 0 0, .string (⟨#[]⟩ : ByteArray)] 37 ?_; intro gb hg w_ hbox hb; have BKb := a_ hbox; have GEb := a_ (bs_2 hg HB GEa GEr); have NBa_b := nB_ hg BKa; have NBb_a := nC_ hg BKa; have NBr_b := nB_ hg BKr; have NBb_r := nC_ hg BKr; replace BKa := bB_ BKa hb; replace BKr := bB_ BKr hb; replace HB := hB_ (bl_2 HB GEa GEr) hb; clear hb hbox hg; have hnc := NBa_b.out; have hnd := NBb_a.out; have hne := NBr_b.out; have hnf := NBb_r.out; obtain ⟨hcc_0, hcc_1, hcc_2, hcc_3, hcc_4, hcc_5, hcc_6, hcc_7, hcc_8, hcc_9, hcc_10, -⟩ := c11_ BKa; obtain ⟨hcb_0, hcb_1, hcb_2, hcb_3, hcb_4, hcb_5, hcb_6, hcb_7, hcb_8, hcb_9, hcb_10, hfb_0, hfb_1, hfb_2, hfb_3, hfb_4, hfb_5, hfb_6, hfb_7, hfb_8, hfb_9, hfb_10⟩ := c11_ BKb; have hcr_0 := (blk_cell BKr.out 0).trans rfl; have hfr_0 := blk_frozen BKr.out 0; have hcr_1 := (blk_cell BKr.out 1).trans rfl; have hfr_1 := blk_frozen BKr.out 1; have hcr_2 := (blk_cell BKr.out 2).trans rfl; have hfr_2 := blk_frozen BKr.out 2; have hcr_3 := (blk_cell BKr.out 3).trans rfl; have hfr_3 := blk_frozen BKr.out 3; have hcr_4 := (blk_cell BKr.out 4).trans rfl; have hfr_4 := blk_frozen BKr.out 4; have hcr_5 := (blk_cell BKr.out 5).trans rfl; have hfr_5 := blk_frozen BKr.out 5; have hcr_6 := (blk_cell BKr.out 6).trans rfl; have hfr_6 := blk_frozen BKr.out 6; have hcr_7 := (blk_cell BKr.out 7).trans rfl; have hfr_7 := blk_frozen BKr.out 7; have hcr_8 := (blk_cell BKr.out 8).trans rfl; have hfr_8 := blk_frozen BKr.out 8; have hcr_9 := (blk_cell BKr.out 9).trans rfl; have hfr_9 := blk_frozen BKr.out 9; have hcr_10 := (blk_cell BKr.out 10).trans rfl; have hfr_10 := blk_frozen BKr.out 10))
 refine gen_world (fun w1 => w1.heap[gb]? = some (.cells #[.int .u8 a0_0, .int .u64 a0_1, .int .u64 0, .int .u64 0, .int .u64 0, .bool false, .slice none 0 0, .int .u64 0, .int .u64 0, .slice none 0 0, .string (⟨#[]⟩ : ByteArray)] 37 (0, 0)) ∧ w1.heap[gr]? = some (.cells #[.int .u8 0, .int .u64 0, .int .u64 0, .int .u64 0, .int .u64 0, .bool false, .slice none 0 0, .int .u64 0, .int .u64 0, .slice none 0 0, .string (⟨#[]⟩ : ByteArray)] 37 (0, 0)) ∧ w1.heap[ga]? = some (.cells #[.int .u8 a0_0, .int .u64 a0_1, .int .u64 a0_2, .int .u64 a0_3, .int .u64 a0_4, .bool a0_5, .slice A6 n6 c6, .int .u64 a0_7, .int .u64 a0_8, .slice A9 n9 c9, .string a0_10] 37 (0, 0)) ∧ Below w.heap.size w w1) ⟨?_, (by (iterate 11 refine blk_far (p := ⟨gb, _, none⟩) ?_ NBr_b.out _); exact BKr.out), (by (iterate 11 refine blk_far (p := ⟨gb, _, none⟩) ?_ NBa_b.out _); exact BKa.out), (by (iterate 11 refine Below.setCell (p := ⟨gb, _, none⟩) ?_ GEb.out _); exact HB.out)⟩ ?_
 · refine Eq.trans (blk_set (blk_set (blk_set (blk_set (blk_set (blk_set (blk_set (blk_set (blk_set (blk_set (blk_set BKb.out 0 _) 1 _) 2 _) 3 _) 4 _) 5 _) 6 _) 7 _) 8 _) 9 _) 10 _) ?_
   simp only [List.setIfInBounds_toArray, List.set_cons_zero, List.set_cons_succ]
 clear hcc_0 hcb_0 hfb_0 hcr_0 hfr_0 hcc_1 hcb_1 hfb_1 hcr_1 hfr_1 hcc_2 hcb_2 hfb_2 hcr_2 hfr_2 hcc_3 hcb_3 hfb_3 hcr_3 hfr_3 hcc_4 hcb_4 hfb_4 hcr_4 hfr_4 hcc_5 hcb_5 hfb_5 hcr_5 hfr_5 hcc_6 hcb_6 hfb_6 hcr_6 hfr_6 hcc_7 hcb_7 hfb_7 hcr_7 hfr_7 hcc_8 hcb_8 hfb_8 hcr_8 hfr_8 hcc_9 hcb_9 hfb_9 hcr_9 hfr_9 hcc_10 hcb_10 hfb_10 hcr_10 hfr_10 BKb BKr BKa HB
 rintro w1 ⟨kb, kr, ka, hB⟩
 have hcc_0 := (blk_cell ka 0).trans rfl
 have hcb_0 := (blk_cell kb 0).trans rfl
 have hfb_0 := blk_frozen kb 0
 have hcr_0 := (blk_cell kr 0).trans rfl
 have hfr_0 := blk_frozen kr 0
 have hcc_1 := (blk_cell ka 1).trans rfl
 have hcb_1 := (blk_cell kb 1).trans rfl
 have hfb_1 := blk_frozen kb 1
 have hcr_1 := (blk_cell kr 1).trans rfl
 have hfr_1 := blk_frozen kr 1
 have hcc_2 := (blk_cell ka 2).trans rfl
 have hcb_2 := (blk_cell kb 2).trans rfl
 have hfb_2 := blk_frozen kb 2
 have hcr_2 := (blk_cell kr 2).trans rfl
 have hfr_2 := blk_frozen kr 2
 have hcc_3 := (blk_cell ka 3).trans rfl
 have hcb_3 := (blk_cell kb 3).trans rfl
 have hfb_3 := blk_frozen kb 3
 have hcr_3 := (blk_cell kr 3).trans rfl
 have hfr_3 := blk_frozen kr 3
 have hcc_4 := (blk_cell ka 4).trans rfl
 have hcb_4 := (blk_cell kb 4).trans rfl
 have hfb_4 := blk_frozen kb 4
 have hcr_4 := (blk_cell kr 4).trans rfl
 have hfr_4 := blk_frozen kr 4
 have hcc_5 := (blk_cell ka 5).trans rfl
 have hcb_5 := (blk_cell kb 5).trans rfl
 have hfb_5 := blk_frozen kb 5
 have hcr_5 := (blk_cell kr 5).trans rfl
 have hfr_5 := blk_frozen kr 5
 have hcc_6 := (blk_cell ka 6).trans rfl
 have hcb_6 := (blk_cell kb 6).trans rfl
 have hfb_6 := blk_frozen kb 6
 have hcr_6 := (blk_cell kr 6).trans rfl
 have hfr_6 := blk_frozen kr 6
 have hcc_7 := (blk_cell ka 7).trans rfl
 have hcb_7 := (blk_cell kb 7).trans rfl
 have hfb_7 := blk_frozen kb 7
 have hcr_7 := (blk_cell kr 7).trans rfl
 have hfr_7 := blk_frozen kr 7
 have hcc_8 := (blk_cell ka 8).trans rfl
 have hcb_8 := (blk_cell kb 8).trans rfl
 have hfb_8 := blk_frozen kb 8
 have hcr_8 := (blk_cell kr 8).trans rfl
 have hfr_8 := blk_frozen kr 8
 have hcc_9 := (blk_cell ka 9).trans rfl
 have hcb_9 := (blk_cell kb 9).trans rfl
 have hfb_9 := blk_frozen kb 9
 have hcr_9 := (blk_cell kr 9).trans rfl
 have hfr_9 := blk_frozen kr 9
 have hcc_10 := (blk_cell ka 10).trans rfl
 have hcb_10 := (blk_cell kb 10).trans rfl
 have hfb_10 := blk_frozen kb 10
 have hcr_10 := (blk_cell kr 10).trans rfl
 have hfr_10 := blk_frozen kr 10
 have hs_ : ∀ x0 x1 x2 : Value, (((w1.setCell ⟨gb, 2, none⟩ x0).setCell ⟨gb, 3, none⟩ x1).setCell ⟨gb, 4, none⟩ x2).cell? ⟨gb, 6, none⟩ = some (.slice none 0 0) := fun _ _ _ => by rw [World.cell?_setCell_other, World.cell?_setCell_other, World.cell?_setCell_other]; exact hcb_6; all_goals (intro h; injection h with _ h2 _; exact absurd h2 (by decide))
 go_wp2
 go_region
 go_wp2
 refine bodyPost_ret (results_cell_row rfl _ _ gr 37 _ (0, 0) _ rfl (blk_drew (blk_set (blk_set (blk_set (blk_set (blk_set (blk_set (blk_set (blk_set (blk_set (blk_set (blk_set (blk_far (blk_far (blk_far (blk_far kr (p := ⟨gb, _, none⟩) NBr_b.out _) (p := ⟨gb, _, none⟩) NBr_b.out _) (p := ⟨gb, _, none⟩) NBr_b.out _) (p := ⟨gb, _, none⟩) NBr_b.out _) 0 _) 1 _) 2 _) 3 _) 4 _) 5 _) 6 _) 7 _) 8 _) 9 _) 10 _)) Try.underlying37 rfl (by kernel_rfl)) rfl ?_
 exact ⟨by simp only [List.setIfInBounds_toArray, List.set_cons_zero, List.set_cons_succ], (by refine Below.drew ?_; (iterate 11 refine Below.setCell (p := ⟨gr, _, none⟩) ?_ GEr.out _); (iterate 4 refine Below.setCell (p := ⟨gb, _, none⟩) ?_ GEb.out _); exact hB)⟩
theorem msg_bare_4 (a0_0 a0_1 a0_2 a0_3 a0_4 : Int) (a0_5 : Bool) (A6 : Option Addr) (n6 c6 : Nat) (a0_7 a0_8 : Int) (A9 : Option Addr) (n9 c9 : Nat) (a0_10 : ByteArray) (w : World) (e1 : (a0_0 == 1) = false) (e2 : (a0_0 == 2) = false) (e3 : (a0_0 == 3) = false) (e4 : (a0_0 == 4) = true) :
  Calls Try.prog 67 #[.agg #[.int .u8 a0_0, .int .u64 a0_1, .int .u64 a0_2, .int .u64 a0_3, .int .u64 a0_4, .bool a0_5, .slice A6 n6 c6, .int .u64 a0_7, .int .u64 a0_8, .slice A9 n9 c9, .string a0_10]] w fun e w' => e = .returned (.agg #[.int .u8 a0_0, .int .u64 a0_1, .int .u64 a0_2, .int .u64 0, .int .u64 0, .bool a0_5, .slice none 0 0, .int .u64 0, .int .u64 0, .slice none 0 0, .string (⟨#[]⟩ : ByteArray)]) ∧ Below w.heap.size w w' := by
 have HB := a_ (Below.refl w.heap.size w)
 have hu37 := Try.underlying37
 have hu35 := Try.underlying35
 go_enter Try.func67, Try.ntmps67
 go_upto_region 2 with (first | ((with_reducible refine gd_ 1 ?_); refine bx_ 1 #[.int .u8 a0_0, .int .u64 a0_1, .int .u64 a0_2, .int .u64 a0_3, .int .u64 a0_4, .bool a0_5, .slice A6 n6 c6, .int .u64 a0_7, .int .u64 a0_8, .slice A9 n9 c9, .string a0_10] 37 ?_; intro ga hg w_ hbox hb; have BKa := a_ hbox; have GEa := a_ (bs_0 hg HB); replace HB := hB_ (bl_ HB) hb; clear hb hbox hg) | ((with_reducible refine gd_ 2 ?_); refine bx_ 2 #[.int .u8 0, .int .u64 0, .int .u64 0, .int .u64 0, .int .u64 0, .bool false, .slice none 0 0, .int .u64 0, .int .u64 0, .slice none 0 0, .string (⟨#[]⟩ : ByteArray)] 37 ?_; intro gr hg w_ hbox hb; have BKr := a_ hbox; have GEr := a_ (bs_1 hg HB GEa); have NBa_r := nB_ hg BKa; have NBr_a := nC_ hg BKa; replace BKa := bB_ BKa hb; replace HB := hB_ (bl_1 HB GEa) hb; clear hb hbox hg; have hna := NBa_r.out; have hnb := NBr_a.out; have hca_0 := (blk_cell BKa.out 0).trans rfl; have hca_1 := (blk_cell BKa.out 1).trans rfl) | ((with_reducible refine gd_ 3 ?_); refine bx_ 3 #[.int .u8 0, .int .u64 0, .int .u64 0, .int .u64 0, .int .u64 0, .bool false, .slice none 0 0, .int .u64 0, .int .u64 0, .slice none 0 0, .string (⟨#[]⟩ : ByteArray)] 37 ?_; intro gb hg w_ hbox hb; have BKb := a_ hbox; have GEb := a_ (bs_2 hg HB GEa GEr); have NBa_b := nB_ hg BKa; have NBb_a := nC_ hg BKa; have NBr_b := nB_ hg BKr; have NBb_r := nC_ hg BKr; replace BKa := bB_ BKa hb; replace BKr := bB_ BKr hb; replace HB := hB_ (bl_2 HB GEa GEr) hb; clear hb hbox hg; have hnc := NBa_b.out; have hnd := NBb_a.out; have hne := NBr_b.out; have hnf := NBb_r.out; obtain ⟨hcc_0, hcc_1, hcc_2, hcc_3, hcc_4, hcc_5, hcc_6, hcc_7, hcc_8, hcc_9, hcc_10, -⟩ := c11_ BKa; obtain ⟨hcb_0, hcb_1, hcb_2, hcb_3, hcb_4, hcb_5, hcb_6, hcb_7, hcb_8, hcb_9, hcb_10, hfb_0, hfb_1, hfb_2, hfb_3, hfb_4, hfb_5, hfb_6, hfb_7, hfb_8, hfb_9, hfb_10⟩ := c11_ BKb; have hcr_0 := (blk_cell BKr.out 0).trans rfl; have hfr_0 := blk_frozen BKr.out 0; have hcr_1 := (blk_cell BKr.out 1).trans rfl; have hfr_1 := blk_frozen BKr.out 1; have hcr_2 := (blk_cell BKr.out 2).trans rfl; have hfr_2 := blk_frozen BKr.out 2; have hcr_3 := (blk_cell BKr.out 3).trans rfl; have hfr_3 := blk_frozen BKr.out 3; have hcr_4 := (blk_cell BKr.out 4).trans rfl; have hfr_4 := blk_frozen BKr.out 4; have hcr_5 := (blk_cell BKr.out 5).trans rfl; have hfr_5 := blk_frozen BKr.out 5; have hcr_6 := (blk_cell BKr.out 6).trans rfl; have hfr_6 := blk_frozen BKr.out 6; have hcr_7 := (blk_cell BKr.out 7).trans rfl; have hfr_7 := blk_frozen BKr.out 7; have hcr_8 := (blk_cell BKr.out 8).trans rfl; have hfr_8 := blk_frozen BKr.out 8; have hcr_9 := (blk_cell BKr.out 9).trans rfl; have hfr_9 := blk_frozen BKr.out 9; have hcr_10 := (blk_cell BKr.out 10).trans rfl; have hfr_10 := blk_frozen BKr.out 10))
 refine gen_world (fun w1 => w1.heap[gb]? = some (.cells #[.int .u8 a0_0, .int .u64 a0_1, .int .u64 0, .int .u64 0, .int .u64 0, .bool false, .slice none 0 0, .int .u64 0, .int .u64 0, .slice none 0 0, .string (⟨#[]⟩ : ByteArray)] 37 (0, 0)) ∧ w1.heap[gr]? = some (.cells #[.int .u8 0, .int .u64 0, .int .u64 0, .int .u64 0, .int .u64 0, .bool false, .slice none 0 0, .int .u64 0, .int .u64 0, .slice none 0 0, .string (⟨#[]⟩ : ByteArray)] 37 (0, 0)) ∧ w1.heap[ga]? = some (.cells #[.int .u8 a0_0, .int .u64 a0_1, .int .u64 a0_2, .int .u64 a0_3, .int .u64 a0_4, .bool a0_5, .slice A6 n6 c6, .int .u64 a0_7, .int .u64 a0_8, .slice A9 n9 c9, .string a0_10] 37 (0, 0)) ∧ Below w.heap.size w w1) ⟨?_, (by (iterate 11 refine blk_far (p := ⟨gb, _, none⟩) ?_ NBr_b.out _); exact BKr.out), (by (iterate 11 refine blk_far (p := ⟨gb, _, none⟩) ?_ NBa_b.out _); exact BKa.out), (by (iterate 11 refine Below.setCell (p := ⟨gb, _, none⟩) ?_ GEb.out _); exact HB.out)⟩ ?_
 · refine Eq.trans (blk_set (blk_set (blk_set (blk_set (blk_set (blk_set (blk_set (blk_set (blk_set (blk_set (blk_set BKb.out 0 _) 1 _) 2 _) 3 _) 4 _) 5 _) 6 _) 7 _) 8 _) 9 _) 10 _) ?_
   simp only [List.setIfInBounds_toArray, List.set_cons_zero, List.set_cons_succ]
 clear hcc_0 hcb_0 hfb_0 hcr_0 hfr_0 hcc_1 hcb_1 hfb_1 hcr_1 hfr_1 hcc_2 hcb_2 hfb_2 hcr_2 hfr_2 hcc_3 hcb_3 hfb_3 hcr_3 hfr_3 hcc_4 hcb_4 hfb_4 hcr_4 hfr_4 hcc_5 hcb_5 hfb_5 hcr_5 hfr_5 hcc_6 hcb_6 hfb_6 hcr_6 hfr_6 hcc_7 hcb_7 hfb_7 hcr_7 hfr_7 hcc_8 hcb_8 hfb_8 hcr_8 hfr_8 hcc_9 hcb_9 hfb_9 hcr_9 hfr_9 hcc_10 hcb_10 hfb_10 hcr_10 hfr_10 BKb BKr BKa HB
 rintro w1 ⟨kb, kr, ka, hB⟩
 have hcc_0 := (blk_cell ka 0).trans rfl
 have hcb_0 := (blk_cell kb 0).trans rfl
 have hfb_0 := blk_frozen kb 0
 have hcr_0 := (blk_cell kr 0).trans rfl
 have hfr_0 := blk_frozen kr 0
 have hcc_1 := (blk_cell ka 1).trans rfl
 have hcb_1 := (blk_cell kb 1).trans rfl
 have hfb_1 := blk_frozen kb 1
 have hcr_1 := (blk_cell kr 1).trans rfl
 have hfr_1 := blk_frozen kr 1
 have hcc_2 := (blk_cell ka 2).trans rfl
 have hcb_2 := (blk_cell kb 2).trans rfl
 have hfb_2 := blk_frozen kb 2
 have hcr_2 := (blk_cell kr 2).trans rfl
 have hfr_2 := blk_frozen kr 2
 have hcc_3 := (blk_cell ka 3).trans rfl
 have hcb_3 := (blk_cell kb 3).trans rfl
 have hfb_3 := blk_frozen kb 3
 have hcr_3 := (blk_cell kr 3).trans rfl
 have hfr_3 := blk_frozen kr 3
 have hcc_4 := (blk_cell ka 4).trans rfl
 have hcb_4 := (blk_cell kb 4).trans rfl
 have hfb_4 := blk_frozen kb 4
 have hcr_4 := (blk_cell kr 4).trans rfl
 have hfr_4 := blk_frozen kr 4
 have hcc_5 := (blk_cell ka 5).trans rfl
 have hcb_5 := (blk_cell kb 5).trans rfl
 have hfb_5 := blk_frozen kb 5
 have hcr_5 := (blk_cell kr 5).trans rfl
 have hfr_5 := blk_frozen kr 5
 have hcc_6 := (blk_cell ka 6).trans rfl
 have hcb_6 := (blk_cell kb 6).trans rfl
 have hfb_6 := blk_frozen kb 6
 have hcr_6 := (blk_cell kr 6).trans rfl
 have hfr_6 := blk_frozen kr 6
 have hcc_7 := (blk_cell ka 7).trans rfl
 have hcb_7 := (blk_cell kb 7).trans rfl
 have hfb_7 := blk_frozen kb 7
 have hcr_7 := (blk_cell kr 7).trans rfl
 have hfr_7 := blk_frozen kr 7
 have hcc_8 := (blk_cell ka 8).trans rfl
 have hcb_8 := (blk_cell kb 8).trans rfl
 have hfb_8 := blk_frozen kb 8
 have hcr_8 := (blk_cell kr 8).trans rfl
 have hfr_8 := blk_frozen kr 8
 have hcc_9 := (blk_cell ka 9).trans rfl
 have hcb_9 := (blk_cell kb 9).trans rfl
 have hfb_9 := blk_frozen kb 9
 have hcr_9 := (blk_cell kr 9).trans rfl
 have hfr_9 := blk_frozen kr 9
 have hcc_10 := (blk_cell ka 10).trans rfl
 have hcb_10 := (blk_cell kb 10).trans rfl
 have hfb_10 := blk_frozen kb 10
 have hcr_10 := (blk_cell kr 10).trans rfl
 have hfr_10 := blk_frozen kr 10
 go_wp2
 go_region
 go_wp2
 refine bodyPost_ret (results_cell_row rfl _ _ gr 37 _ (0, 0) _ rfl (blk_drew (blk_set (blk_set (blk_set (blk_set (blk_set (blk_set (blk_set (blk_set (blk_set (blk_set (blk_set (blk_far (blk_far kr (p := ⟨gb, _, none⟩) NBr_b.out _) (p := ⟨gb, _, none⟩) NBr_b.out _) 0 _) 1 _) 2 _) 3 _) 4 _) 5 _) 6 _) 7 _) 8 _) 9 _) 10 _)) Try.underlying37 rfl (by kernel_rfl)) rfl ?_
 exact ⟨by simp only [List.setIfInBounds_toArray, List.set_cons_zero, List.set_cons_succ], (by refine Below.drew ?_; (iterate 11 refine Below.setCell (p := ⟨gr, _, none⟩) ?_ GEr.out _); (iterate 2 refine Below.setCell (p := ⟨gb, _, none⟩) ?_ GEb.out _); exact hB)⟩
theorem msg_bare_5 (a0_0 a0_1 a0_2 a0_3 a0_4 : Int) (a0_5 : Bool) (A6 : Option Addr) (n6 c6 : Nat) (a0_7 a0_8 : Int) (A9 : Option Addr) (n9 c9 : Nat) (a0_10 : ByteArray) (w : World) (e1 : (a0_0 == 1) = false) (e2 : (a0_0 == 2) = false) (e3 : (a0_0 == 3) = false) (e4 : (a0_0 == 4) = false) (e5 : (a0_0 == 5) = true) :
  Calls Try.prog 67 #[.agg #[.int .u8 a0_0, .int .u64 a0_1, .int .u64 a0_2, .int .u64 a0_3, .int .u64 a0_4, .bool a0_5, .slice A6 n6 c6, .int .u64 a0_7, .int .u64 a0_8, .slice A9 n9 c9, .string a0_10]] w fun e w' => e = .returned (.agg #[.int .u8 a0_0, .int .u64 a0_1, .int .u64 0, .int .u64 0, .int .u64 0, .bool false, .slice none 0 0, .int .u64 a0_7, .int .u64 a0_8, .slice A9 n9 c9, .string a0_10]) ∧ Below w.heap.size w w' := by
 have HB := a_ (Below.refl w.heap.size w)
 have hu37 := Try.underlying37
 have hu35 := Try.underlying35
 go_enter Try.func67, Try.ntmps67
 go_upto_region 2 with (first | ((with_reducible refine gd_ 1 ?_); refine bx_ 1 #[.int .u8 a0_0, .int .u64 a0_1, .int .u64 a0_2, .int .u64 a0_3, .int .u64 a0_4, .bool a0_5, .slice A6 n6 c6, .int .u64 a0_7, .int .u64 a0_8, .slice A9 n9 c9, .string a0_10] 37 ?_; intro ga hg w_ hbox hb; have BKa := a_ hbox; have GEa := a_ (bs_0 hg HB); replace HB := hB_ (bl_ HB) hb; clear hb hbox hg) | ((with_reducible refine gd_ 2 ?_); refine bx_ 2 #[.int .u8 0, .int .u64 0, .int .u64 0, .int .u64 0, .int .u64 0, .bool false, .slice none 0 0, .int .u64 0, .int .u64 0, .slice none 0 0, .string (⟨#[]⟩ : ByteArray)] 37 ?_; intro gr hg w_ hbox hb; have BKr := a_ hbox; have GEr := a_ (bs_1 hg HB GEa); have NBa_r := nB_ hg BKa; have NBr_a := nC_ hg BKa; replace BKa := bB_ BKa hb; replace HB := hB_ (bl_1 HB GEa) hb; clear hb hbox hg; have hna := NBa_r.out; have hnb := NBr_a.out; have hca_0 := (blk_cell BKa.out 0).trans rfl; have hca_1 := (blk_cell BKa.out 1).trans rfl) | ((with_reducible refine gd_ 3 ?_); refine bx_ 3 #[.int .u8 0, .int .u64 0, .int .u64 0, .int .u64 0, .int .u64 0, .bool false, .slice none 0 0, .int .u64 0, .int .u64 0, .slice none 0 0, .string (⟨#[]⟩ : ByteArray)] 37 ?_; intro gb hg w_ hbox hb; have BKb := a_ hbox; have GEb := a_ (bs_2 hg HB GEa GEr); have NBa_b := nB_ hg BKa; have NBb_a := nC_ hg BKa; have NBr_b := nB_ hg BKr; have NBb_r := nC_ hg BKr; replace BKa := bB_ BKa hb; replace BKr := bB_ BKr hb; replace HB := hB_ (bl_2 HB GEa GEr) hb; clear hb hbox hg; have hnc := NBa_b.out; have hnd := NBb_a.out; have hne := NBr_b.out; have hnf := NBb_r.out; obtain ⟨hcc_0, hcc_1, hcc_2, hcc_3, hcc_4, hcc_5, hcc_6, hcc_7, hcc_8, hcc_9, hcc_10, -⟩ := c11_ BKa; obtain ⟨hcb_0, hcb_1, hcb_2, hcb_3, hcb_4, hcb_5, hcb_6, hcb_7, hcb_8, hcb_9, hcb_10, hfb_0, hfb_1, hfb_2, hfb_3, hfb_4, hfb_5, hfb_6, hfb_7, hfb_8, hfb_9, hfb_10⟩ := c11_ BKb; have hcr_0 := (blk_cell BKr.out 0).trans rfl; have hfr_0 := blk_frozen BKr.out 0; have hcr_1 := (blk_cell BKr.out 1).trans rfl; have hfr_1 := blk_frozen BKr.out 1; have hcr_2 := (blk_cell BKr.out 2).trans rfl; have hfr_2 := blk_frozen BKr.out 2; have hcr_3 := (blk_cell BKr.out 3).trans rfl; have hfr_3 := blk_frozen BKr.out 3; have hcr_4 := (blk_cell BKr.out 4).trans rfl; have hfr_4 := blk_frozen BKr.out 4; have hcr_5 := (blk_cell BKr.out 5).trans rfl; have hfr_5 := blk_frozen BKr.out 5; have hcr_6 := (blk_cell BKr.out 6).trans rfl; have hfr_6 := blk_frozen BKr.out 6; have hcr_7 := (blk_cell BKr.out 7).trans rfl; have hfr_7 := blk_frozen BKr.out 7; have hcr_8 := (blk_cell BKr.out 8).trans rfl; have hfr_8 := blk_frozen BKr.out 8; have hcr_9 := (blk_cell BKr.out 9).trans rfl; have hfr_9 := blk_frozen BKr.out 9; have hcr_10 := (blk_cell BKr.out 10).trans rfl; have hfr_10 := blk_frozen BKr.out 10))
 refine gen_world (fun w1 => w1.heap[gb]? = some (.cells #[.int .u8 a0_0, .int .u64 a0_1, .int .u64 0, .int .u64 0, .int .u64 0, .bool false, .slice none 0 0, .int .u64 0, .int .u64 0, .slice none 0 0, .string (⟨#[]⟩ : ByteArray)] 37 (0, 0)) ∧ w1.heap[gr]? = some (.cells #[.int .u8 0, .int .u64 0, .int .u64 0, .int .u64 0, .int .u64 0, .bool false, .slice none 0 0, .int .u64 0, .int .u64 0, .slice none 0 0, .string (⟨#[]⟩ : ByteArray)] 37 (0, 0)) ∧ w1.heap[ga]? = some (.cells #[.int .u8 a0_0, .int .u64 a0_1, .int .u64 a0_2, .int .u64 a0_3, .int .u64 a0_4, .bool a0_5, .slice A6 n6 c6, .int .u64 a0_7, .int .u64 a0_8, .slice A9 n9 c9, .string a0_10] 37 (0, 0)) ∧ Below w.heap.size w w1) ⟨?_, (by (iterate 11 refine blk_far (p := ⟨gb, _, none⟩) ?_ NBr_b.out _); exact BKr.out), (by (iterate 11 refine blk_far (p := ⟨gb, _, none⟩) ?_ NBa_b.out _); exact BKa.out), (by (iterate 11 refine Below.setCell (p := ⟨gb, _, none⟩) ?_ GEb.out _); exact HB.out)⟩ ?_
 · refine Eq.trans (blk_set (blk_set (blk_set (blk_set (blk_set (blk_set (blk_set (blk_set (blk_set (blk_set (blk_set BKb.out 0 _) 1 _) 2 _) 3 _) 4 _) 5 _) 6 _) 7 _) 8 _) 9 _) 10 _) ?_
   simp only [List.setIfInBounds_toArray, List.set_cons_zero, List.set_cons_succ]
 clear hcc_0 hcb_0 hfb_0 hcr_0 hfr_0 hcc_1 hcb_1 hfb_1 hcr_1 hfr_1 hcc_2 hcb_2 hfb_2 hcr_2 hfr_2 hcc_3 hcb_3 hfb_3 hcr_3 hfr_3 hcc_4 hcb_4 hfb_4 hcr_4 hfr_4 hcc_5 hcb_5 hfb_5 hcr_5 hfr_5 hcc_6 hcb_6 hfb_6 hcr_6 hfr_6 hcc_7 hcb_7 hfb_7 hcr_7 hfr_7 hcc_8 hcb_8 hfb_8 hcr_8 hfr_8 hcc_9 hcb_9 hfb_9 hcr_9 hfr_9 hcc_10 hcb_10 hfb_10 hcr_10 hfr_10 BKb BKr BKa HB
 rintro w1 ⟨kb, kr, ka, hB⟩
 have hcc_0 := (blk_cell ka 0).trans rfl
 have hcb_0 := (blk_cell kb 0).trans rfl
 have hfb_0 := blk_frozen kb 0
 have hcr_0 := (blk_cell kr 0).trans rfl
 have hfr_0 := blk_frozen kr 0
 have hcc_1 := (blk_cell ka 1).trans rfl
 have hcb_1 := (blk_cell kb 1).trans rfl
 have hfb_1 := blk_frozen kb 1
 have hcr_1 := (blk_cell kr 1).trans rfl
 have hfr_1 := blk_frozen kr 1
 have hcc_2 := (blk_cell ka 2).trans rfl
 have hcb_2 := (blk_cell kb 2).trans rfl
 have hfb_2 := blk_frozen kb 2
 have hcr_2 := (blk_cell kr 2).trans rfl
 have hfr_2 := blk_frozen kr 2
 have hcc_3 := (blk_cell ka 3).trans rfl
 have hcb_3 := (blk_cell kb 3).trans rfl
 have hfb_3 := blk_frozen kb 3
 have hcr_3 := (blk_cell kr 3).trans rfl
 have hfr_3 := blk_frozen kr 3
 have hcc_4 := (blk_cell ka 4).trans rfl
 have hcb_4 := (blk_cell kb 4).trans rfl
 have hfb_4 := blk_frozen kb 4
 have hcr_4 := (blk_cell kr 4).trans rfl
 have hfr_4 := blk_frozen kr 4
 have hcc_5 := (blk_cell ka 5).trans rfl
 have hcb_5 := (blk_cell kb 5).trans rfl
 have hfb_5 := blk_frozen kb 5
 have hcr_5 := (blk_cell kr 5).trans rfl
 have hfr_5 := blk_frozen kr 5
 have hcc_6 := (blk_cell ka 6).trans rfl
 have hcb_6 := (blk_cell kb 6).trans rfl
 have hfb_6 := blk_frozen kb 6
 have hcr_6 := (blk_cell kr 6).trans rfl
 have hfr_6 := blk_frozen kr 6
 have hcc_7 := (blk_cell ka 7).trans rfl
 have hcb_7 := (blk_cell kb 7).trans rfl
 have hfb_7 := blk_frozen kb 7
 have hcr_7 := (blk_cell kr 7).trans rfl
 have hfr_7 := blk_frozen kr 7
 have hcc_8 := (blk_cell ka 8).trans rfl
 have hcb_8 := (blk_cell kb 8).trans rfl
 have hfb_8 := blk_frozen kb 8
 have hcr_8 := (blk_cell kr 8).trans rfl
 have hfr_8 := blk_frozen kr 8
 have hcc_9 := (blk_cell ka 9).trans rfl
 have hcb_9 := (blk_cell kb 9).trans rfl
 have hfb_9 := blk_frozen kb 9
 have hcr_9 := (blk_cell kr 9).trans rfl
 have hfr_9 := blk_frozen kr 9
 have hcc_10 := (blk_cell ka 10).trans rfl
 have hcb_10 := (blk_cell kb 10).trans rfl
 have hfb_10 := blk_frozen kb 10
 have hcr_10 := (blk_cell kr 10).trans rfl
 have hfr_10 := blk_frozen kr 10
 have hs_ : ∀ x0 x1 x2 : Value, (((w1.setCell ⟨gb, 7, none⟩ x0).setCell ⟨gb, 8, none⟩ x1).setCell ⟨gb, 9, none⟩ x2).cell? ⟨gb, 10, none⟩ = some (.string (⟨#[]⟩ : ByteArray)) := fun _ _ _ => by rw [World.cell?_setCell_other, World.cell?_setCell_other, World.cell?_setCell_other]; exact hcb_10; all_goals (intro h; injection h with _ h2 _; exact absurd h2 (by decide))
 go_wp2
 refine bodyPost_ret (results_cell_row rfl _ _ gr 37 _ (0, 0) _ rfl (blk_set (blk_set (blk_set (blk_set (blk_set (blk_set (blk_set (blk_set (blk_set (blk_set (blk_set (blk_far (blk_far (blk_far (blk_far kr (p := ⟨gb, _, none⟩) NBr_b.out _) (p := ⟨gb, _, none⟩) NBr_b.out _) (p := ⟨gb, _, none⟩) NBr_b.out _) (p := ⟨gb, _, none⟩) NBr_b.out _) 0 _) 1 _) 2 _) 3 _) 4 _) 5 _) 6 _) 7 _) 8 _) 9 _) 10 _) Try.underlying37 rfl (by kernel_rfl)) rfl ?_
 exact ⟨by simp only [List.setIfInBounds_toArray, List.set_cons_zero, List.set_cons_succ], (by (iterate 11 refine Below.setCell (p := ⟨gr, _, none⟩) ?_ GEr.out _); (iterate 4 refine Below.setCell (p := ⟨gb, _, none⟩) ?_ GEb.out _); exact hB)⟩
theorem msg_bare_0 (a0_0 a0_1 a0_2 a0_3 a0_4 : Int) (a0_5 : Bool) (A6 : Option Addr) (n6 c6 : Nat) (a0_7 a0_8 : Int) (A9 : Option Addr) (n9 c9 : Nat) (a0_10 : ByteArray) (w : World) (e1 : (a0_0 == 1) = false) (e2 : (a0_0 == 2) = false) (e3 : (a0_0 == 3) = false) (e4 : (a0_0 == 4) = false) (e5 : (a0_0 == 5) = false) :
  Calls Try.prog 67 #[.agg #[.int .u8 a0_0, .int .u64 a0_1, .int .u64 a0_2, .int .u64 a0_3, .int .u64 a0_4, .bool a0_5, .slice A6 n6 c6, .int .u64 a0_7, .int .u64 a0_8, .slice A9 n9 c9, .string a0_10]] w fun e w' => e = .returned (.agg #[.int .u8 a0_0, .int .u64 a0_1, .int .u64 0, .int .u64 0, .int .u64 0, .bool false, .slice none 0 0, .int .u64 0, .int .u64 0, .slice none 0 0, .string (⟨#[]⟩ : ByteArray)]) ∧ Below w.heap.size w w' := by
 have HB := a_ (Below.refl w.heap.size w)
 have hu37 := Try.underlying37
 have hu35 := Try.underlying35
 go_enter Try.func67, Try.ntmps67
 go_upto_region 2 with (first | ((with_reducible refine gd_ 1 ?_); refine bx_ 1 #[.int .u8 a0_0, .int .u64 a0_1, .int .u64 a0_2, .int .u64 a0_3, .int .u64 a0_4, .bool a0_5, .slice A6 n6 c6, .int .u64 a0_7, .int .u64 a0_8, .slice A9 n9 c9, .string a0_10] 37 ?_; intro ga hg w_ hbox hb; have BKa := a_ hbox; have GEa := a_ (bs_0 hg HB); replace HB := hB_ (bl_ HB) hb; clear hb hbox hg) | ((with_reducible refine gd_ 2 ?_); refine bx_ 2 #[.int .u8 0, .int .u64 0, .int .u64 0, .int .u64 0, .int .u64 0, .bool false, .slice none 0 0, .int .u64 0, .int .u64 0, .slice none 0 0, .string (⟨#[]⟩ : ByteArray)] 37 ?_; intro gr hg w_ hbox hb; have BKr := a_ hbox; have GEr := a_ (bs_1 hg HB GEa); have NBa_r := nB_ hg BKa; have NBr_a := nC_ hg BKa; replace BKa := bB_ BKa hb; replace HB := hB_ (bl_1 HB GEa) hb; clear hb hbox hg; have hna := NBa_r.out; have hnb := NBr_a.out; have hca_0 := (blk_cell BKa.out 0).trans rfl; have hca_1 := (blk_cell BKa.out 1).trans rfl) | ((with_reducible refine gd_ 3 ?_); refine bx_ 3 #[.int .u8 0, .int .u64 0, .int .u64 0, .int .u64 0, .int .u64 0, .bool false, .slice none 0 0, .int .u64 0, .int .u64 0, .slice none 0 0, .string (⟨#[]⟩ : ByteArray)] 37 ?_; intro gb hg w_ hbox hb; have BKb := a_ hbox; have GEb := a_ (bs_2 hg HB GEa GEr); have NBa_b := nB_ hg BKa; have NBb_a := nC_ hg BKa; have NBr_b := nB_ hg BKr; have NBb_r := nC_ hg BKr; replace BKa := bB_ BKa hb; replace BKr := bB_ BKr hb; replace HB := hB_ (bl_2 HB GEa GEr) hb; clear hb hbox hg; have hnc := NBa_b.out; have hnd := NBb_a.out; have hne := NBr_b.out; have hnf := NBb_r.out; obtain ⟨hcc_0, hcc_1, hcc_2, hcc_3, hcc_4, hcc_5, hcc_6, hcc_7, hcc_8, hcc_9, hcc_10, -⟩ := c11_ BKa; obtain ⟨hcb_0, hcb_1, hcb_2, hcb_3, hcb_4, hcb_5, hcb_6, hcb_7, hcb_8, hcb_9, hcb_10, hfb_0, hfb_1, hfb_2, hfb_3, hfb_4, hfb_5, hfb_6, hfb_7, hfb_8, hfb_9, hfb_10⟩ := c11_ BKb; have hcr_0 := (blk_cell BKr.out 0).trans rfl; have hfr_0 := blk_frozen BKr.out 0; have hcr_1 := (blk_cell BKr.out 1).trans rfl; have hfr_1 := blk_frozen BKr.out 1; have hcr_2 := (blk_cell BKr.out 2).trans rfl; have hfr_2 := blk_frozen BKr.out 2; have hcr_3 := (blk_cell BKr.out 3).trans rfl; have hfr_3 := blk_frozen BKr.out 3; have hcr_4 := (blk_cell BKr.out 4).trans rfl; have hfr_4 := blk_frozen BKr.out 4; have hcr_5 := (blk_cell BKr.out 5).trans rfl; have hfr_5 := blk_frozen BKr.out 5; have hcr_6 := (blk_cell BKr.out 6).trans rfl; have hfr_6 := blk_frozen BKr.out 6; have hcr_7 := (blk_cell BKr.out 7).trans rfl; have hfr_7 := blk_frozen BKr.out 7; have hcr_8 := (blk_cell BKr.out 8).trans rfl; have hfr_8 := blk_frozen BKr.out 8; have hcr_9 := (blk_cell BKr.out 9).trans rfl; have hfr_9 := blk_frozen BKr.out 9; have hcr_10 := (blk_cell BKr.out 10).trans rfl; have hfr_10 := blk_frozen BKr.out 10))
 refine gen_world (fun w1 => w1.heap[gb]? = some (.cells #[.int .u8 a0_0, .int .u64 a0_1, .int .u64 0, .int .u64 0, .int .u64 0, .bool false, .slice none 0 0, .int .u64 0, .int .u64 0, .slice none 0 0, .string (⟨#[]⟩ : ByteArray)] 37 (0, 0)) ∧ w1.heap[gr]? = some (.cells #[.int .u8 0, .int .u64 0, .int .u64 0, .int .u64 0, .int .u64 0, .bool false, .slice none 0 0, .int .u64 0, .int .u64 0, .slice none 0 0, .string (⟨#[]⟩ : ByteArray)] 37 (0, 0)) ∧ w1.heap[ga]? = some (.cells #[.int .u8 a0_0, .int .u64 a0_1, .int .u64 a0_2, .int .u64 a0_3, .int .u64 a0_4, .bool a0_5, .slice A6 n6 c6, .int .u64 a0_7, .int .u64 a0_8, .slice A9 n9 c9, .string a0_10] 37 (0, 0)) ∧ Below w.heap.size w w1) ⟨?_, (by (iterate 11 refine blk_far (p := ⟨gb, _, none⟩) ?_ NBr_b.out _); exact BKr.out), (by (iterate 11 refine blk_far (p := ⟨gb, _, none⟩) ?_ NBa_b.out _); exact BKa.out), (by (iterate 11 refine Below.setCell (p := ⟨gb, _, none⟩) ?_ GEb.out _); exact HB.out)⟩ ?_
 · refine Eq.trans (blk_set (blk_set (blk_set (blk_set (blk_set (blk_set (blk_set (blk_set (blk_set (blk_set (blk_set BKb.out 0 _) 1 _) 2 _) 3 _) 4 _) 5 _) 6 _) 7 _) 8 _) 9 _) 10 _) ?_
   simp only [List.setIfInBounds_toArray, List.set_cons_zero, List.set_cons_succ]
 clear hcc_0 hcb_0 hfb_0 hcr_0 hfr_0 hcc_1 hcb_1 hfb_1 hcr_1 hfr_1 hcc_2 hcb_2 hfb_2 hcr_2 hfr_2 hcc_3 hcb_3 hfb_3 hcr_3 hfr_3 hcc_4 hcb_4 hfb_4 hcr_4 hfr_4 hcc_5 hcb_5 hfb_5 hcr_5 hfr_5 hcc_6 hcb_6 hfb_6 hcr_6 hfr_6 hcc_7 hcb_7 hfb_7 hcr_7 hfr_7 hcc_8 hcb_8 hfb_8 hcr_8 hfr_8 hcc_9 hcb_9 hfb_9 hcr_9 hfr_9 hcc_10 hcb_10 hfb_10 hcr_10 hfr_10 BKb BKr BKa HB
 rintro w1 ⟨kb, kr, ka, hB⟩
 have hcc_0 := (blk_cell ka 0).trans rfl
 have hcb_0 := (blk_cell kb 0).trans rfl
 have hfb_0 := blk_frozen kb 0
 have hcr_0 := (blk_cell kr 0).trans rfl
 have hfr_0 := blk_frozen kr 0
 have hcc_1 := (blk_cell ka 1).trans rfl
 have hcb_1 := (blk_cell kb 1).trans rfl
 have hfb_1 := blk_frozen kb 1
 have hcr_1 := (blk_cell kr 1).trans rfl
 have hfr_1 := blk_frozen kr 1
 have hcc_2 := (blk_cell ka 2).trans rfl
 have hcb_2 := (blk_cell kb 2).trans rfl
 have hfb_2 := blk_frozen kb 2
 have hcr_2 := (blk_cell kr 2).trans rfl
 have hfr_2 := blk_frozen kr 2
 have hcc_3 := (blk_cell ka 3).trans rfl
 have hcb_3 := (blk_cell kb 3).trans rfl
 have hfb_3 := blk_frozen kb 3
 have hcr_3 := (blk_cell kr 3).trans rfl
 have hfr_3 := blk_frozen kr 3
 have hcc_4 := (blk_cell ka 4).trans rfl
 have hcb_4 := (blk_cell kb 4).trans rfl
 have hfb_4 := blk_frozen kb 4
 have hcr_4 := (blk_cell kr 4).trans rfl
 have hfr_4 := blk_frozen kr 4
 have hcc_5 := (blk_cell ka 5).trans rfl
 have hcb_5 := (blk_cell kb 5).trans rfl
 have hfb_5 := blk_frozen kb 5
 have hcr_5 := (blk_cell kr 5).trans rfl
 have hfr_5 := blk_frozen kr 5
 have hcc_6 := (blk_cell ka 6).trans rfl
 have hcb_6 := (blk_cell kb 6).trans rfl
 have hfb_6 := blk_frozen kb 6
 have hcr_6 := (blk_cell kr 6).trans rfl
 have hfr_6 := blk_frozen kr 6
 have hcc_7 := (blk_cell ka 7).trans rfl
 have hcb_7 := (blk_cell kb 7).trans rfl
 have hfb_7 := blk_frozen kb 7
 have hcr_7 := (blk_cell kr 7).trans rfl
 have hfr_7 := blk_frozen kr 7
 have hcc_8 := (blk_cell ka 8).trans rfl
 have hcb_8 := (blk_cell kb 8).trans rfl
 have hfb_8 := blk_frozen kb 8
 have hcr_8 := (blk_cell kr 8).trans rfl
 have hfr_8 := blk_frozen kr 8
 have hcc_9 := (blk_cell ka 9).trans rfl
 have hcb_9 := (blk_cell kb 9).trans rfl
 have hfb_9 := blk_frozen kb 9
 have hcr_9 := (blk_cell kr 9).trans rfl
 have hfr_9 := blk_frozen kr 9
 have hcc_10 := (blk_cell ka 10).trans rfl
 have hcb_10 := (blk_cell kb 10).trans rfl
 have hfb_10 := blk_frozen kb 10
 have hcr_10 := (blk_cell kr 10).trans rfl
 have hfr_10 := blk_frozen kr 10
 go_wp2
 refine bodyPost_ret (results_cell_row rfl _ _ gr 37 _ (0, 0) _ rfl (blk_set (blk_set (blk_set (blk_set (blk_set (blk_set (blk_set (blk_set (blk_set (blk_set (blk_set kr 0 _) 1 _) 2 _) 3 _) 4 _) 5 _) 6 _) 7 _) 8 _) 9 _) 10 _) Try.underlying37 rfl (by kernel_rfl)) rfl ?_
 exact ⟨by simp only [List.setIfInBounds_toArray, List.set_cons_zero, List.set_cons_succ], (by (iterate 11 refine Below.setCell (p := ⟨gr, _, none⟩) ?_ GEr.out _); exact hB)⟩
def msg_whole.w (a0_0 a0_2 a0_3 a0_4 : Int) (a0_5 : Bool) (l0_6 : List S67) (nn : Bool) : Bool := if a0_0 = 1 then ((a0_4 == 0) && (!a0_5) && ((l0_6.length : Int) == 0) && nn) else if a0_0 = 2 then ((a0_2 == 0) && (a0_3 == 0) && (a0_4 == 0) && ((l0_6.length : Int) == 0) && nn) else if a0_0 = 3 then ((!a0_5) && nn) else if a0_0 = 4 then ((a0_3 == 0) && (a0_4 == 0) && ((l0_6.length : Int) == 0) && nn) else if a0_0 = 5 then ((a0_2 == 0) && (a0_3 == 0) && (a0_4 == 0) && (!a0_5) && ((l0_6.length : Int) == 0)) else ((a0_2 == 0) && (a0_3 == 0) && (a0_4 == 0) && (!a0_5) && ((l0_6.length : Int) == 0) && nn)
def msg_whole.f (a0_0 a0_1 a0_2 a0_3 a0_4 : Int) (a0_5 : Bool) (l0_6 : List S67) (a0_7 a0_8 : Int) (l0_9 : List Int) (a0_10 : ByteArray) : Option Bool := (msg_nothing.f a0_7 a0_8 l0_9 a0_10).bind fun nn => some (msg_whole.w a0_0 a0_2 a0_3 a0_4 a0_5 l0_6 nn)
theorem msg_whole_1 (a0_0 a0_1 a0_2 a0_3 a0_4 : Int) (a0_5 : Bool) (A0_6 : Option Addr) (c0_6 : Nat) (l0_6 : List S67) (a0_7 a0_8 : Int) (A0_9 : Option Addr) (c0_9 : Nat) (l0_9 : List Int) (a0_10 : ByteArray) (nn : Bool) (w : World) (HR9 : Aside0 (Kd.C (Kd.int .i64) w A0_9 l0_9.length l0_9)) (HC9 : Aside0 (l0_9.length ≤ c0_9)) (AN : Aside0 (msg_nothing.f a0_7 a0_8 l0_9 a0_10 = some nn)) (e1 : (a0_0 == 1) = true) (e2 : (a0_0 == 2) = false) (e3 : (a0_0 == 3) = false) (e4 : (a0_0 == 4) = false) (e5 : (a0_0 == 5) = false) :
  Calls Try.prog 35 #[.agg #[.int .u8 a0_0, .int .u64 a0_1, .int .u64 a0_2, .int .u64 a0_3, .int .u64 a0_4, .bool a0_5, .slice A0_6 l0_6.length c0_6, .int .u64 a0_7, .int .u64 a0_8, .slice A0_9 l0_9.length c0_9, .string a0_10]] w fun e w' => e = .returned (.bool ((a0_4 == 0) && (!a0_5) && ((l0_6.length : Int) == 0) && nn)) ∧ Below w.heap.size w w' := by
 have HB := a_ (Below.refl w.heap.size w)
 have hu37 := Try.underlying37
 have hu35 := Try.underlying35
 cases hx4 : (a0_4 == 0)
 case' true =>
  cases hx5 : a0_5
  case' false =>
   cases hx6 : ((l0_6.length : Int) == 0)
   case' true =>
    skip
 all_goals go_enter Try.func35, Try.ntmps35
 all_goals go_wp2_with (first | ((with_reducible refine gd_ 1 ?_); refine bx_ 1 #[.int .u8 a0_0, .int .u64 a0_1, .int .u64 a0_2, .int .u64 a0_3, .int .u64 a0_4, .bool a0_5, .slice A0_6 l0_6.length c0_6, .int .u64 a0_7, .int .u64 a0_8, .slice A0_9 l0_9.length c0_9, .string a0_10] 37 ?_; intro ga hg w_ hbox hb; have BKa := a_ hbox; have GEa := a_ (bs_0 hg HB); replace HB := hB_ (bl_ HB) hb; clear hb hbox hg; obtain ⟨hca_0, hca_1, hca_2, hca_3, hca_4, hca_5, hca_6, hca_7, hca_8, hca_9, hca_10, -⟩ := c11_ BKa) | (go_at_call 67; (with_reducible refine (msg_bare_1 a0_0 _ _ _ _ _ _ _ _ _ _ _ _ _ _ _ e1).mono ?_); rintro e w4 ⟨rfl, hb⟩; replace BKa := bB_ BKa hb; replace HB := hB_ (bl_1 HB GEa) hb; clear hb hca_0 hca_1 hca_2 hca_3 hca_4 hca_5 hca_6 hca_7 hca_8 hca_9 hca_10; have hA_0 := fun o => (blk_cell (blk_alloc BKa.out o) 0).trans rfl; have hA_1 := fun o => (blk_cell (blk_alloc BKa.out o) 1).trans rfl; have hA_2 := fun o => (blk_cell (blk_alloc BKa.out o) 2).trans rfl; have hA_3 := fun o => (blk_cell (blk_alloc BKa.out o) 3).trans rfl; have hA_4 := fun o => (blk_cell (blk_alloc BKa.out o) 4).trans rfl; have hA_5 := fun o => (blk_cell (blk_alloc BKa.out o) 5).trans rfl; have hA_6 := fun o => (blk_cell (blk_alloc BKa.out o) 6).trans rfl; have hA_7 := fun o => (blk_cell (blk_alloc BKa.out o) 7).trans rfl; have hA_8 := fun o => (blk_cell (blk_alloc BKa.out o) 8).trans rfl; have hA_9 := fun o => (blk_cell (blk_alloc BKa.out o) 9).trans rfl; have hA_10 := fun o => (blk_cell (blk_alloc BKa.out o) 10).trans rfl) | (go_at_call 68; (with_reducible refine (msg_nothing.calls a0_7 a0_8 _ _ l0_9 a0_10 nn _ ?side1 ?side2 AN.out).mono ?_); (case side1 => exact Kd.C_below HR9.out (HB.out.alloc HB.out.size _)); (case side2 => exact HC9.out); rintro e w5 ⟨rfl, hb⟩; replace HB := hB_ (HB.out.alloc HB.out.size _) hb; clear hb))
 all_goals go_ret
 all_goals (refine ⟨by simp [*], ?_⟩)
 all_goals (first | exact bl_1 HB GEa | exact HB.out.alloc HB.out.size _)
theorem msg_whole_2 (a0_0 a0_1 a0_2 a0_3 a0_4 : Int) (a0_5 : Bool) (A0_6 : Option Addr) (c0_6 : Nat) (l0_6 : List S67) (a0_7 a0_8 : Int) (A0_9 : Option Addr) (c0_9 : Nat) (l0_9 : List Int) (a0_10 : ByteArray) (nn : Bool) (w : World) (HR9 : Aside0 (Kd.C (Kd.int .i64) w A0_9 l0_9.length l0_9)) (HC9 : Aside0 (l0_9.length ≤ c0_9)) (AN : Aside0 (msg_nothing.f a0_7 a0_8 l0_9 a0_10 = some nn)) (e1 : (a0_0 == 1) = false) (e2 : (a0_0 == 2) = true) (e3 : (a0_0 == 3) = false) (e4 : (a0_0 == 4) = false) (e5 : (a0_0 == 5) = false) :
  Calls Try.prog 35 #[.agg #[.int .u8 a0_0, .int .u64 a0_1, .int .u64 a0_2, .int .u64 a0_3, .int .u64 a0_4, .bool a0_5, .slice A0_6 l0_6.length c0_6, .int .u64 a0_7, .int .u64 a0_8, .slice A0_9 l0_9.length c0_9, .string a0_10]] w fun e w' => e = .returned (.bool ((a0_2 == 0) && (a0_3 == 0) && (a0_4 == 0) && ((l0_6.length : Int) == 0) && nn)) ∧ Below w.heap.size w w' := by
 have HB := a_ (Below.refl w.heap.size w)
 have hu37 := Try.underlying37
 have hu35 := Try.underlying35
 cases hx2 : (a0_2 == 0)
 case' true =>
  cases hx3 : (a0_3 == 0)
  case' true =>
   cases hx4 : (a0_4 == 0)
   case' true =>
    cases hx6 : ((l0_6.length : Int) == 0)
    case' true =>
     skip
 all_goals go_enter Try.func35, Try.ntmps35
 all_goals go_wp2_with (first | ((with_reducible refine gd_ 1 ?_); refine bx_ 1 #[.int .u8 a0_0, .int .u64 a0_1, .int .u64 a0_2, .int .u64 a0_3, .int .u64 a0_4, .bool a0_5, .slice A0_6 l0_6.length c0_6, .int .u64 a0_7, .int .u64 a0_8, .slice A0_9 l0_9.length c0_9, .string a0_10] 37 ?_; intro ga hg w_ hbox hb; have BKa := a_ hbox; have GEa := a_ (bs_0 hg HB); replace HB := hB_ (bl_ HB) hb; clear hb hbox hg; obtain ⟨hca_0, hca_1, hca_2, hca_3, hca_4, hca_5, hca_6, hca_7, hca_8, hca_9, hca_10, -⟩ := c11_ BKa) | (go_at_call 67; (with_reducible refine (msg_bare_2 a0_0 _ _ _ _ _ _ _ _ _ _ _ _ _ _ _ e1 e2).mono ?_); rintro e w4 ⟨rfl, hb⟩; replace BKa := bB_ BKa hb; replace HB := hB_ (bl_1 HB GEa) hb; clear hb hca_0 hca_1 hca_2 hca_3 hca_4 hca_5 hca_6 hca_7 hca_8 hca_9 hca_10; have hA_0 := fun o => (blk_cell (blk_alloc BKa.out o) 0).trans rfl; have hA_1 := fun o => (blk_cell (blk_alloc BKa.out o) 1).trans rfl; have hA_2 := fun o => (blk_cell (blk_alloc BKa.out o) 2).trans rfl; have hA_3 := fun o => (blk_cell (blk_alloc BKa.out o) 3).trans rfl; have hA_4 := fun o => (blk_cell (blk_alloc BKa.out o) 4).trans rfl; have hA_5 := fun o => (blk_cell (blk_alloc BKa.out o) 5).trans rfl; have hA_6 := fun o => (blk_cell (blk_alloc BKa.out o) 6).trans rfl; have hA_7 := fun o => (blk_cell (blk_alloc BKa.out o) 7).trans rfl; have hA_8 := fun o => (blk_cell (blk_alloc BKa.out o) 8).trans rfl; have hA_9 := fun o => (blk_cell (blk_alloc BKa.out o) 9).trans rfl; have hA_10 := fun o => (blk_cell (blk_alloc BKa.out o) 10).trans rfl) | (go_at_call 68; (with_reducible refine (msg_nothing.calls a0_7 a0_8 _ _ l0_9 a0_10 nn _ ?side1 ?side2 AN.out).mono ?_); (case side1 => exact Kd.C_below HR9.out (HB.out.alloc HB.out.size _)); (case side2 => exact HC9.out); rintro e w5 ⟨rfl, hb⟩; replace HB := hB_ (HB.out.alloc HB.out.size _) hb; clear hb))
 all_goals go_ret
 all_goals (refine ⟨by simp [*], ?_⟩)
 all_goals (first | exact bl_1 HB GEa | exact HB.out.alloc HB.out.size _)
theorem msg_whole_3 (a0_0 a0_1 a0_2 a0_3 a0_4 : Int) (a0_5 : Bool) (A0_6 : Option Addr) (c0_6 : Nat) (l0_6 : List S67) (a0_7 a0_8 : Int) (A0_9 : Option Addr) (c0_9 : Nat) (l0_9 : List Int) (a0_10 : ByteArray) (nn : Bool) (w : World) (HR9 : Aside0 (Kd.C (Kd.int .i64) w A0_9 l0_9.length l0_9)) (HC9 : Aside0 (l0_9.length ≤ c0_9)) (AN : Aside0 (msg_nothing.f a0_7 a0_8 l0_9 a0_10 = some nn)) (e1 : (a0_0 == 1) = false) (e2 : (a0_0 == 2) = false) (e3 : (a0_0 == 3) = true) (e4 : (a0_0 == 4) = false) (e5 : (a0_0 == 5) = false) :
  Calls Try.prog 35 #[.agg #[.int .u8 a0_0, .int .u64 a0_1, .int .u64 a0_2, .int .u64 a0_3, .int .u64 a0_4, .bool a0_5, .slice A0_6 l0_6.length c0_6, .int .u64 a0_7, .int .u64 a0_8, .slice A0_9 l0_9.length c0_9, .string a0_10]] w fun e w' => e = .returned (.bool ((!a0_5) && nn)) ∧ Below w.heap.size w w' := by
 have HB := a_ (Below.refl w.heap.size w)
 have hu37 := Try.underlying37
 have hu35 := Try.underlying35
 cases hx5 : a0_5
 case' false =>
  skip
 all_goals go_enter Try.func35, Try.ntmps35
 all_goals go_wp2_with (first | ((with_reducible refine gd_ 1 ?_); refine bx_ 1 #[.int .u8 a0_0, .int .u64 a0_1, .int .u64 a0_2, .int .u64 a0_3, .int .u64 a0_4, .bool a0_5, .slice A0_6 l0_6.length c0_6, .int .u64 a0_7, .int .u64 a0_8, .slice A0_9 l0_9.length c0_9, .string a0_10] 37 ?_; intro ga hg w_ hbox hb; have BKa := a_ hbox; have GEa := a_ (bs_0 hg HB); replace HB := hB_ (bl_ HB) hb; clear hb hbox hg; obtain ⟨hca_0, hca_1, hca_2, hca_3, hca_4, hca_5, hca_6, hca_7, hca_8, hca_9, hca_10, -⟩ := c11_ BKa) | (go_at_call 67; (with_reducible refine (msg_bare_3 a0_0 _ _ _ _ _ _ _ _ _ _ _ _ _ _ _ e1 e2 e3).mono ?_); rintro e w4 ⟨rfl, hb⟩; replace BKa := bB_ BKa hb; replace HB := hB_ (bl_1 HB GEa) hb; clear hb hca_0 hca_1 hca_2 hca_3 hca_4 hca_5 hca_6 hca_7 hca_8 hca_9 hca_10; have hA_0 := fun o => (blk_cell (blk_alloc BKa.out o) 0).trans rfl; have hA_1 := fun o => (blk_cell (blk_alloc BKa.out o) 1).trans rfl; have hA_2 := fun o => (blk_cell (blk_alloc BKa.out o) 2).trans rfl; have hA_3 := fun o => (blk_cell (blk_alloc BKa.out o) 3).trans rfl; have hA_4 := fun o => (blk_cell (blk_alloc BKa.out o) 4).trans rfl; have hA_5 := fun o => (blk_cell (blk_alloc BKa.out o) 5).trans rfl; have hA_6 := fun o => (blk_cell (blk_alloc BKa.out o) 6).trans rfl; have hA_7 := fun o => (blk_cell (blk_alloc BKa.out o) 7).trans rfl; have hA_8 := fun o => (blk_cell (blk_alloc BKa.out o) 8).trans rfl; have hA_9 := fun o => (blk_cell (blk_alloc BKa.out o) 9).trans rfl; have hA_10 := fun o => (blk_cell (blk_alloc BKa.out o) 10).trans rfl) | (go_at_call 68; (with_reducible refine (msg_nothing.calls a0_7 a0_8 _ _ l0_9 a0_10 nn _ ?side1 ?side2 AN.out).mono ?_); (case side1 => exact Kd.C_below HR9.out (HB.out.alloc HB.out.size _)); (case side2 => exact HC9.out); rintro e w5 ⟨rfl, hb⟩; replace HB := hB_ (HB.out.alloc HB.out.size _) hb; clear hb))
 all_goals go_ret
 all_goals (refine ⟨by simp [*], ?_⟩)
 all_goals (first | exact bl_1 HB GEa | exact HB.out.alloc HB.out.size _)
theorem msg_whole_4 (a0_0 a0_1 a0_2 a0_3 a0_4 : Int) (a0_5 : Bool) (A0_6 : Option Addr) (c0_6 : Nat) (l0_6 : List S67) (a0_7 a0_8 : Int) (A0_9 : Option Addr) (c0_9 : Nat) (l0_9 : List Int) (a0_10 : ByteArray) (nn : Bool) (w : World) (HR9 : Aside0 (Kd.C (Kd.int .i64) w A0_9 l0_9.length l0_9)) (HC9 : Aside0 (l0_9.length ≤ c0_9)) (AN : Aside0 (msg_nothing.f a0_7 a0_8 l0_9 a0_10 = some nn)) (e1 : (a0_0 == 1) = false) (e2 : (a0_0 == 2) = false) (e3 : (a0_0 == 3) = false) (e4 : (a0_0 == 4) = true) (e5 : (a0_0 == 5) = false) :
  Calls Try.prog 35 #[.agg #[.int .u8 a0_0, .int .u64 a0_1, .int .u64 a0_2, .int .u64 a0_3, .int .u64 a0_4, .bool a0_5, .slice A0_6 l0_6.length c0_6, .int .u64 a0_7, .int .u64 a0_8, .slice A0_9 l0_9.length c0_9, .string a0_10]] w fun e w' => e = .returned (.bool ((a0_3 == 0) && (a0_4 == 0) && ((l0_6.length : Int) == 0) && nn)) ∧ Below w.heap.size w w' := by
 have HB := a_ (Below.refl w.heap.size w)
 have hu37 := Try.underlying37
 have hu35 := Try.underlying35
 cases hx3 : (a0_3 == 0)
 case' true =>
  cases hx4 : (a0_4 == 0)
  case' true =>
   cases hx6 : ((l0_6.length : Int) == 0)
   case' true =>
    skip
 all_goals go_enter Try.func35, Try.ntmps35
 all_goals go_wp2_with (first | ((with_reducible refine gd_ 1 ?_); refine bx_ 1 #[.int .u8 a0_0, .int .u64 a0_1, .int .u64 a0_2, .int .u64 a0_3, .int .u64 a0_4, .bool a0_5, .slice A0_6 l0_6.length c0_6, .int .u64 a0_7, .int .u64 a0_8, .slice A0_9 l0_9.length c0_9, .string a0_10] 37 ?_; intro ga hg w_ hbox hb; have BKa := a_ hbox; have GEa := a_ (bs_0 hg HB); replace HB := hB_ (bl_ HB) hb; clear hb hbox hg; obtain ⟨hca_0, hca_1, hca_2, hca_3, hca_4, hca_5, hca_6, hca_7, hca_8, hca_9, hca_10, -⟩ := c11_ BKa) | (go_at_call 67; (with_reducible refine (msg_bare_4 a0_0 _ _ _ _ _ _ _ _ _ _ _ _ _ _ _ e1 e2 e3 e4).mono ?_); rintro e w4 ⟨rfl, hb⟩; replace BKa := bB_ BKa hb; replace HB := hB_ (bl_1 HB GEa) hb; clear hb hca_0 hca_1 hca_2 hca_3 hca_4 hca_5 hca_6 hca_7 hca_8 hca_9 hca_10; have hA_0 := fun o => (blk_cell (blk_alloc BKa.out o) 0).trans rfl; have hA_1 := fun o => (blk_cell (blk_alloc BKa.out o) 1).trans rfl; have hA_2 := fun o => (blk_cell (blk_alloc BKa.out o) 2).trans rfl; have hA_3 := fun o => (blk_cell (blk_alloc BKa.out o) 3).trans rfl; have hA_4 := fun o => (blk_cell (blk_alloc BKa.out o) 4).trans rfl; have hA_5 := fun o => (blk_cell (blk_alloc BKa.out o) 5).trans rfl; have hA_6 := fun o => (blk_cell (blk_alloc BKa.out o) 6).trans rfl; have hA_7 := fun o => (blk_cell (blk_alloc BKa.out o) 7).trans rfl; have hA_8 := fun o => (blk_cell (blk_alloc BKa.out o) 8).trans rfl; have hA_9 := fun o => (blk_cell (blk_alloc BKa.out o) 9).trans rfl; have hA_10 := fun o => (blk_cell (blk_alloc BKa.out o) 10).trans rfl) | (go_at_call 68; (with_reducible refine (msg_nothing.calls a0_7 a0_8 _ _ l0_9 a0_10 nn _ ?side1 ?side2 AN.out).mono ?_); (case side1 => exact Kd.C_below HR9.out (HB.out.alloc HB.out.size _)); (case side2 => exact HC9.out); rintro e w5 ⟨rfl, hb⟩; replace HB := hB_ (HB.out.alloc HB.out.size _) hb; clear hb))
 all_goals go_ret
 all_goals (refine ⟨by simp [*], ?_⟩)
 all_goals (first | exact bl_1 HB GEa | exact HB.out.alloc HB.out.size _)
theorem msg_whole_5 (a0_0 a0_1 a0_2 a0_3 a0_4 : Int) (a0_5 : Bool) (A0_6 : Option Addr) (c0_6 : Nat) (l0_6 : List S67) (a0_7 a0_8 : Int) (A0_9 : Option Addr) (c0_9 : Nat) (l0_9 : List Int) (a0_10 : ByteArray) (nn : Bool) (w : World) (HR9 : Aside0 (Kd.C (Kd.int .i64) w A0_9 l0_9.length l0_9)) (HC9 : Aside0 (l0_9.length ≤ c0_9)) (AN : Aside0 (msg_nothing.f a0_7 a0_8 l0_9 a0_10 = some nn)) (e1 : (a0_0 == 1) = false) (e2 : (a0_0 == 2) = false) (e3 : (a0_0 == 3) = false) (e4 : (a0_0 == 4) = false) (e5 : (a0_0 == 5) = true) :
  Calls Try.prog 35 #[.agg #[.int .u8 a0_0, .int .u64 a0_1, .int .u64 a0_2, .int .u64 a0_3, .int .u64 a0_4, .bool a0_5, .slice A0_6 l0_6.length c0_6, .int .u64 a0_7, .int .u64 a0_8, .slice A0_9 l0_9.length c0_9, .string a0_10]] w fun e w' => e = .returned (.bool ((a0_2 == 0) && (a0_3 == 0) && (a0_4 == 0) && (!a0_5) && ((l0_6.length : Int) == 0))) ∧ Below w.heap.size w w' := by
 have HB := a_ (Below.refl w.heap.size w)
 have hu37 := Try.underlying37
 have hu35 := Try.underlying35
 cases hx2 : (a0_2 == 0)
 case' true =>
  cases hx3 : (a0_3 == 0)
  case' true =>
   cases hx4 : (a0_4 == 0)
   case' true =>
    cases hx5 : a0_5
    case' false =>
     cases hx6 : ((l0_6.length : Int) == 0)
     case' true =>
      skip
 all_goals go_enter Try.func35, Try.ntmps35
 all_goals go_wp2_with (first | ((with_reducible refine gd_ 1 ?_); refine bx_ 1 #[.int .u8 a0_0, .int .u64 a0_1, .int .u64 a0_2, .int .u64 a0_3, .int .u64 a0_4, .bool a0_5, .slice A0_6 l0_6.length c0_6, .int .u64 a0_7, .int .u64 a0_8, .slice A0_9 l0_9.length c0_9, .string a0_10] 37 ?_; intro ga hg w_ hbox hb; have BKa := a_ hbox; have GEa := a_ (bs_0 hg HB); replace HB := hB_ (bl_ HB) hb; clear hb hbox hg; obtain ⟨hca_0, hca_1, hca_2, hca_3, hca_4, hca_5, hca_6, hca_7, hca_8, hca_9, hca_10, -⟩ := c11_ BKa) | (go_at_call 67; (with_reducible refine (msg_bare_5 a0_0 _ _ _ _ _ _ _ _ _ _ _ _ _ _ _ e1 e2 e3 e4 e5).mono ?_); rintro e w4 ⟨rfl, hb⟩; replace BKa := bB_ BKa hb; replace HB := hB_ (bl_1 HB GEa) hb; clear hb hca_0 hca_1 hca_2 hca_3 hca_4 hca_5 hca_6 hca_7 hca_8 hca_9 hca_10; have hA_0 := fun o => (blk_cell (blk_alloc BKa.out o) 0).trans rfl; have hA_1 := fun o => (blk_cell (blk_alloc BKa.out o) 1).trans rfl; have hA_2 := fun o => (blk_cell (blk_alloc BKa.out o) 2).trans rfl; have hA_3 := fun o => (blk_cell (blk_alloc BKa.out o) 3).trans rfl; have hA_4 := fun o => (blk_cell (blk_alloc BKa.out o) 4).trans rfl; have hA_5 := fun o => (blk_cell (blk_alloc BKa.out o) 5).trans rfl; have hA_6 := fun o => (blk_cell (blk_alloc BKa.out o) 6).trans rfl; have hA_7 := fun o => (blk_cell (blk_alloc BKa.out o) 7).trans rfl; have hA_8 := fun o => (blk_cell (blk_alloc BKa.out o) 8).trans rfl; have hA_9 := fun o => (blk_cell (blk_alloc BKa.out o) 9).trans rfl; have hA_10 := fun o => (blk_cell (blk_alloc BKa.out o) 10).trans rfl) | (go_at_call 68; (with_reducible refine (msg_nothing.calls a0_7 a0_8 _ _ l0_9 a0_10 nn _ ?side1 ?side2 AN.out).mono ?_); (case side1 => exact Kd.C_below HR9.out (HB.out.alloc HB.out.size _)); (case side2 => exact HC9.out); rintro e w5 ⟨rfl, hb⟩; replace HB := hB_ (HB.out.alloc HB.out.size _) hb; clear hb))
 all_goals go_ret
 all_goals (refine ⟨by simp [*], ?_⟩)
 all_goals (first | exact bl_1 HB GEa | exact HB.out.alloc HB.out.size _)
theorem msg_whole_0 (a0_0 a0_1 a0_2 a0_3 a0_4 : Int) (a0_5 : Bool) (A0_6 : Option Addr) (c0_6 : Nat) (l0_6 : List S67) (a0_7 a0_8 : Int) (A0_9 : Option Addr) (c0_9 : Nat) (l0_9 : List Int) (a0_10 : ByteArray) (nn : Bool) (w : World) (HR9 : Aside0 (Kd.C (Kd.int .i64) w A0_9 l0_9.length l0_9)) (HC9 : Aside0 (l0_9.length ≤ c0_9)) (AN : Aside0 (msg_nothing.f a0_7 a0_8 l0_9 a0_10 = some nn)) (e1 : (a0_0 == 1) = false) (e2 : (a0_0 == 2) = false) (e3 : (a0_0 == 3) = false) (e4 : (a0_0 == 4) = false) (e5 : (a0_0 == 5) = false) :
  Calls Try.prog 35 #[.agg #[.int .u8 a0_0, .int .u64 a0_1, .int .u64 a0_2, .int .u64 a0_3, .int .u64 a0_4, .bool a0_5, .slice A0_6 l0_6.length c0_6, .int .u64 a0_7, .int .u64 a0_8, .slice A0_9 l0_9.length c0_9, .string a0_10]] w fun e w' => e = .returned (.bool ((a0_2 == 0) && (a0_3 == 0) && (a0_4 == 0) && (!a0_5) && ((l0_6.length : Int) == 0) && nn)) ∧ Below w.heap.size w w' := by
 have HB := a_ (Below.refl w.heap.size w)
 have hu37 := Try.underlying37
 have hu35 := Try.underlying35
 cases hx2 : (a0_2 == 0)
 case' true =>
  cases hx3 : (a0_3 == 0)
  case' true =>
   cases hx4 : (a0_4 == 0)
   case' true =>
    cases hx5 : a0_5
    case' false =>
     cases hx6 : ((l0_6.length : Int) == 0)
     case' true =>
      skip
 all_goals go_enter Try.func35, Try.ntmps35
 all_goals go_wp2_with (first | ((with_reducible refine gd_ 1 ?_); refine bx_ 1 #[.int .u8 a0_0, .int .u64 a0_1, .int .u64 a0_2, .int .u64 a0_3, .int .u64 a0_4, .bool a0_5, .slice A0_6 l0_6.length c0_6, .int .u64 a0_7, .int .u64 a0_8, .slice A0_9 l0_9.length c0_9, .string a0_10] 37 ?_; intro ga hg w_ hbox hb; have BKa := a_ hbox; have GEa := a_ (bs_0 hg HB); replace HB := hB_ (bl_ HB) hb; clear hb hbox hg; obtain ⟨hca_0, hca_1, hca_2, hca_3, hca_4, hca_5, hca_6, hca_7, hca_8, hca_9, hca_10, -⟩ := c11_ BKa) | (go_at_call 67; (with_reducible refine (msg_bare_0 a0_0 _ _ _ _ _ _ _ _ _ _ _ _ _ _ _ e1 e2 e3 e4 e5).mono ?_); rintro e w4 ⟨rfl, hb⟩; replace BKa := bB_ BKa hb; replace HB := hB_ (bl_1 HB GEa) hb; clear hb hca_0 hca_1 hca_2 hca_3 hca_4 hca_5 hca_6 hca_7 hca_8 hca_9 hca_10; have hA_0 := fun o => (blk_cell (blk_alloc BKa.out o) 0).trans rfl; have hA_1 := fun o => (blk_cell (blk_alloc BKa.out o) 1).trans rfl; have hA_2 := fun o => (blk_cell (blk_alloc BKa.out o) 2).trans rfl; have hA_3 := fun o => (blk_cell (blk_alloc BKa.out o) 3).trans rfl; have hA_4 := fun o => (blk_cell (blk_alloc BKa.out o) 4).trans rfl; have hA_5 := fun o => (blk_cell (blk_alloc BKa.out o) 5).trans rfl; have hA_6 := fun o => (blk_cell (blk_alloc BKa.out o) 6).trans rfl; have hA_7 := fun o => (blk_cell (blk_alloc BKa.out o) 7).trans rfl; have hA_8 := fun o => (blk_cell (blk_alloc BKa.out o) 8).trans rfl; have hA_9 := fun o => (blk_cell (blk_alloc BKa.out o) 9).trans rfl; have hA_10 := fun o => (blk_cell (blk_alloc BKa.out o) 10).trans rfl) | (go_at_call 68; (with_reducible refine (msg_nothing.calls a0_7 a0_8 _ _ l0_9 a0_10 nn _ ?side1 ?side2 AN.out).mono ?_); (case side1 => exact Kd.C_below HR9.out (HB.out.alloc HB.out.size _)); (case side2 => exact HC9.out); rintro e w5 ⟨rfl, hb⟩; replace HB := hB_ (HB.out.alloc HB.out.size _) hb; clear hb))
 all_goals go_ret
 all_goals (refine ⟨by simp [*], ?_⟩)
 all_goals (first | exact bl_1 HB GEa | exact HB.out.alloc HB.out.size _)
theorem msg_whole.calls (a0_0 : Int) (a0_1 : Int) (a0_2 : Int) (a0_3 : Int) (a0_4 : Int) (a0_5 : Bool) (A0_6 : Option Addr) (c0_6 : Nat) (l0_6 : List (S67)) (a0_7 : Int) (a0_8 : Int) (A0_9 : Option Addr) (c0_9 : Nat) (l0_9 : List Int) (a0_10 : ByteArray) (r : Bool) (w : World) (hr0_6 : Kd.C k67 w A0_6 l0_6.length l0_6) (hc0_6 : l0_6.length ≤ c0_6) (hr0_9 : Kd.C (Kd.int .i64) w A0_9 l0_9.length l0_9) (hc0_9 : l0_9.length ≤ c0_9) (h : msg_whole.f a0_0 a0_1 a0_2 a0_3 a0_4 a0_5 l0_6 a0_7 a0_8 l0_9 a0_10 = some r) :
  Calls Try.prog 35 #[.agg #[.int .u8 a0_0, .int .u64 a0_1, .int .u64 a0_2, .int .u64 a0_3, .int .u64 a0_4, .bool a0_5, .slice A0_6 l0_6.length c0_6, .int .u64 a0_7, .int .u64 a0_8, .slice A0_9 l0_9.length c0_9, .string a0_10]] w fun e w' => e = .returned (.bool r) ∧ Below w.heap.size w w' := by
 obtain ⟨nn, AN, H⟩ := Option.bind_eq_some_iff.mp h
 obtain rfl := Option.some.inj H
 unfold msg_whole.w
 by_cases c1 : a0_0 = 1
 · rw [if_pos c1]
   exact msg_whole_1 _ _ _ _ _ _ _ _ _ _ _ _ _ _ _ _ _ (a_ hr0_9) (a_ hc0_9) (a_ AN) (beq_iff_eq.mpr c1) (beq_eq_false_iff_ne.mpr (by omega)) (beq_eq_false_iff_ne.mpr (by omega)) (beq_eq_false_iff_ne.mpr (by omega)) (beq_eq_false_iff_ne.mpr (by omega))
 rw [if_neg c1]
 by_cases c2 : a0_0 = 2
 · rw [if_pos c2]
   exact msg_whole_2 _ _ _ _ _ _ _ _ _ _ _ _ _ _ _ _ _ (a_ hr0_9) (a_ hc0_9) (a_ AN) (beq_eq_false_iff_ne.mpr c1) (beq_iff_eq.mpr c2) (beq_eq_false_iff_ne.mpr (by omega)) (beq_eq_false_iff_ne.mpr (by omega)) (beq_eq_false_iff_ne.mpr (by omega))
 rw [if_neg c2]
 by_cases c3 : a0_0 = 3
 · rw [if_pos c3]
   exact msg_whole_3 _ _ _ _ _ _ _ _ _ _ _ _ _ _ _ _ _ (a_ hr0_9) (a_ hc0_9) (a_ AN) (beq_eq_false_iff_ne.mpr c1) (beq_eq_false_iff_ne.mpr c2) (beq_iff_eq.mpr c3) (beq_eq_false_iff_ne.mpr (by omega)) (beq_eq_false_iff_ne.mpr (by omega))
 rw [if_neg c3]
 by_cases c4 : a0_0 = 4
 · rw [if_pos c4]
   exact msg_whole_4 _ _ _ _ _ _ _ _ _ _ _ _ _ _ _ _ _ (a_ hr0_9) (a_ hc0_9) (a_ AN) (beq_eq_false_iff_ne.mpr c1) (beq_eq_false_iff_ne.mpr c2) (beq_eq_false_iff_ne.mpr c3) (beq_iff_eq.mpr c4) (beq_eq_false_iff_ne.mpr (by omega))
 rw [if_neg c4]
 by_cases c5 : a0_0 = 5
 · rw [if_pos c5]
   exact msg_whole_5 _ _ _ _ _ _ _ _ _ _ _ _ _ _ _ _ _ (a_ hr0_9) (a_ hc0_9) (a_ AN) (beq_eq_false_iff_ne.mpr c1) (beq_eq_false_iff_ne.mpr c2) (beq_eq_false_iff_ne.mpr c3) (beq_eq_false_iff_ne.mpr c4) (beq_iff_eq.mpr c5)
 rw [if_neg c5]
 exact msg_whole_0 _ _ _ _ _ _ _ _ _ _ _ _ _ _ _ _ _ (a_ hr0_9) (a_ hc0_9) (a_ AN) (beq_eq_false_iff_ne.mpr c1) (beq_eq_false_iff_ne.mpr c2) (beq_eq_false_iff_ne.mpr c3) (beq_eq_false_iff_ne.mpr c4) (beq_eq_false_iff_ne.mpr c5)

def wal_Members.l0 : Nat → Int → List Int → Int → Int → Option (Bool)
 | 0, _, _, _, _ => none
 | k + 1, x3, x6, x7, x8 => if x8 < x7 then (if 0 ≤ x8 then (if x8 < (x6.length : Int) then (if (rd x6 x8) ≤ x3 then (some false) else (if (rd x6 x8) > 7 then (some false) else (wal_Members.l0 k (rd x6 x8) x6 x7 (wrap64 (x8 + 1))))) else (none)) else (none)) else (some (decide (x3 > 0)))
def wal_Members.f (k : Nat) (l0 : List Int) : Option (Bool) := wal_Members.l0 k 0 l0 (l0.length : Int) 0
theorem wal_Members.mono_l : ∀ k, (∀ y0 y1 y2 y3, LeO (wal_Members.l0 k y0 y1 y2 y3) (wal_Members.l0 (k + 1) y0 y1 y2 y3))
 | 0 => fun _ _ _ _ r h => by simp [wal_Members.l0] at h
 | k + 1 => by
  have ih0 := wal_Members.mono_l k
  ·intro y0 y1 y2 y3
   unfold wal_Members.l0
   repeat' with_reducible first | apply ih0 | apply LeO.refl | apply LeO.none | apply LeO.ite | refine LeO.bind ?_ (fun _ => ?_)
theorem wal_Members.mono : ∀ a0 k, LeO (wal_Members.f k a0) (wal_Members.f (k + 1) a0) := by
 intro a0 k
 have ih0 := wal_Members.mono_l k
 unfold wal_Members.f
 repeat' with_reducible first | apply ih0 | apply LeO.refl | apply LeO.none | apply LeO.ite | refine LeO.bind ?_ (fun _ => ?_)
theorem wal_Members.calls (k : Nat) (A0 : Option Addr) (c0 : Nat) (l0 : List Int) (r : Bool) (w : World) (hr0 : Kd.C (Kd.int .i64) w A0 l0.length l0) (hc0 : l0.length ≤ c0) (h : wal_Members.f k l0 = some r) :
  Calls Try.prog 69 #[.slice A0 l0.length c0] w fun e w' => e = .returned (.bool r) ∧ Drawn0 w w' := by
 have HR_1 := a_ hr0
 have HC_1 := a_ hc0
 clear hr0 hc0
 have H := h
 unfold wal_Members.f at H
 clear h
 have H' := a_ H
 clear H
 go_enter Try.func69, Try.ntmps69
 go_wp2
 go_loopg [3, 8] k (fun kq v3 v8 w' => ∃ (x3_1 : Int) (x8_1 : Int), v3 = .int .i64 x3_1 ∧ v8 = .int .i64 x8_1 ∧ Aside0 (wal_Members.l0 kq x3_1 l0 (l0.length : Int) x8_1 = some r) ∧ Aside0 (kq ≤ k) ∧ Drawn0 w w')
 case atStart => exact ⟨(0), (0), fz_, fz_, H', ⟨Nat.le_refl _⟩, dr_⟩
 case round =>
  clear H'
  obtain ⟨x_1, x_2, rfl, rfl, HA, HK_1, ⟨m_1, rfl⟩⟩ := hrel
  cases gk with
  | zero => exact absurd HA.out (by simp [wal_Members.l0])
  | succ k1 =>
   have H := HA.out
   clear HA
   simp only [wal_Members.l0] at H
   by_cases c_1 : x_2 < (l0.length : Int)
   rotate_left
   ·rw [if_neg c_1] at H
    have c_2 : decide (x_2 < (l0.length : Int)) = false := decide_eq_false c_1
    clear c_1
    obtain rfl := Option.some.inj H
    go_wp2
    go_ret
    exact ⟨fz_, dr_⟩
   rw [if_pos c_1] at H
   have c_2 : decide (x_2 < (l0.length : Int)) = true := decide_eq_true c_1
   clear c_1
   by_cases c_3 : 0 ≤ x_2
   rotate_left
   ·rw [if_neg c_3] at H
    exact absurd H (by simp)
   rw [if_pos c_3] at H
   have c_4 : decide (0 ≤ x_2) = true := decide_eq_true c_3
   clear c_3
   by_cases c_5 : x_2 < (l0.length : Int)
   rotate_left
   ·rw [if_neg c_5] at H
    exact absurd H (by simp)
   rw [if_pos c_5] at H
   have c_6 : decide (x_2 < (l0.length : Int)) = true := decide_eq_true c_5
   clear c_5
   by_cases c_7 : (rd l0 x_2) ≤ x_1
   ·rw [if_pos c_7] at H
    have c_8 : decide ((rd l0 x_2) ≤ x_1) = true := decide_eq_true c_7
    clear c_7
    obtain rfl := Option.some.inj H
    have p_1 : 0 ≤ (x_2 : Int) := od_
    have q_1 : x_2 < (l0.length : Int) := od_
    obtain ⟨ad_1, e_1, hx_1⟩ := Kd.at_int HR_1.out x_2 p_1 q_1
    cases e_1
    replace p_1 := eq_true p_1
    replace q_1 := eq_true q_1
    go_wp2
    go_ret
    exact ⟨fz_, dr_⟩
   rw [if_neg c_7] at H
   have c_8 : decide ((rd l0 x_2) ≤ x_1) = false := decide_eq_false c_7
   clear c_7
   by_cases c_9 : (rd l0 x_2) > 7
   ·rw [if_pos c_9] at H
    have c_10 : decide (7 < (rd l0 x_2)) = true := decide_eq_true c_9
    clear c_9
    obtain rfl := Option.some.inj H
    have p_1 : 0 ≤ (x_2 : Int) := od_
    have q_1 : x_2 < (l0.length : Int) := od_
    obtain ⟨ad_1, e_1, hx_1⟩ := Kd.at_int HR_1.out x_2 p_1 q_1
    cases e_1
    replace p_1 := eq_true p_1
    replace q_1 := eq_true q_1
    go_wp2
    go_ret
    exact ⟨fz_, dr_⟩
   rw [if_neg c_9] at H
   have c_10 : decide (7 < (rd l0 x_2)) = false := decide_eq_false c_9
   clear c_9
   have H' := a_ H
   clear H
   have p_1 : 0 ≤ (x_2 : Int) := od_
   have q_1 : x_2 < (l0.length : Int) := od_
   obtain ⟨ad_1, e_1, hx_1⟩ := Kd.at_int HR_1.out x_2 p_1 q_1
   cases e_1
   replace p_1 := eq_true p_1
   replace q_1 := eq_true q_1
   go_wp2
   go_roundg k1
   case measure => have := HK_1.out; omega
   case rel => exact ⟨(rd l0 x_2), (wrap64 (x_2 + 1)), fz_, fz_, H', ⟨by have := HK_1.out; omega⟩, dr_⟩

end Go.Proofs.Ytcdibodjkdoknaa.PM
