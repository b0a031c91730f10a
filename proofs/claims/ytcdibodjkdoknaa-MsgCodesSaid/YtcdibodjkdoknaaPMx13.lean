-- By a program of this session.
import Derived.Test.YtcdibodjkdoknaaPMx0
import Derived.Test.YtcdibodjkdoknaaPMx3
import Derived.Test.YtcdibodjkdoknaaPMx11
import Derived.Test.YtcdibodjkdoknaaPMx12
namespace Go.Proofs.Ytcdibodjkdoknaa.PM
open Go.RowKit YtcdibodjkdoknaaW.PrintWords YtcdibodjkdoknaaW.PrintLast YtcdibodjkdoknaaW.PrintMore Sh Ytcdibodjkdoknaa.Op
attribute [local go_sem] max2_int min2_int max_two min_two max_three min_three max_four min_four
set_option linter.unusedVariables false
set_option maxHeartbeats 80000000
set_option maxRecDepth 100000
set_option linter.unusedSimpArgs false

def snap_Taker_Snap.f (k : Nat) (s0_0 : ByteArray) (s0_1 : Bool) : Option (Int × Int × List Int × ByteArray × ByteArray × Bool) := (wal_Taker_Number.f k s0_0 s0_1).bind fun bt240 => ((wal_Taker_Number.f k bt240.2.1 bt240.2.2).bind fun bt243 => ((wal_Taker_Ints.f k bt243.2.1 bt243.2.2).bind fun bt246 => ((wal_Taker_Text.f k bt246.2.1 bt246.2.2).bind fun bt251 => (if bt251.2.2 = true then (some (bt240.1, bt243.1, bt246.1, bt251.1, bt251.2.1, true)) else ((snap_Check.f k bt240.1 bt243.1 bt246.1 bt251.1).bind fun t255 => (some (bt240.1, bt243.1, bt246.1, bt251.1, bt251.2.1, (t255 != 0))))))))
theorem snap_Taker_Snap.mono : ∀ a0 a1 k, LeO (snap_Taker_Snap.f k a0 a1) (snap_Taker_Snap.f (k + 1) a0 a1) := by
 intro a0 a1 k
 unfold snap_Taker_Snap.f
 repeat' with_reducible first | apply snap_Check.mono | apply wal_Taker_Ints.mono | apply wal_Taker_Number.mono | apply wal_Taker_Text.mono | apply LeO.refl | apply LeO.none | apply LeO.ite | refine LeO.bind ?_ (fun _ => ?_)
def snap_Taker_Snap.T1 : Bool × List (List Nat × List Nat) := (true, [([], []), ([0], [0]), ([1], [1]), ([2], [2]), ([], []), ([4], [4]), ([5], [5]), ([6, 3], [6]), ([], []), ([8], [8]), ([9], [9]), ([10, 7], [10]), ([], []), ([12], [12]), ([13], [13]), ([14, 11], [14]), ([3, 7, 11, 15], [3, 7, 11, 15]), ([], []), ([17, 16, 15, 0, 1, 2, 3, 4, 5, 6, 7, 8, 9, 10, 11, 12, 13, 14, 15, 16, 17], [16, 17])])
def snap_Taker_Snap.B1 : List Nat := [0, 1, 3, 7, 0, 16, 48, 127, 0, 256, 768, 2047, 0, 4096, 12288, 32767, 65535, 0, 262143]
theorem snap_Taker_Snap.tab1 : rtab .any (opsOf Try.f80 1) = snap_Taker_Snap.T1 := by kernel_rfl
theorem snap_Taker_Snap.bits1 : waitsOk snap_Taker_Snap.T1.2 snap_Taker_Snap.B1 = true := by kernel_rfl
theorem snap_Taker_Snap.calls (k : Nat) (g : Nat) (s0_0 : ByteArray) (s0_1 : Bool) (r1 : Int) (r2 : Int) (r3 : List Int) (r4 : ByteArray) (r5 : ByteArray) (r6 : Bool) (w0 w : World) (hI : IsS87 w0 w g s0_0 s0_1) (hB : Below w0.heap.size w0 w) (h : snap_Taker_Snap.f k s0_0 s0_1 = some (r1, r2, r3, r4, r5, r6)) :
  Calls Try.prog 80 #[.pointer (some ⟨g, 0, none⟩)] w fun e w' => ∃ v2_ : Value, e = .returned (.agg #[.int .u64 r1, .int .u64 r2, v2_, .string r4]) ∧ Kd.R (Kd.int .i64) 3 w' w.heap.size (fun _ => True) v2_ r3 ∧ IsS87 w0 w' g r5 r6 ∧ Below w0.heap.size w0 w' ∧ KeepBut w w' g none := by
 have hu_1 := Try.underlying35
 have HI_1 := a_ hI
 have HK := a_ (KeepBut.refl w g none)
 have HL := a_ hB.size
 clear hI
 have HW_1 := a_ hB.size
 have HB := a_ hB
 clear hB
 have H := h
 unfold snap_Taker_Snap.f at H
 clear h
 obtain ⟨⟨t_1, t_2, t_3⟩, A_1, H⟩ := Option.bind_eq_some_iff.mp H
 try dsimp only at H
 have A_2 := a_ A_1
 clear A_1
 obtain ⟨⟨t_4, t_5, t_6⟩, A_3, H⟩ := Option.bind_eq_some_iff.mp H
 try dsimp only at H
 have A_4 := a_ A_3
 clear A_3
 obtain ⟨⟨t_7, t_8, t_9⟩, A_5, H⟩ := Option.bind_eq_some_iff.mp H
 try dsimp only at H
 have A_6 := a_ A_5
 clear A_5
 obtain ⟨⟨t_10, t_11, t_12⟩, A_7, H⟩ := Option.bind_eq_some_iff.mp H
 try dsimp only at H
 have A_8 := a_ A_7
 clear A_7
 go_enter Try.func80, Try.ntmps80
 try go_wp2_with (first | ((with_reducible refine gd_ 2 ?_); refine bx_ 2 #[.int .u64 0, .int .u64 0, .slice none 0 0, .string (⟨#[]⟩ : ByteArray)] 35 ?_; intro gb_1 hg w_1 hbox hb; replace HB := a_ (below_step (hb1_ HB (IsS87.ge HI_1.out)) hb); have BK_1 := a_ (hbox); have GW_1 := a_ ((by rw [hg]; exact (keep_size (w := w) (g := g) (row := none) (hk0_ HK)) : w.heap.size ≤ gb_1)); have GE_1 := a_ ((Nat.le_trans HW_1.out (by rw [hg]; exact (keep_size (w := w) (g := g) (row := none) (hk0_ HK)) : w.heap.size ≤ gb_1) : w0.heap.size ≤ gb_1)); replace HK := a_ (KeepBut.trans (hk0_ HK) (KeepBut.of_below hb g none) (.inl rfl)); have NB_1 := a_ ((by rw [hg]; exact Nat.ne_of_lt (IsS87.lt (show IsS87 w0 _ g s0_0 s0_1 from hi87a_ HI_1)) : g ≠ gb_1)); have NB_2 := a_ ((by rw [hg]; exact Nat.ne_of_gt (IsS87.lt (show IsS87 w0 _ g s0_0 s0_1 from hi87a_ HI_1)) : gb_1 ≠ g)); replace HI_1 := a_ (IsS87.below (hi87a_ HI_1) hb); clear hb hbox hg))
 replace BK_1 := a_ (blk_drew BK_1.out)
 replace HI_1 := a_ (IsS87.drew HI_1.out)
 replace HK := a_ (keep_drew HK.out)
 replace HB := a_ (below_drew1 HB.out)
 refine start_ (n := 19) (S := fun w' => True) (ds := []) #[false, false, false, false, false, false, false, false, false, false, false, false, false, false, false, false, false, false, false] (by kernel_rfl) rfl rfl trivial (fun hHeld => ?_); refine with_tabW snap_Taker_Snap.tab1 snap_Taker_Snap.bits1 (fun HT_ HW_ => ?_)
 generalize w_1.drew = w_2 at BK_1 HI_1 HK HB hHeld ⊢
 refine pu_ HT_ 0 (some 4) ?_
 refine pu_ HT_ 1 (some 5) ?_
 refine pu_ HT_ 2 (some 6) ?_
 refine pu_ HT_ 4 (some 8) ?_
 refine pu_ HT_ 5 (some 9) ?_
 refine pu_ HT_ 6 (some 10) ?_
 refine pu_ HT_ 8 (some 12) ?_
 refine pu_ HT_ 9 (some 13) ?_
 refine pu_ HT_ 10 (some 14) ?_
 refine pu_ HT_ 12 (some 16) ?_
 refine pu_ HT_ 13 (some 17) ?_
 refine pu_ HT_ 14 (some 18) ?_
 refine join_ (σ := Value × Nat) 1 #[true, true, true, true, true, true, true, true, true, true, true, true, true, true, true, true, true, true, false] (fun s_ => [(7, .int .u64 t_1), (11, .int .u64 t_4), (15, s_.1), (19, .string t_10), (3, .pointer (some ⟨s_.2, 0, none⟩)), (20, .agg #[.int .u64 t_1, .int .u64 t_4, s_.1, .string t_10])]) (fun s_ w' => (Kd.R (Kd.int .i64) 3 w' w.heap.size (fun _ => True) s_.1 t_7) ∧ (w'.heap[gb_1]? = some (.cells #[.int .u64 0, .int .u64 0, .slice none 0 0, .string (⟨#[]⟩ : ByteArray)] 35 (0, 0))) ∧ (w'.heap[s_.2]? = some (.cells #[.int .u64 0, .int .u64 0, .slice none 0 0, .string (⟨#[]⟩ : ByteArray)] 35 (0, 0))) ∧ (w.heap.size ≤ s_.2) ∧ (w0.heap.size ≤ s_.2) ∧ (g ≠ s_.2) ∧ (s_.2 ≠ g) ∧ (gb_1 ≠ s_.2) ∧ (s_.2 ≠ gb_1) ∧ (IsS87 w0 w' g t_11 t_12) ∧ (KeepBut w w' g none) ∧ (Below w0.heap.size w0 w')) ?_ ?_
 rotate_left
 ·intro hJ_1
  refine join_ (σ := Value) 2 #[true, true, true, true, true, true, true, true, true, true, true, true, true, true, true, true, true, false, false] (fun s_ => [(7, .int .u64 t_1), (11, .int .u64 t_4), (15, s_), (19, .string t_10), (20, .agg #[.int .u64 t_1, .int .u64 t_4, s_, .string t_10])]) (fun s_ w' => (Kd.R (Kd.int .i64) 3 w' w.heap.size (fun _ => True) s_ t_7) ∧ (w'.heap[gb_1]? = some (.cells #[.int .u64 0, .int .u64 0, .slice none 0 0, .string (⟨#[]⟩ : ByteArray)] 35 (0, 0))) ∧ (IsS87 w0 w' g t_11 t_12) ∧ (KeepBut w w' g none) ∧ (Below w0.heap.size w0 w')) ?_ ?_
  rotate_left
  ·intro hJ_2
   refine join_ (σ := Value × Nat) 3 #[true, true, true, true, true, true, true, true, true, true, true, true, true, true, true, false, false, true, false] (fun s_ => [(7, .int .u64 t_1), (11, .int .u64 t_4), (15, s_.1), (3, .pointer (some ⟨s_.2, 0, none⟩))]) (fun s_ w' => (Kd.R (Kd.int .i64) 3 w' w.heap.size (fun _ => True) s_.1 t_7) ∧ (w'.heap[gb_1]? = some (.cells #[.int .u64 0, .int .u64 0, .slice none 0 0, .string (⟨#[]⟩ : ByteArray)] 35 (0, 0))) ∧ (w'.heap[s_.2]? = some (.cells #[.int .u64 0, .int .u64 0, .slice none 0 0, .string (⟨#[]⟩ : ByteArray)] 35 (0, 0))) ∧ (w.heap.size ≤ s_.2) ∧ (w0.heap.size ≤ s_.2) ∧ (g ≠ s_.2) ∧ (s_.2 ≠ g) ∧ (gb_1 ≠ s_.2) ∧ (s_.2 ≠ gb_1) ∧ (IsS87 w0 w' g t_8 t_9) ∧ (KeepBut w w' g none) ∧ (Below w0.heap.size w0 w')) ?_ ?_
   rotate_left
   ·intro hJ_3
    refine join_ (σ := Value) 4 #[true, true, true, true, true, true, true, true, true, true, true, true, true, true, true, false, false, false, false] (fun s_ => [(7, .int .u64 t_1), (11, .int .u64 t_4), (15, s_)]) (fun s_ w' => (Kd.R (Kd.int .i64) 3 w' w.heap.size (fun _ => True) s_ t_7) ∧ (w'.heap[gb_1]? = some (.cells #[.int .u64 0, .int .u64 0, .slice none 0 0, .string (⟨#[]⟩ : ByteArray)] 35 (0, 0))) ∧ (IsS87 w0 w' g t_8 t_9) ∧ (KeepBut w w' g none) ∧ (Below w0.heap.size w0 w')) ?_ ?_
    rotate_left
    ·intro hJ_4
     refine join_ (σ := Nat) 4 #[true, true, true, true, true, true, true, true, true, true, true, false, true, true, true, false, false, true, false] (fun s_ => [(7, .int .u64 t_1), (11, .int .u64 t_4), (3, .pointer (some ⟨s_, 0, none⟩))]) (fun s_ w' => (w'.heap[gb_1]? = some (.cells #[.int .u64 0, .int .u64 0, .slice none 0 0, .string (⟨#[]⟩ : ByteArray)] 35 (0, 0))) ∧ (w'.heap[s_]? = some (.cells #[.int .u64 0, .int .u64 0, .slice none 0 0, .string (⟨#[]⟩ : ByteArray)] 35 (0, 0))) ∧ (w.heap.size ≤ s_) ∧ (w0.heap.size ≤ s_) ∧ (g ≠ s_) ∧ (s_ ≠ g) ∧ (gb_1 ≠ s_) ∧ (s_ ≠ gb_1) ∧ (IsS87 w0 w' g t_5 t_6) ∧ (KeepBut w w' g none) ∧ (Below w0.heap.size w0 w')) ?_ ?_
     rotate_left
     ·intro hJ_5
      refine join_ (σ := Unit) 5 #[true, true, true, true, true, true, true, true, true, true, true, false, true, true, true, false, false, false, false] (fun s_ => [(7, .int .u64 t_1), (11, .int .u64 t_4)]) (fun s_ w' => (w'.heap[gb_1]? = some (.cells #[.int .u64 0, .int .u64 0, .slice none 0 0, .string (⟨#[]⟩ : ByteArray)] 35 (0, 0))) ∧ (IsS87 w0 w' g t_5 t_6) ∧ (KeepBut w w' g none) ∧ (Below w0.heap.size w0 w')) ?_ ?_
      rotate_left
      ·intro hJ_6
       refine join_ (σ := Nat) 5 #[true, true, true, true, true, true, true, false, true, true, true, false, true, true, true, false, false, true, false] (fun s_ => [(7, .int .u64 t_1), (3, .pointer (some ⟨s_, 0, none⟩))]) (fun s_ w' => (w'.heap[gb_1]? = some (.cells #[.int .u64 0, .int .u64 0, .slice none 0 0, .string (⟨#[]⟩ : ByteArray)] 35 (0, 0))) ∧ (w'.heap[s_]? = some (.cells #[.int .u64 0, .int .u64 0, .slice none 0 0, .string (⟨#[]⟩ : ByteArray)] 35 (0, 0))) ∧ (w.heap.size ≤ s_) ∧ (w0.heap.size ≤ s_) ∧ (g ≠ s_) ∧ (s_ ≠ g) ∧ (gb_1 ≠ s_) ∧ (s_ ≠ gb_1) ∧ (IsS87 w0 w' g t_2 t_3) ∧ (KeepBut w w' g none) ∧ (Below w0.heap.size w0 w')) ?_ ?_
       rotate_left
       ·intro hJ_7
        refine join_ (σ := Unit) 6 #[true, true, true, true, true, true, true, false, true, true, true, false, true, true, true, false, false, false, false] (fun s_ => [(7, .int .u64 t_1)]) (fun s_ w' => (w'.heap[gb_1]? = some (.cells #[.int .u64 0, .int .u64 0, .slice none 0 0, .string (⟨#[]⟩ : ByteArray)] 35 (0, 0))) ∧ (IsS87 w0 w' g t_2 t_3) ∧ (KeepBut w w' g none) ∧ (Below w0.heap.size w0 w')) ?_ ?_
        rotate_left
        ·intro hJ_8
         refine join_ (σ := Nat) 6 #[true, true, true, false, true, true, true, false, true, true, true, false, true, true, true, false, false, true, false] (fun s_ => [(3, .pointer (some ⟨s_, 0, none⟩))]) (fun s_ w' => (w'.heap[gb_1]? = some (.cells #[.int .u64 0, .int .u64 0, .slice none 0 0, .string (⟨#[]⟩ : ByteArray)] 35 (0, 0))) ∧ (w'.heap[s_]? = some (.cells #[.int .u64 0, .int .u64 0, .slice none 0 0, .string (⟨#[]⟩ : ByteArray)] 35 (0, 0))) ∧ (w.heap.size ≤ s_) ∧ (w0.heap.size ≤ s_) ∧ (g ≠ s_) ∧ (s_ ≠ g) ∧ (gb_1 ≠ s_) ∧ (s_ ≠ gb_1) ∧ (IsS87 w0 w' g s0_0 s0_1) ∧ (KeepBut w w' g none) ∧ (Below w0.heap.size w0 w')) ?_ ?_
         rotate_left
         ·intro hJ_9
          refine two_ (i := 3) (j := 17) (Ni := some 7) (Nj := some 3) #[true, true, true, true, true, true, true, false, true, true, true, false, true, true, true, false, false, false, false] #[true, true, true, false, true, true, true, false, true, true, true, false, true, true, true, false, false, true, false] rfl rfl rfl rfl (two_of HT_.out (by kernel_rfl)) (by decide) (by decide) (fun K hK => ?_) (fun K hK => ?_)
          ·skip
           refine goes_ Try.func53 (by kernel_rfl) rfl #[.pointer (some ⟨g, 0, none⟩)] (by rfl) rfl rfl (ar_) ?_
           with_reducible refine (wal_Taker_Number.calls k g s0_0 s0_1 t_1 t_2 t_3 w0 _ ?side1 ?side2 A_2.out).mono ?_
           (case side1 => exact HI_1.out)
           (case side2 => exact HB.out)
           rintro e w_3 ⟨rfl, hi, hb, hk⟩
           refine ⟨_, rfl, ?_⟩
           replace BK_1 := kb_ hk BK_1 NB_2
           replace HK := kt_ HK hk
           replace HB := a_ hb
           replace HI_1 := a_ hi
           clear hb hk hi
           refine hK.out _ _ trivial (fun hHeld => ?_)
           clear hK K
           refine nop_ ?_
           exact nrm_ (hJ_8 () _ ⟨bk_ BK_1, HI_1.out, HK.out, HB.out⟩)
          ·skip
           refine box_step ?hg (N := 3) ?hd (cs := #[.int .u64 0, .int .u64 0, .slice none 0 0, .string (⟨#[]⟩ : ByteArray)]) (t := 35) ?hr ?_; (case hd => rfl); (case hg => rfl); (case hr => first | (go_simp; done) | (go_simp; rfl))
           intro gb_2 hg w_3 hbox hb
           replace HB := a_ (below_step HB.out hb)
           have BK_2 := a_ hbox
           have GW_2 := a_ ((by rw [hg]; exact (keep_size (w := w) (g := g) (row := none) HK.out) : w.heap.size ≤ gb_2))
           have GE_2 := a_ ((Nat.le_trans HW_1.out (by rw [hg]; exact (keep_size (w := w) (g := g) (row := none) HK.out) : w.heap.size ≤ gb_2) : w0.heap.size ≤ gb_2))
           replace HK := a_ (KeepBut.trans HK.out (KeepBut.of_below hb g none) (.inl rfl))
           have NB_3 := nB_ hg BK_1
           have NB_4 := nC_ hg BK_1
           replace BK_1 := bB_ BK_1 hb
           have NB_5 := a_ ((by rw [hg]; exact Nat.ne_of_lt (IsS87.lt HI_1.out) : g ≠ gb_2))
           have NB_6 := a_ ((by rw [hg]; exact Nat.ne_of_gt (IsS87.lt HI_1.out) : gb_2 ≠ g))
           replace HI_1 := a_ (IsS87.below HI_1.out hb)
           clear hb hbox hg
           refine hK.out _ _ trivial (fun hHeld => ?_)
           clear hK K
           refine nop_ ?_
           exact nrm_ (hJ_9 (gb_2) _ ⟨bk_ BK_1, bk_ BK_2, GW_2.out, GE_2.out, NB_5.out, NB_6.out, NB_3.out, NB_4.out, HI_1.out, HK.out, HB.out⟩)
         ·skip
          rintro gb_2 w_4 ⟨h_1, h_2, h_3, h_4, h_5, h_6, h_7, h_8, h_9, h_10, h_11⟩
          replace BK_1 := a_ h_1
          have BK_2 := a_ h_2
          have GW_2 := a_ h_3
          have GE_2 := a_ h_4
          have NB_5 := a_ h_5
          have NB_6 := a_ h_6
          have NB_3 := a_ h_7
          have NB_4 := a_ h_8
          replace HI_1 := a_ h_9
          replace HK := a_ h_10
          replace HB := a_ h_11
          clear h_1 h_2 h_3 h_4 h_5 h_6 h_7 h_8 h_9 h_10 h_11
          refine nrn_ ?_
          refine on_ HT_ 3 (some 7) (fun K hK => ?_)
          refine goes_ Try.func53 (by kernel_rfl) rfl #[.pointer (some ⟨g, 0, none⟩)] (by rfl) rfl rfl (ar_) ?_
          with_reducible refine (wal_Taker_Number.calls k g s0_0 s0_1 t_1 t_2 t_3 w0 _ ?side1 ?side2 A_2.out).mono ?_
          (case side1 => exact HI_1.out)
          (case side2 => exact HB.out)
          rintro e w_5 ⟨rfl, hi, hb, hk⟩
          refine ⟨_, rfl, ?_⟩
          replace BK_1 := kb_ hk BK_1 NB_2
          replace BK_2 := kb_ hk BK_2 NB_6
          replace HK := kt_ HK hk
          replace HB := a_ hb
          replace HI_1 := a_ hi
          clear hb hk hi
          refine hK.out _ _ trivial (fun hHeld => ?_)
          clear hK K
          refine nop_ ?_
          exact nrm_ (hJ_7 (gb_2) _ ⟨bk_ BK_1, bk_ BK_2, GW_2.out, GE_2.out, NB_5.out, NB_6.out, NB_3.out, NB_4.out, HI_1.out, HK.out, HB.out⟩)
        ·skip
         rintro _ w_4 ⟨h_1, h_2, h_3, h_4⟩
         replace BK_1 := a_ h_1
         replace HI_1 := a_ h_2
         replace HK := a_ h_3
         replace HB := a_ h_4
         clear h_1 h_2 h_3 h_4
         refine nrn_ ?_
         refine two_ (i := 7) (j := 17) (Ni := some 11) (Nj := some 3) #[true, true, true, true, true, true, true, true, true, true, true, false, true, true, true, false, false, false, false] #[true, true, true, true, true, true, true, false, true, true, true, false, true, true, true, false, false, true, false] rfl rfl rfl rfl (two_of HT_.out (by kernel_rfl)) (by decide) (by decide) (fun K hK => ?_) (fun K hK => ?_)
         ·skip
          refine goes_ Try.func53 (by kernel_rfl) rfl #[.pointer (some ⟨g, 0, none⟩)] (by rfl) rfl rfl (ar_) ?_
          with_reducible refine (wal_Taker_Number.calls k g t_2 t_3 t_4 t_5 t_6 w0 _ ?side1 ?side2 A_4.out).mono ?_
          (case side1 => exact HI_1.out)
          (case side2 => exact HB.out)
          rintro e w_5 ⟨rfl, hi, hb, hk⟩
          refine ⟨_, rfl, ?_⟩
          replace BK_1 := kb_ hk BK_1 NB_2
          replace HK := kt_ HK hk
          replace HB := a_ hb
          replace HI_1 := a_ hi
          clear hb hk hi
          refine hK.out _ _ trivial (fun hHeld => ?_)
          clear hK K
          refine nop_ ?_
          exact nrm_ (hJ_6 () _ ⟨bk_ BK_1, HI_1.out, HK.out, HB.out⟩)
         ·skip
          refine box_step ?hg (N := 3) ?hd (cs := #[.int .u64 0, .int .u64 0, .slice none 0 0, .string (⟨#[]⟩ : ByteArray)]) (t := 35) ?hr ?_; (case hd => rfl); (case hg => rfl); (case hr => first | (go_simp; done) | (go_simp; rfl))
          intro gb_2 hg w_5 hbox hb
          replace HB := a_ (below_step HB.out hb)
          have BK_2 := a_ hbox
          have GW_2 := a_ ((by rw [hg]; exact (keep_size (w := w) (g := g) (row := none) HK.out) : w.heap.size ≤ gb_2))
          have GE_2 := a_ ((Nat.le_trans HW_1.out (by rw [hg]; exact (keep_size (w := w) (g := g) (row := none) HK.out) : w.heap.size ≤ gb_2) : w0.heap.size ≤ gb_2))
          replace HK := a_ (KeepBut.trans HK.out (KeepBut.of_below hb g none) (.inl rfl))
          have NB_3 := nB_ hg BK_1
          have NB_4 := nC_ hg BK_1
          replace BK_1 := bB_ BK_1 hb
          have NB_5 := a_ ((by rw [hg]; exact Nat.ne_of_lt (IsS87.lt HI_1.out) : g ≠ gb_2))
          have NB_6 := a_ ((by rw [hg]; exact Nat.ne_of_gt (IsS87.lt HI_1.out) : gb_2 ≠ g))
          replace HI_1 := a_ (IsS87.below HI_1.out hb)
          clear hb hbox hg
          refine hK.out _ _ trivial (fun hHeld => ?_)
          clear hK K
          refine nop_ ?_
          exact nrm_ (hJ_7 (gb_2) _ ⟨bk_ BK_1, bk_ BK_2, GW_2.out, GE_2.out, NB_5.out, NB_6.out, NB_3.out, NB_4.out, HI_1.out, HK.out, HB.out⟩)
       ·skip
        rintro gb_2 w_5 ⟨h_1, h_2, h_3, h_4, h_5, h_6, h_7, h_8, h_9, h_10, h_11⟩
        replace BK_1 := a_ h_1
        have BK_2 := a_ h_2
        have GW_2 := a_ h_3
        have GE_2 := a_ h_4
        have NB_5 := a_ h_5
        have NB_6 := a_ h_6
        have NB_3 := a_ h_7
        have NB_4 := a_ h_8
        replace HI_1 := a_ h_9
        replace HK := a_ h_10
        replace HB := a_ h_11
        clear h_1 h_2 h_3 h_4 h_5 h_6 h_7 h_8 h_9 h_10 h_11
        refine nrn_ ?_
        refine on_ HT_ 7 (some 11) (fun K hK => ?_)
        refine goes_ Try.func53 (by kernel_rfl) rfl #[.pointer (some ⟨g, 0, none⟩)] (by rfl) rfl rfl (ar_) ?_
        with_reducible refine (wal_Taker_Number.calls k g t_2 t_3 t_4 t_5 t_6 w0 _ ?side1 ?side2 A_4.out).mono ?_
        (case side1 => exact HI_1.out)
        (case side2 => exact HB.out)
        rintro e w_6 ⟨rfl, hi, hb, hk⟩
        refine ⟨_, rfl, ?_⟩
        replace BK_1 := kb_ hk BK_1 NB_2
        replace BK_2 := kb_ hk BK_2 NB_6
        replace HK := kt_ HK hk
        replace HB := a_ hb
        replace HI_1 := a_ hi
        clear hb hk hi
        refine hK.out _ _ trivial (fun hHeld => ?_)
        clear hK K
        refine nop_ ?_
        exact nrm_ (hJ_5 (gb_2) _ ⟨bk_ BK_1, bk_ BK_2, GW_2.out, GE_2.out, NB_5.out, NB_6.out, NB_3.out, NB_4.out, HI_1.out, HK.out, HB.out⟩)
      ·skip
       rintro _ w_5 ⟨h_1, h_2, h_3, h_4⟩
       replace BK_1 := a_ h_1
       replace HI_1 := a_ h_2
       replace HK := a_ h_3
       replace HB := a_ h_4
       clear h_1 h_2 h_3 h_4
       refine nrn_ ?_
       refine two_ (i := 11) (j := 17) (Ni := some 15) (Nj := some 3) #[true, true, true, true, true, true, true, true, true, true, true, true, true, true, true, false, false, false, false] #[true, true, true, true, true, true, true, true, true, true, true, false, true, true, true, false, false, true, false] rfl rfl rfl rfl (two_of HT_.out (by kernel_rfl)) (by decide) (by decide) (fun K hK => ?_) (fun K hK => ?_)
       ·skip
        refine goes_ Try.func88 (by kernel_rfl) rfl #[.pointer (some ⟨g, 0, none⟩)] (by rfl) rfl rfl (ar_) ?_
        with_reducible refine (wal_Taker_Ints.calls k g t_5 t_6 t_7 t_8 t_9 w0 _ ?side1 ?side2 A_6.out).mono ?_
        (case side1 => exact HI_1.out)
        (case side2 => exact HB.out)
        rintro e w_6 ⟨v_1, rfl, ho_1, hi, hb, hk⟩
        refine ⟨_, rfl, ?_⟩
        replace BK_1 := kb_ hk BK_1 NB_2
        have HO_1 := a_ (Kd.R_lower ho_1 (keep_size (w := w) (g := g) (row := none) HK.out))
        replace HK := kt_ HK hk
        replace HB := a_ hb
        replace HI_1 := a_ hi
        clear hb hk hi ho_1
        refine hK.out _ _ trivial (fun hHeld => ?_)
        clear hK K
        refine nop_ ?_
        exact nrm_ (hJ_4 (v_1) _ ⟨rq_ HO_1.out, bk_ BK_1, HI_1.out, HK.out, HB.out⟩)
       ·skip
        refine box_step ?hg (N := 3) ?hd (cs := #[.int .u64 0, .int .u64 0, .slice none 0 0, .string (⟨#[]⟩ : ByteArray)]) (t := 35) ?hr ?_; (case hd => rfl); (case hg => rfl); (case hr => first | (go_simp; done) | (go_simp; rfl))
        intro gb_2 hg w_6 hbox hb
        replace HB := a_ (below_step HB.out hb)
        have BK_2 := a_ hbox
        have GW_2 := a_ ((by rw [hg]; exact (keep_size (w := w) (g := g) (row := none) HK.out) : w.heap.size ≤ gb_2))
        have GE_2 := a_ ((Nat.le_trans HW_1.out (by rw [hg]; exact (keep_size (w := w) (g := g) (row := none) HK.out) : w.heap.size ≤ gb_2) : w0.heap.size ≤ gb_2))
        replace HK := a_ (KeepBut.trans HK.out (KeepBut.of_below hb g none) (.inl rfl))
        have NB_3 := nB_ hg BK_1
        have NB_4 := nC_ hg BK_1
        replace BK_1 := bB_ BK_1 hb
        have NB_5 := a_ ((by rw [hg]; exact Nat.ne_of_lt (IsS87.lt HI_1.out) : g ≠ gb_2))
        have NB_6 := a_ ((by rw [hg]; exact Nat.ne_of_gt (IsS87.lt HI_1.out) : gb_2 ≠ g))
        replace HI_1 := a_ (IsS87.below HI_1.out hb)
        clear hb hbox hg
        refine hK.out _ _ trivial (fun hHeld => ?_)
        clear hK K
        refine nop_ ?_
        exact nrm_ (hJ_5 (gb_2) _ ⟨bk_ BK_1, bk_ BK_2, GW_2.out, GE_2.out, NB_5.out, NB_6.out, NB_3.out, NB_4.out, HI_1.out, HK.out, HB.out⟩)
     ·skip
      rintro gb_2 w_6 ⟨h_1, h_2, h_3, h_4, h_5, h_6, h_7, h_8, h_9, h_10, h_11⟩
      replace BK_1 := a_ h_1
      have BK_2 := a_ h_2
      have GW_2 := a_ h_3
      have GE_2 := a_ h_4
      have NB_5 := a_ h_5
      have NB_6 := a_ h_6
      have NB_3 := a_ h_7
      have NB_4 := a_ h_8
      replace HI_1 := a_ h_9
      replace HK := a_ h_10
      replace HB := a_ h_11
      clear h_1 h_2 h_3 h_4 h_5 h_6 h_7 h_8 h_9 h_10 h_11
      refine nrn_ ?_
      refine on_ HT_ 11 (some 15) (fun K hK => ?_)
      refine goes_ Try.func88 (by kernel_rfl) rfl #[.pointer (some ⟨g, 0, none⟩)] (by rfl) rfl rfl (ar_) ?_
      with_reducible refine (wal_Taker_Ints.calls k g t_5 t_6 t_7 t_8 t_9 w0 _ ?side1 ?side2 A_6.out).mono ?_
      (case side1 => exact HI_1.out)
      (case side2 => exact HB.out)
      rintro e w_7 ⟨v_1, rfl, ho_1, hi, hb, hk⟩
      refine ⟨_, rfl, ?_⟩
      replace BK_1 := kb_ hk BK_1 NB_2
      replace BK_2 := kb_ hk BK_2 NB_6
      have HO_1 := a_ (Kd.R_lower ho_1 (keep_size (w := w) (g := g) (row := none) HK.out))
      replace HK := kt_ HK hk
      replace HB := a_ hb
      replace HI_1 := a_ hi
      clear hb hk hi ho_1
      refine hK.out _ _ trivial (fun hHeld => ?_)
      clear hK K
      refine nop_ ?_
      exact nrm_ (hJ_3 (v_1, gb_2) _ ⟨rq_ HO_1.out, bk_ BK_1, bk_ BK_2, GW_2.out, GE_2.out, NB_5.out, NB_6.out, NB_3.out, NB_4.out, HI_1.out, HK.out, HB.out⟩)
    ·skip
     rintro v_1 w_6 ⟨h_1, h_2, h_3, h_4, h_5⟩
     have HO_1 := a_ h_1
     replace BK_1 := a_ h_2
     replace HI_1 := a_ h_3
     replace HK := a_ h_4
     replace HB := a_ h_5
     clear h_1 h_2 h_3 h_4 h_5
     refine nrn_ ?_
     refine two_ (i := 15) (j := 17) (Ni := some 19) (Nj := some 3) #[true, true, true, true, true, true, true, true, true, true, true, true, true, true, true, true, false, false, false] #[true, true, true, true, true, true, true, true, true, true, true, true, true, true, true, false, false, true, false] rfl rfl rfl rfl (two_of HT_.out (by kernel_rfl)) (by decide) (by decide) (fun K hK => ?_) (fun K hK => ?_)
     ·skip
      refine goes_ Try.func59 (by kernel_rfl) rfl #[.pointer (some ⟨g, 0, none⟩)] (by rfl) rfl rfl (ar_) ?_
      with_reducible refine (wal_Taker_Text.calls k g t_8 t_9 t_10 t_11 t_12 w0 _ ?side1 ?side2 A_8.out).mono ?_
      (case side1 => exact HI_1.out)
      (case side2 => exact HB.out)
      rintro e w_7 ⟨rfl, hi, hb, hk⟩
      refine ⟨_, rfl, ?_⟩
      replace BK_1 := kb_ hk BK_1 NB_2
      replace HO_1 := a_ (Kd.R_mono (Kd.R_keep (IsS87.apart HI_1.out (by refine rq_ ?_; exact HO_1.out) (by decide)) hk (fun _ h => h.2)) (fun _ h => h.1))
      replace HK := kt_ HK hk
      replace HB := a_ hb
      replace HI_1 := a_ hi
      clear hb hk hi
      obtain ⟨Ao_1, co_1, eo_1⟩ := Kd.R_slice HO_1.out
      (first | subst eo_1 | (injection eo_1 with f1_ f2_ f3_; have f_1 := f1_.symm; have f_2 := f3_.symm; clear f1_ f2_ f3_; subst f_1; subst f_2))
      refine hK.out _ _ trivial (fun hHeld => ?_)
      clear hK K
      refine nop_ ?_
      refine pu_ HT_ 16 (some 20) ?_
      exact nrm_ (hJ_2 (.slice Ao_1 t_7.length co_1) _ ⟨rq_ HO_1.out, bk_ BK_1, HI_1.out, HK.out, HB.out⟩)
     ·skip
      refine box_step ?hg (N := 3) ?hd (cs := #[.int .u64 0, .int .u64 0, .slice none 0 0, .string (⟨#[]⟩ : ByteArray)]) (t := 35) ?hr ?_; (case hd => rfl); (case hg => rfl); (case hr => first | (go_simp; done) | (go_simp; rfl))
      intro gb_2 hg w_7 hbox hb
      replace HO_1 := a_ (Kd.R_below (by refine rq_ ?_; exact HO_1.out) hb)
      replace HB := a_ (below_step HB.out hb)
      have BK_2 := a_ hbox
      have GW_2 := a_ ((by rw [hg]; exact (keep_size (w := w) (g := g) (row := none) HK.out) : w.heap.size ≤ gb_2))
      have GE_2 := a_ ((Nat.le_trans HW_1.out (by rw [hg]; exact (keep_size (w := w) (g := g) (row := none) HK.out) : w.heap.size ≤ gb_2) : w0.heap.size ≤ gb_2))
      replace HK := a_ (KeepBut.trans HK.out (KeepBut.of_below hb g none) (.inl rfl))
      have NB_3 := nB_ hg BK_1
      have NB_4 := nC_ hg BK_1
      replace BK_1 := bB_ BK_1 hb
      have NB_5 := a_ ((by rw [hg]; exact Nat.ne_of_lt (IsS87.lt HI_1.out) : g ≠ gb_2))
      have NB_6 := a_ ((by rw [hg]; exact Nat.ne_of_gt (IsS87.lt HI_1.out) : gb_2 ≠ g))
      replace HI_1 := a_ (IsS87.below HI_1.out hb)
      clear hb hbox hg
      refine hK.out _ _ trivial (fun hHeld => ?_)
      clear hK K
      refine nop_ ?_
      exact nrm_ (hJ_3 (v_1, gb_2) _ ⟨rq_ HO_1.out, bk_ BK_1, bk_ BK_2, GW_2.out, GE_2.out, NB_5.out, NB_6.out, NB_3.out, NB_4.out, HI_1.out, HK.out, HB.out⟩)
   ·skip
    rintro ⟨v_1, gb_2⟩ w_7 ⟨h_1, h_2, h_3, h_4, h_5, h_6, h_7, h_8, h_9, h_10, h_11, h_12⟩
    have HO_1 := a_ h_1
    replace BK_1 := a_ h_2
    have BK_2 := a_ h_3
    have GW_2 := a_ h_4
    have GE_2 := a_ h_5
    have NB_5 := a_ h_6
    have NB_6 := a_ h_7
    have NB_3 := a_ h_8
    have NB_4 := a_ h_9
    replace HI_1 := a_ h_10
    replace HK := a_ h_11
    replace HB := a_ h_12
    clear h_1 h_2 h_3 h_4 h_5 h_6 h_7 h_8 h_9 h_10 h_11 h_12
    refine nrn_ ?_
    refine on_ HT_ 15 (some 19) (fun K hK => ?_)
    refine goes_ Try.func59 (by kernel_rfl) rfl #[.pointer (some ⟨g, 0, none⟩)] (by rfl) rfl rfl (ar_) ?_
    with_reducible refine (wal_Taker_Text.calls k g t_8 t_9 t_10 t_11 t_12 w0 _ ?side1 ?side2 A_8.out).mono ?_
    (case side1 => exact HI_1.out)
    (case side2 => exact HB.out)
    rintro e w_8 ⟨rfl, hi, hb, hk⟩
    refine ⟨_, rfl, ?_⟩
    replace BK_1 := kb_ hk BK_1 NB_2
    replace HO_1 := a_ (Kd.R_mono (Kd.R_keep (IsS87.apart HI_1.out (by refine rq_ ?_; exact HO_1.out) (by decide)) hk (fun _ h => h.2)) (fun _ h => h.1))
    replace BK_2 := kb_ hk BK_2 NB_6
    replace HK := kt_ HK hk
    replace HB := a_ hb
    replace HI_1 := a_ hi
    clear hb hk hi
    obtain ⟨Ao_2, co_2, eo_2⟩ := Kd.R_slice HO_1.out
    (first | subst eo_2 | (injection eo_2 with f1_ f2_ f3_; have f_1 := f1_.symm; have f_2 := f3_.symm; clear f1_ f2_ f3_; subst f_1; subst f_2))
    refine hK.out _ _ trivial (fun hHeld => ?_)
    clear hK K
    refine nop_ ?_
    refine pu_ HT_ 16 (some 20) ?_
    exact nrm_ (hJ_1 (.slice Ao_2 t_7.length co_2, gb_2) _ ⟨rq_ HO_1.out, bk_ BK_1, bk_ BK_2, GW_2.out, GE_2.out, NB_5.out, NB_6.out, NB_3.out, NB_4.out, HI_1.out, HK.out, HB.out⟩)
  ·skip
   rintro v_1 w_8 ⟨h_1, h_2, h_3, h_4, h_5⟩
   have HO_1 := a_ h_1
   replace BK_1 := a_ h_2
   replace HI_1 := a_ h_3
   replace HK := a_ h_4
   replace HB := a_ h_5
   clear h_1 h_2 h_3 h_4 h_5
   obtain ⟨Ao_2, co_2, eo_2⟩ := Kd.R_slice HO_1.out
   (first | subst eo_2 | (injection eo_2 with f1_ f2_ f3_; have f_1 := f1_.symm; have f_2 := f3_.symm; clear f1_ f2_ f3_; subst f_1; subst f_2))
   refine nrn_ ?_
   refine on_ HT_ 17 (some 3) (fun K hK => ?_)
   refine box_step ?hg (N := 3) ?hd (cs := #[.int .u64 0, .int .u64 0, .slice none 0 0, .string (⟨#[]⟩ : ByteArray)]) (t := 35) ?hr ?_; (case hd => rfl); (case hg => rfl); (case hr => first | (go_simp; done) | (go_simp; rfl))
   intro gb_2 hg w_9 hbox hb
   replace HO_1 := a_ (Kd.R_below (by refine rq_ ?_; exact HO_1.out) hb)
   replace HB := a_ (below_step HB.out hb)
   have BK_2 := a_ hbox
   have GW_2 := a_ ((by rw [hg]; exact (keep_size (w := w) (g := g) (row := none) HK.out) : w.heap.size ≤ gb_2))
   have GE_2 := a_ ((Nat.le_trans HW_1.out (by rw [hg]; exact (keep_size (w := w) (g := g) (row := none) HK.out) : w.heap.size ≤ gb_2) : w0.heap.size ≤ gb_2))
   replace HK := a_ (KeepBut.trans HK.out (KeepBut.of_below hb g none) (.inl rfl))
   have NB_3 := nB_ hg BK_1
   have NB_4 := nC_ hg BK_1
   replace BK_1 := bB_ BK_1 hb
   have NB_5 := a_ ((by rw [hg]; exact Nat.ne_of_lt (IsS87.lt HI_1.out) : g ≠ gb_2))
   have NB_6 := a_ ((by rw [hg]; exact Nat.ne_of_gt (IsS87.lt HI_1.out) : gb_2 ≠ g))
   replace HI_1 := a_ (IsS87.below HI_1.out hb)
   clear hb hbox hg
   refine hK.out _ _ trivial (fun hHeld => ?_)
   clear hK K
   refine nop_ ?_
   exact nrm_ (hJ_1 (.slice Ao_2 t_7.length co_2, gb_2) _ ⟨rq_ HO_1.out, bk_ BK_1, bk_ BK_2, GW_2.out, GE_2.out, NB_5.out, NB_6.out, NB_3.out, NB_4.out, HI_1.out, HK.out, HB.out⟩)
 rintro ⟨v_1, gb_2⟩ w_10 ⟨h_1, h_2, h_3, h_4, h_5, h_6, h_7, h_8, h_9, h_10, h_11, h_12⟩
 have HO_1 := a_ h_1
 replace BK_1 := a_ h_2
 have BK_2 := a_ h_3
 have GW_2 := a_ h_4
 have GE_2 := a_ h_5
 have NB_5 := a_ h_6
 have NB_6 := a_ h_7
 have NB_3 := a_ h_8
 have NB_4 := a_ h_9
 replace HI_1 := a_ h_10
 replace HK := a_ h_11
 replace HB := a_ h_12
 clear h_1 h_2 h_3 h_4 h_5 h_6 h_7 h_8 h_9 h_10 h_11 h_12
 obtain ⟨Ao_3, co_3, eo_3⟩ := Kd.R_slice HO_1.out
 (first | subst eo_3 | (injection eo_3 with f1_ f2_ f3_; have f_1 := f1_.symm; have f_2 := f3_.symm; clear f1_ f2_ f3_; subst f_1; subst f_2))
 refine nrn_ ?_
 refine on_ HT_ 18 (none) (fun K hK => ?_)
 have hs_1 : w_10.cell? ⟨gb_2, 0, none⟩ = some (.int .u64 0) := (blk_cell BK_2.out 0).trans rfl
 have hfs_1 := blk_frozen BK_2.out 0
 have hns_1 := NB_3.out
 have hms_1 := NB_4.out
 have hs_2 : w_10.cell? ⟨gb_2, 1, none⟩ = some (.int .u64 0) := (blk_cell BK_2.out 1).trans rfl
 have hfs_2 := blk_frozen BK_2.out 1
 have hns_2 := NB_3.out
 have hms_2 := NB_4.out
 have hs_3 : w_10.cell? ⟨gb_2, 2, none⟩ = some (.slice none 0 0) := (blk_cell BK_2.out 2).trans rfl
 have hfs_3 := blk_frozen BK_2.out 2
 have hns_3 := NB_3.out
 have hms_3 := NB_4.out
 have hs_4 : w_10.cell? ⟨gb_2, 3, none⟩ = some (.string (⟨#[]⟩ : ByteArray)) := (blk_cell BK_2.out 3).trans rfl
 have hfs_4 := blk_frozen BK_2.out 3
 have hns_4 := NB_3.out
 have hms_4 := NB_4.out
 refine skip_ (w1 := ?_) (by rfl) rfl ?_ ?_
 rotate_left
 ·go_simp
  rfl
 refine hK.out _ _ trivial (fun hHeld => ?_)
 clear hK K
 refine done_ (done_of HT_.out (by kernel_rfl)) ?_
 obtain ⟨Tz_1, hTz_1, HGz_1, hgz_1⟩ := HI_1.out
 have hcz_1 := cellS87_0 HGz_1
 have hcz_2 := cellS87_1 HGz_1
 have hfz_1 := blk_frozen HGz_1 0
 have hfz_2 := blk_frozen HGz_1 1
 clear HGz_1 hgz_1
 have hnb_1 := NB_4.out
 have hnc_1 := NB_3.out
 have hnb_2 := NB_6.out
 have hnc_2 := NB_5.out
 obtain ⟨_, _, _, _, _, _, _, _⟩ := c4_ BK_2
 by_cases c_1 : t_12 = true
 focus
  subst c_1
  rw [if_pos rfl] at H
  simp only [Option.some.injEq, Prod.mk.injEq] at H
  obtain ⟨rfl, rfl, rfl, rfl, rfl, rfl⟩ := H
  have L0_ := trivial
 rotate_left
 replace c_1 := Bool.eq_false_iff.mpr c_1
 subst c_1
 rw [if_neg (show ¬ (false = true) by decide)] at H
 obtain ⟨t_13, A_9, H⟩ := Option.bind_eq_some_iff.mp H
 try dsimp only at H
 have A_10 := a_ A_9
 clear A_9
 simp only [Option.some.injEq, Prod.mk.injEq] at H
 obtain ⟨rfl, rfl, rfl, rfl, rfl, rfl⟩ := H
 have L1_ := trivial
 all_goals
  first
  | (have _ := L0_
     have hnb_3 := NB_2.out
     have hnc_3 := NB_1.out
     obtain ⟨_, _, _, _, _, _, _, _⟩ := c4_ BK_1
     try go_wp2
     refine bodyPost_ret (results_cell_row rfl _ _ gb_1 35 #[.int .u64 t_1, .int .u64 t_4, .slice Ao_3 t_7.length co_3, .string t_10] (0, 0) _ rfl (bp_2 BK_1 NB_2 NB_3) Try.underlying35 rfl (by kernel_rfl)) rfl ?_
     exact ⟨_, fz_, by refine rq_ ?_; exact Kd.R_mono (Kd.R_far (p := ⟨gb_1, 3, none⟩) (Kd.R_far (p := ⟨gb_1, 2, none⟩) (Kd.R_far (p := ⟨gb_1, 1, none⟩) (Kd.R_far (p := ⟨gb_1, 0, none⟩) (Kd.R_far (p := ⟨g, 1, none⟩) (Kd.R_far (p := ⟨gb_2, 3, none⟩) (Kd.R_far (p := ⟨gb_2, 2, none⟩) (Kd.R_far (p := ⟨gb_2, 1, none⟩) (Kd.R_far (p := ⟨gb_2, 0, none⟩) (Kd.R_types (IsS87.apart HI_1.out (Kd.R_types HO_1.out BK_2.out (by decide)) (by decide)) BK_1.out (by decide)) (fun _ hk => hk.1.1.2) (.int .u64 t_1)) (fun _ hk => hk.1.1.2) (.int .u64 t_4)) (fun _ hk => hk.1.1.2) (.slice Ao_3 t_7.length co_3)) (fun _ hk => hk.1.1.2) (.string t_10)) (fun _ hk => hk.1.2) (.bool true)) (fun _ hk => hk.2) (.int .u64 t_1)) (fun _ hk => hk.2) (.int .u64 t_4)) (fun _ hk => hk.2) (.slice Ao_3 t_7.length co_3)) (fun _ hk => hk.2) (.string t_10)) (fun _ hk => trivial), hi87c_ HI_1 NB_1 NB_5, hb3_ HB (IsS87.ge HI_1.out) GE_1.out GE_2.out, hk2_ HK GW_1 GW_2⟩)
  | (have _ := L1_
     try go_wp2_with (go_at_call 36; (with_reducible refine (snap_Check.calls k t_1 t_4 _ _ t_7 t_10 t_13 _ ?side1 ?side2 A_10.out).mono ?_); (case side1 => refine (Kd.R_reads' (e := 3) (base := w.heap.size) (ok := fun k_ => True) (n := t_7.length) (c := co_3) ?_).2.2; exact (by refine rq_ ?_; exact (Kd.R_mono (Kd.R_far (p := ⟨gb_2, 3, none⟩) (Kd.R_far (p := ⟨gb_2, 2, none⟩) (Kd.R_far (p := ⟨gb_2, 1, none⟩) (Kd.R_far (p := ⟨gb_2, 0, none⟩) (Kd.R_types HO_1.out BK_2.out (by decide)) (fun _ hk => hk.2) (.int .u64 t_1)) (fun _ hk => hk.2) (.int .u64 t_4)) (fun _ hk => hk.2) (.slice Ao_3 t_7.length co_3)) (fun _ hk => hk.2) (.string t_10)) (fun _ h_ => h_.1)))); (case side2 => exact (Kd.R_reads' HO_1.out).2.1); rintro e w_11 ⟨rfl, hb⟩; replace HO_1 := a_ (Kd.R_below (by refine rq_ ?_; exact (Kd.R_mono (Kd.R_far (p := ⟨gb_2, 3, none⟩) (Kd.R_far (p := ⟨gb_2, 2, none⟩) (Kd.R_far (p := ⟨gb_2, 1, none⟩) (Kd.R_far (p := ⟨gb_2, 0, none⟩) (Kd.R_types HO_1.out BK_2.out (by decide)) (fun _ hk => hk.2) (.int .u64 t_1)) (fun _ hk => hk.2) (.int .u64 t_4)) (fun _ hk => hk.2) (.slice Ao_3 t_7.length co_3)) (fun _ hk => hk.2) (.string t_10)) (fun _ h_ => h_.1))) hb); replace BK_1 := a_ (blk_below (g := gb_1) (o := .cells #[.int .u64 0, .int .u64 0, .slice none 0 0, .string (⟨#[]⟩ : ByteArray)] 35 (0, 0)) (bp_1 BK_1 NB_3) hb); replace BK_2 := a_ (blk_below (g := gb_2) (o := .cells #[.int .u64 t_1, .int .u64 t_4, .slice Ao_3 t_7.length co_3, .string t_10] 35 (0, 0)) (bp_0 BK_2) hb); replace HK := a_ (KeepBut.trans (hk2_ HK GW_1 GW_2) (KeepBut.of_below hb g none) (.inl rfl)); replace HB := a_ (below_step (hb3_ HB (IsS87.ge HI_1.out) GE_1.out GE_2.out) hb); replace HI_1 := a_ (IsS87.below (show IsS87 w0 ((((w_10.setCell ⟨gb_2, 0, none⟩ (.int .u64 t_1)).setCell ⟨gb_2, 1, none⟩ (.int .u64 t_4)).setCell ⟨gb_2, 2, none⟩ (.slice Ao_3 t_7.length co_3)).setCell ⟨gb_2, 3, none⟩ (.string t_10)) g t_11 false from hi87c_ HI_1 NB_1 NB_5) hb); (try clear hb); obtain ⟨Tz_2, hTz_2, HGz_2, hgz_2⟩ := HI_1.out; have hcz_7 := cellS87_0 HGz_2; have hcz_8 := cellS87_1 HGz_2; have hfz_7 := blk_frozen HGz_2 0; have hfz_8 := blk_frozen HGz_2 1; clear HGz_2 hgz_2; obtain ⟨_, _, _, _, _, _, _, _⟩ := c4_ BK_2; have hnb_3 := NB_2.out; have hnc_3 := NB_1.out; obtain ⟨_, _, _, _, _, _, _, _⟩ := c4_ BK_1)
     refine bodyPost_ret (results_cell_row rfl _ _ gb_1 35 #[.int .u64 t_1, .int .u64 t_4, .slice Ao_3 t_7.length co_3, .string t_10] (0, 0) _ rfl (bp_1 BK_1 NB_2) Try.underlying35 rfl (by kernel_rfl)) rfl ?_
     exact ⟨_, fz_, by refine rq_ ?_; exact Kd.R_mono (Kd.R_far (p := ⟨gb_1, 3, none⟩) (Kd.R_far (p := ⟨gb_1, 2, none⟩) (Kd.R_far (p := ⟨gb_1, 1, none⟩) (Kd.R_far (p := ⟨gb_1, 0, none⟩) (Kd.R_far (p := ⟨g, 1, none⟩) (Kd.R_types (IsS87.apart HI_1.out HO_1.out (by decide)) BK_1.out (by decide)) (fun _ hk => hk.1.2) (.bool (t_13 != 0))) (fun _ hk => hk.2) (.int .u64 t_1)) (fun _ hk => hk.2) (.int .u64 t_4)) (fun _ hk => hk.2) (.slice Ao_3 t_7.length co_3)) (fun _ hk => hk.2) (.string t_10)) (fun _ hk => trivial), hi87c_ HI_1 NB_1 NB_5, hb3_ HB (IsS87.ge HI_1.out) GE_1.out GE_2.out, hk2_ HK GW_1 GW_2⟩)

end Go.Proofs.Ytcdibodjkdoknaa.PM
