-- Written for this claim by a program of this session. Lean checks it.
import Derived.Test.YtcdibodjkdoknaaPMx0
import Derived.Test.YtcdibodjkdoknaaPMx3
import Derived.Test.YtcdibodjkdoknaaPMx6
import Derived.Test.YtcdibodjkdoknaaPMx7
namespace Go.Proofs.Ytcdibodjkdoknaa.PM
open Go.RowKit Go.Proofs.YtcdibodjkdoknaaW.PrintWords Go.Proofs.YtcdibodjkdoknaaW.PrintLast Go.Proofs.YtcdibodjkdoknaaW.PrintMore Go.Proofs.Ytcdibodjkdoknaa.Sh Go.Proofs.Ytcdibodjkdoknaa.Op
attribute [local go_sem] max2_int min2_int max_two min_two max_three min_three max_four min_four   -- for this text's walks alone
set_option linter.unusedVariables false
set_option maxHeartbeats 80000000
set_option maxRecDepth 100000
set_option linter.unusedSimpArgs false

/-! ### snap_Taker_Snap: function 80 -/
def snap_Taker_Snap.f (k : Nat) (s0_0 : ByteArray) (s0_1 : Bool) : Option (Int × Int × List Int × ByteArray × ByteArray × Bool) := (wal_Taker_Number.f k s0_0 s0_1).bind fun bt166 => ((wal_Taker_Number.f k bt166.2.1 bt166.2.2).bind fun bt169 => ((wal_Taker_Ints.f k bt169.2.1 bt169.2.2).bind fun bt172 => ((wal_Taker_Text.f k bt172.2.1 bt172.2.2).bind fun bt177 => (if bt177.2.2 = true then (some (bt166.1, bt169.1, bt172.1, bt177.1, bt177.2.1, true)) else ((snap_Check.f k bt166.1 bt169.1 bt172.1 bt177.1).bind fun t181 => (some (bt166.1, bt169.1, bt172.1, bt177.1, bt177.2.1, (t181 != 0))))))))
theorem snap_Taker_Snap.mono : ∀ a0 a1 k, LeO (snap_Taker_Snap.f k a0 a1) (snap_Taker_Snap.f (k + 1) a0 a1) := by
 intro a0 a1 k
 unfold snap_Taker_Snap.f
 repeat' with_reducible first | exact snap_Check.mono _ _ _ _ _ | exact wal_Taker_Ints.mono _ _ _ | exact wal_Taker_Number.mono _ _ _ | exact wal_Taker_Text.mono _ _ _ | exact LeO.refl _ | exact LeO.none _ | refine LeO.ite ?_ ?_ | refine LeO.bind ?_ (fun _ => ?_)
def snap_Taker_Snap.T1 : Bool × List (List Nat × List Nat) := (true, [([], []), ([0], [0]), ([1], [1]), ([2], [2]), ([], []), ([4], [4]), ([5], [5]), ([6, 3], [6]), ([], []), ([8], [8]), ([9], [9]), ([10, 7], [10]), ([], []), ([12], [12]), ([13], [13]), ([14, 11], [14]), ([3, 7, 11, 15], [3, 7, 11, 15]), ([], []), ([17, 16, 15, 0, 1, 2, 3, 4, 5, 6, 7, 8, 9, 10, 11, 12, 13, 14, 15, 16, 17], [16, 17])])
def snap_Taker_Snap.B1 : List Nat := [0, 1, 3, 7, 0, 16, 48, 127, 0, 256, 768, 2047, 0, 4096, 12288, 32767, 65535, 0, 262143]
theorem snap_Taker_Snap.tab1 : rtab .any (opsOf Try.f80 1) = snap_Taker_Snap.T1 := by kernel_rfl
theorem snap_Taker_Snap.bits1 : waitsOk snap_Taker_Snap.T1.2 snap_Taker_Snap.B1 = true := by kernel_rfl
theorem snap_Taker_Snap.calls (k : Nat) (g : Nat) (s0_0 : ByteArray) (s0_1 : Bool) (r1 : Int) (r2 : Int) (r3 : List Int) (r4 : ByteArray) (r5 : ByteArray) (r6 : Bool) (w0 w : World) (hI : IsS87 w0 w g s0_0 s0_1) (hB : Below w0.heap.size w0 w) (h : snap_Taker_Snap.f k s0_0 s0_1 = some (r1, r2, r3, r4, r5, r6)) :
  Calls Try.prog 80 #[.pointer (some ⟨g, 0, none⟩)] w fun e w' => ∃ v2_ : Value, e = .returned (.agg #[.int .u64 r1, .int .u64 r2, v2_, .string r4]) ∧ Kd.R (Kd.int .i64) 3 w' w.heap.size (fun _ => True) v2_ r3 ∧ IsS87 w0 w' g r5 r6 ∧ Below w0.heap.size w0 w' ∧ KeepBut w w' g none := by
 have hu_1 := Try.underlying35
 have HI_1 := a_ hI
 have HK := a_ (KeepBut.refl w g none)
 have HL := a_ hB.size
 clear hI
 have HW_1 := a_ hB.size
 have HB := a_ hB
 clear hB
 have H : ((wal_Taker_Number.f k s0_0 s0_1).bind fun bt166 => ((wal_Taker_Number.f k bt166.2.1 bt166.2.2).bind fun bt169 => ((wal_Taker_Ints.f k bt169.2.1 bt169.2.2).bind fun bt172 => ((wal_Taker_Text.f k bt172.2.1 bt172.2.2).bind fun bt177 => (if bt177.2.2 = true then (some (bt166.1, bt169.1, bt172.1, bt177.1, bt177.2.1, true)) else ((snap_Check.f k bt166.1 bt169.1 bt172.1 bt177.1).bind fun t181 => (some (bt166.1, bt169.1, bt172.1, bt177.1, bt177.2.1, (t181 != 0))))))))) = some (r1, r2, r3, r4, r5, r6) := h
 clear h
 obtain ⟨⟨t_1, t_2, t_3⟩, A_1, H⟩ := Option.bind_eq_some_iff.mp H
 try dsimp only at H
 have A_2 := a_ A_1
 clear A_1
 obtain ⟨⟨t_4, t_5, t_6⟩, A_3, H⟩ := Option.bind_eq_some_iff.mp H
 try dsimp only at H
 have A_4 := a_ A_3
 clear A_3
 obtain ⟨⟨t_7, t_8, t_9⟩, A_5, H⟩ := Option.bind_eq_some_iff.mp H
 try dsimp only at H
 have A_6 := a_ A_5
 clear A_5
 obtain ⟨⟨t_10, t_11, t_12⟩, A_7, H⟩ := Option.bind_eq_some_iff.mp H
 try dsimp only at H
 have A_8 := a_ A_7
 clear A_7
 go_enter Try.func80, Try.ntmps80
 try go_wp2_with (first | ((with_reducible refine gd_ 2 ?_); refine bx_ 2 #[.int .u64 0, .int .u64 0, .slice none 0 0, .string (⟨#[]⟩ : ByteArray)] 35 ?_; intro gb_1 hg w_1 hbox hb; replace HB := a_ (below_step (by repeat (first | (with_reducible first | exact HB.out | apply below_alloc | apply pw_below_drewN | apply below_drew1 | refine below_set ?_ (IsS87.ge HI_1.out)) | exact HB.out)) hb); have BK_1 := a_ (hbox); have GW_1 := a_ ((by rw [hg]; exact (keep_size (w := w) (g := g) (row := none) (by repeat (first | (with_reducible first | exact HK.out | apply KeepBut.set_ | apply keep_drewN | apply keep_drew | apply keep_alloc) | exact HK.out))) : w.heap.size ≤ gb_1)); have GE_1 := a_ ((Nat.le_trans HW_1.out (by rw [hg]; exact (keep_size (w := w) (g := g) (row := none) (by repeat (first | (with_reducible first | exact HK.out | apply KeepBut.set_ | apply keep_drewN | apply keep_drew | apply keep_alloc) | exact HK.out))) : w.heap.size ≤ gb_1) : w0.heap.size ≤ gb_1)); replace HK := a_ (KeepBut.trans (by repeat (first | (with_reducible first | exact HK.out | apply KeepBut.set_ | apply keep_drewN | apply keep_drew | apply keep_alloc) | exact HK.out)) (KeepBut.of_below hb g none) (.inl rfl)); have NB_1 := a_ ((by rw [hg]; exact Nat.ne_of_lt (IsS87.lt (show IsS87 w0 _ g s0_0 s0_1 from by repeat (first | (with_reducible first | exact HI_1.out | apply IsS87.alloc | apply IsS87.drewN | apply IsS87.drew | apply IsS87.set_0 | apply IsS87.set_1) | exact HI_1.out))) : g ≠ gb_1)); have NB_2 := a_ ((by rw [hg]; exact Nat.ne_of_gt (IsS87.lt (show IsS87 w0 _ g s0_0 s0_1 from by repeat (first | (with_reducible first | exact HI_1.out | apply IsS87.alloc | apply IsS87.drewN | apply IsS87.drew | apply IsS87.set_0 | apply IsS87.set_1) | exact HI_1.out))) : gb_1 ≠ g)); replace HI_1 := a_ (IsS87.below (by repeat (first | (with_reducible first | exact HI_1.out | apply IsS87.alloc | apply IsS87.drewN | apply IsS87.drew | apply IsS87.set_0 | apply IsS87.set_1) | exact HI_1.out)) hb); clear hb hbox hg))
 have n_1 := a_ (blk_drew BK_1.out)
 have n_2 := a_ (IsS87.drew HI_1.out)
 have n_3 := a_ (keep_drew HK.out)
 have n_4 := a_ (below_drew1 HB.out)
 clear BK_1
 clear HI_1
 clear HK
 clear HB
 have BK_1 := n_1
 have HI_1 := n_2
 have HK := n_3
 have HB := n_4
 clear n_1 n_2 n_3 n_4
 refine start_ (n := 19) (S := fun w' => True) (ds := []) #[false, false, false, false, false, false, false, false, false, false, false, false, false, false, false, false, false, false, false] (by kernel_rfl) rfl rfl trivial (fun hHeld => ?_); refine with_tabW snap_Taker_Snap.tab1 snap_Taker_Snap.bits1 (fun HT_ HW_ => ?_)
 generalize w_1.drew = w_2 at BK_1 HI_1 HK HB hHeld ⊢
 refine pu_ HT_ 0 (some 4) ?_
 refine pu_ HT_ 1 (some 5) ?_
 refine pu_ HT_ 2 (some 6) ?_
 refine pu_ HT_ 4 (some 8) ?_
 refine pu_ HT_ 5 (some 9) ?_
 refine pu_ HT_ 6 (some 10) ?_
 refine pu_ HT_ 8 (some 12) ?_
 refine pu_ HT_ 9 (some 13) ?_
 refine pu_ HT_ 10 (some 14) ?_
 refine pu_ HT_ 12 (some 16) ?_
 refine pu_ HT_ 13 (some 17) ?_
 refine pu_ HT_ 14 (some 18) ?_
 refine join_ (σ := Value × Nat) 1 #[true, true, true, true, true, true, true, true, true, true, true, true, true, true, true, true, true, true, false] (fun s_ => [(7, .int .u64 t_1), (11, .int .u64 t_4), (15, s_.1), (19, .string t_10), (3, .pointer (some ⟨s_.2, 0, none⟩)), (20, .agg #[.int .u64 t_1, .int .u64 t_4, s_.1, .string t_10])]) (fun s_ w' => (Kd.R (Kd.int .i64) 3 w' w.heap.size (fun _ => True) s_.1 t_7) ∧ (w'.heap[gb_1]? = some (.cells #[.int .u64 0, .int .u64 0, .slice none 0 0, .string (⟨#[]⟩ : ByteArray)] 35 (0, 0))) ∧ (w'.heap[s_.2]? = some (.cells #[.int .u64 0, .int .u64 0, .slice none 0 0, .string (⟨#[]⟩ : ByteArray)] 35 (0, 0))) ∧ (w.heap.size ≤ s_.2) ∧ (w0.heap.size ≤ s_.2) ∧ (g ≠ s_.2) ∧ (s_.2 ≠ g) ∧ (gb_1 ≠ s_.2) ∧ (s_.2 ≠ gb_1) ∧ (IsS87 w0 w' g t_11 t_12) ∧ (KeepBut w w' g none) ∧ (Below w0.heap.size w0 w')) ?_ ?_
 rotate_left
 ·intro hJ_1
  refine join_ (σ := Value) 2 #[true, true, true, true, true, true, true, true, true, true, true, true, true, true, true, true, true, false, false] (fun s_ => [(7, .int .u64 t_1), (11, .int .u64 t_4), (15, s_), (19, .string t_10), (20, .agg #[.int .u64 t_1, .int .u64 t_4, s_, .string t_10])]) (fun s_ w' => (Kd.R (Kd.int .i64) 3 w' w.heap.size (fun _ => True) s_ t_7) ∧ (w'.heap[gb_1]? = some (.cells #[.int .u64 0, .int .u64 0, .slice none 0 0, .string (⟨#[]⟩ : ByteArray)] 35 (0, 0))) ∧ (IsS87 w0 w' g t_11 t_12) ∧ (KeepBut w w' g none) ∧ (Below w0.heap.size w0 w')) ?_ ?_
  rotate_left
  ·intro hJ_2
   refine join_ (σ := Value × Nat) 3 #[true, true, true, true, true, true, true, true, true, true, true, true, true, true, true, false, false, true, false] (fun s_ => [(7, .int .u64 t_1), (11, .int .u64 t_4), (15, s_.1), (3, .pointer (some ⟨s_.2, 0, none⟩))]) (fun s_ w' => (Kd.R (Kd.int .i64) 3 w' w.heap.size (fun _ => True) s_.1 t_7) ∧ (w'.heap[gb_1]? = some (.cells #[.int .u64 0, .int .u64 0, .slice none 0 0, .string (⟨#[]⟩ : ByteArray)] 35 (0, 0))) ∧ (w'.heap[s_.2]? = some (.cells #[.int .u64 0, .int .u64 0, .slice none 0 0, .string (⟨#[]⟩ : ByteArray)] 35 (0, 0))) ∧ (w.heap.size ≤ s_.2) ∧ (w0.heap.size ≤ s_.2) ∧ (g ≠ s_.2) ∧ (s_.2 ≠ g) ∧ (gb_1 ≠ s_.2) ∧ (s_.2 ≠ gb_1) ∧ (IsS87 w0 w' g t_8 t_9) ∧ (KeepBut w w' g none) ∧ (Below w0.heap.size w0 w')) ?_ ?_
   rotate_left
   ·intro hJ_3
    refine join_ (σ := Value) 4 #[true, true, true, true, true, true, true, true, true, true, true, true, true, true, true, false, false, false, false] (fun s_ => [(7, .int .u64 t_1), (11, .int .u64 t_4), (15, s_)]) (fun s_ w' => (Kd.R (Kd.int .i64) 3 w' w.heap.size (fun _ => True) s_ t_7) ∧ (w'.heap[gb_1]? = some (.cells #[.int .u64 0, .int .u64 0, .slice none 0 0, .string (⟨#[]⟩ : ByteArray)] 35 (0, 0))) ∧ (IsS87 w0 w' g t_8 t_9) ∧ (KeepBut w w' g none) ∧ (Below w0.heap.size w0 w')) ?_ ?_
    rotate_left
    ·intro hJ_4
     refine join_ (σ := Nat) 4 #[true, true, true, true, true, true, true, true, true, true, true, false, true, true, true, false, false, true, false] (fun s_ => [(7, .int .u64 t_1), (11, .int .u64 t_4), (3, .pointer (some ⟨s_, 0, none⟩))]) (fun s_ w' => (w'.heap[gb_1]? = some (.cells #[.int .u64 0, .int .u64 0, .slice none 0 0, .string (⟨#[]⟩ : ByteArray)] 35 (0, 0))) ∧ (w'.heap[s_]? = some (.cells #[.int .u64 0, .int .u64 0, .slice none 0 0, .string (⟨#[]⟩ : ByteArray)] 35 (0, 0))) ∧ (w.heap.size ≤ s_) ∧ (w0.heap.size ≤ s_) ∧ (g ≠ s_) ∧ (s_ ≠ g) ∧ (gb_1 ≠ s_) ∧ (s_ ≠ gb_1) ∧ (IsS87 w0 w' g t_5 t_6) ∧ (KeepBut w w' g none) ∧ (Below w0.heap.size w0 w')) ?_ ?_
     rotate_left
     ·intro hJ_5
      refine join_ (σ := Unit) 5 #[true, true, true, true, true, true, true, true, true, true, true, false, true, true, true, false, false, false, false] (fun s_ => [(7, .int .u64 t_1), (11, .int .u64 t_4)]) (fun s_ w' => (w'.heap[gb_1]? = some (.cells #[.int .u64 0, .int .u64 0, .slice none 0 0, .string (⟨#[]⟩ : ByteArray)] 35 (0, 0))) ∧ (IsS87 w0 w' g t_5 t_6) ∧ (KeepBut w w' g none) ∧ (Below w0.heap.size w0 w')) ?_ ?_
      rotate_left
      ·intro hJ_6
       refine join_ (σ := Nat) 5 #[true, true, true, true, true, true, true, false, true, true, true, false, true, true, true, false, false, true, false] (fun s_ => [(7, .int .u64 t_1), (3, .pointer (some ⟨s_, 0, none⟩))]) (fun s_ w' => (w'.heap[gb_1]? = some (.cells #[.int .u64 0, .int .u64 0, .slice none 0 0, .string (⟨#[]⟩ : ByteArray)] 35 (0, 0))) ∧ (w'.heap[s_]? = some (.cells #[.int .u64 0, .int .u64 0, .slice none 0 0, .string (⟨#[]⟩ : ByteArray)] 35 (0, 0))) ∧ (w.heap.size ≤ s_) ∧ (w0.heap.size ≤ s_) ∧ (g ≠ s_) ∧ (s_ ≠ g) ∧ (gb_1 ≠ s_) ∧ (s_ ≠ gb_1) ∧ (IsS87 w0 w' g t_2 t_3) ∧ (KeepBut w w' g none) ∧ (Below w0.heap.size w0 w')) ?_ ?_
       rotate_left
       ·intro hJ_7
        refine join_ (σ := Unit) 6 #[true, true, true, true, true, true, true, false, true, true, true, false, true, true, true, false, false, false, false] (fun s_ => [(7, .int .u64 t_1)]) (fun s_ w' => (w'.heap[gb_1]? = some (.cells #[.int .u64 0, .int .u64 0, .slice none 0 0, .string (⟨#[]⟩ : ByteArray)] 35 (0, 0))) ∧ (IsS87 w0 w' g t_2 t_3) ∧ (KeepBut w w' g none) ∧ (Below w0.heap.size w0 w')) ?_ ?_
        rotate_left
        ·intro hJ_8
         refine join_ (σ := Nat) 6 #[true, true, true, false, true, true, true, false, true, true, true, false, true, true, true, false, false, true, false] (fun s_ => [(3, .pointer (some ⟨s_, 0, none⟩))]) (fun s_ w' => (w'.heap[gb_1]? = some (.cells #[.int .u64 0, .int .u64 0, .slice none 0 0, .string (⟨#[]⟩ : ByteArray)] 35 (0, 0))) ∧ (w'.heap[s_]? = some (.cells #[.int .u64 0, .int .u64 0, .slice none 0 0, .string (⟨#[]⟩ : ByteArray)] 35 (0, 0))) ∧ (w.heap.size ≤ s_) ∧ (w0.heap.size ≤ s_) ∧ (g ≠ s_) ∧ (s_ ≠ g) ∧ (gb_1 ≠ s_) ∧ (s_ ≠ gb_1) ∧ (IsS87 w0 w' g s0_0 s0_1) ∧ (KeepBut w w' g none) ∧ (Below w0.heap.size w0 w')) ?_ ?_
         rotate_left
         ·intro hJ_9
          refine two_ (i := 3) (j := 17) (Ni := some 7) (Nj := some 3) #[true, true, true, true, true, true, true, false, true, true, true, false, true, true, true, false, false, false, false] #[true, true, true, false, true, true, true, false, true, true, true, false, true, true, true, false, false, true, false] rfl rfl rfl rfl (two_of HT_.out (by kernel_rfl)) (by decide) (by decide) (fun K hK => ?_) (fun K hK => ?_)
          ·skip
           refine goes_ Try.func53 (by kernel_rfl) rfl #[.pointer (some ⟨g, 0, none⟩)] (by rfl) rfl rfl (ar_) ?_
           with_reducible refine (wal_Taker_Number.calls k g s0_0 s0_1 t_1 t_2 t_3 w0 _ ?side1 ?side2 A_2.out).mono ?_
           (case side1 => repeat (first | (with_reducible first | exact HI_1.out | apply IsS87.alloc | apply IsS87.drewN | apply IsS87.drew | apply IsS87.set_0 | apply IsS87.set_1 | apply IsS87.far (hne := NB_1.out)) | exact HI_1.out))
           (case side2 => repeat (first | (with_reducible first | exact HB.out | apply below_alloc | apply pw_below_drewN | apply below_drew1 | refine below_set ?_ (IsS87.ge HI_1.out) | refine below_set ?_ GE_1.out) | exact HB.out))
           rintro e w_3 ⟨rfl, hi, hb, hk⟩
           refine ⟨_, rfl, ?_⟩
           have n_1 := a_ (KeepBut.blk hk (g' := gb_1) (o := .cells #[.int .u64 0, .int .u64 0, .slice none 0 0, .string (⟨#[]⟩ : ByteArray)] 35 (0, 0)) (bk_ BK_1) NB_2.out (by simp))
           have n_2 := a_ (KeepBut.trans (by repeat (first | (with_reducible first | exact HK.out | apply KeepBut.set_ | apply keep_drewN | apply keep_drew | apply keep_alloc | refine keep_far ?_ GW_1.out _) | exact HK.out)) hk (.inl rfl))
           have n_3 := a_ (hb)
           have n_4 := a_ (hi)
           clear BK_1
           clear HK
           clear HB
           clear HI_1
           have BK_1 := n_1
           have HK := n_2
           have HB := n_3
           have HI_1 := n_4
           clear n_1 n_2 n_3 n_4
           (try clear hb)
           (try clear hb2)
           (try clear hk)
           (try clear hi)
           refine hK.out _ _ trivial (fun hHeld => ?_)
           clear hK K
           refine norm_ (a' := ?_) ?_ ?_
           rotate_left
           ·show Act.put _ (some 7) _ = _
            simp only [Act.put, List.setIfInBounds_toArray, List.set_cons_zero, List.set_cons_succ, i64_w, i32_w]
            rfl
           exact norm_ (by first | (simp only [putAll, Act.put, List.setIfInBounds_toArray, List.set_cons_zero, List.set_cons_succ]; done) | (simp only [putAll, Act.put, List.setIfInBounds_toArray, List.set_cons_zero, List.set_cons_succ]; rfl)) (hJ_8 () _ ⟨(bk_ BK_1), (by repeat (first | (with_reducible first | exact HI_1.out | apply IsS87.alloc | apply IsS87.drewN | apply IsS87.drew | apply IsS87.set_0 | apply IsS87.set_1 | apply IsS87.far (hne := NB_1.out)) | exact HI_1.out)), (by repeat (first | (with_reducible first | exact HK.out | apply KeepBut.set_ | apply keep_drewN | apply keep_drew | apply keep_alloc | refine keep_far ?_ GW_1.out _) | exact HK.out)), (by repeat (first | (with_reducible first | exact HB.out | apply below_alloc | apply pw_below_drewN | apply below_drew1 | refine below_set ?_ (IsS87.ge HI_1.out) | refine below_set ?_ GE_1.out) | exact HB.out))⟩)
          ·skip
           refine box_step ?hg (N := 3) ?hd (cs := #[.int .u64 0, .int .u64 0, .slice none 0 0, .string (⟨#[]⟩ : ByteArray)]) (t := 35) ?hr ?_; (case hd => rfl); (case hg => rfl); (case hr => first | (go_simp; done) | (go_simp; rfl))
           intro gb_2 hg w_3 hbox hb
           have n_1 := a_ (IsS87.below (by repeat (first | (with_reducible first | exact HI_1.out | apply IsS87.alloc | apply IsS87.drewN | apply IsS87.drew | apply IsS87.set_0 | apply IsS87.set_1 | apply IsS87.far (hne := NB_1.out)) | exact HI_1.out)) hb)
           have n_2 := bB_ BK_1 hb
           have n_3 := a_ (KeepBut.trans (by repeat (first | (with_reducible first | exact HK.out | apply KeepBut.set_ | apply keep_drewN | apply keep_drew | apply keep_alloc | refine keep_far ?_ GW_1.out _) | exact HK.out)) (KeepBut.of_below hb g none) (.inl rfl))
           have n_4 := a_ (below_step (by repeat (first | (with_reducible first | exact HB.out | apply below_alloc | apply pw_below_drewN | apply below_drew1 | refine below_set ?_ (IsS87.ge HI_1.out) | refine below_set ?_ GE_1.out) | exact HB.out)) hb)
           have n_5 := a_ (hbox)
           have n_6 := a_ ((by rw [hg]; exact (keep_size (w := w) (g := g) (row := none) (by repeat (first | (with_reducible first | exact HK.out | apply KeepBut.set_ | apply keep_drewN | apply keep_drew | apply keep_alloc | refine keep_far ?_ GW_1.out _) | exact HK.out))) : w.heap.size ≤ gb_2))
           have n_7 := a_ ((Nat.le_trans HW_1.out (by rw [hg]; exact (keep_size (w := w) (g := g) (row := none) (by repeat (first | (with_reducible first | exact HK.out | apply KeepBut.set_ | apply keep_drewN | apply keep_drew | apply keep_alloc | refine keep_far ?_ GW_1.out _) | exact HK.out))) : w.heap.size ≤ gb_2) : w0.heap.size ≤ gb_2))
           have n_8 := nB_ hg BK_1
           have n_9 := nC_ hg BK_1
           have n_10 := a_ ((by rw [hg]; exact Nat.ne_of_lt (IsS87.lt (show IsS87 w0 _ g s0_0 s0_1 from by repeat (first | (with_reducible first | exact HI_1.out | apply IsS87.alloc | apply IsS87.drewN | apply IsS87.drew | apply IsS87.set_0 | apply IsS87.set_1 | apply IsS87.far (hne := NB_1.out)) | exact HI_1.out))) : g ≠ gb_2))
           have n_11 := a_ ((by rw [hg]; exact Nat.ne_of_gt (IsS87.lt (show IsS87 w0 _ g s0_0 s0_1 from by repeat (first | (with_reducible first | exact HI_1.out | apply IsS87.alloc | apply IsS87.drewN | apply IsS87.drew | apply IsS87.set_0 | apply IsS87.set_1 | apply IsS87.far (hne := NB_1.out)) | exact HI_1.out))) : gb_2 ≠ g))
           clear HI_1
           clear BK_1
           clear HK
           clear HB
           have HI_1 := n_1
           have BK_1 := n_2
           have HK := n_3
           have HB := n_4
           have BK_2 := n_5
           have GW_2 := n_6
           have GE_2 := n_7
           have NB_3 := n_8
           have NB_4 := n_9
           have NB_5 := n_10
           have NB_6 := n_11
           clear n_1 n_2 n_3 n_4 n_5 n_6 n_7 n_8 n_9 n_10 n_11
           clear hb hbox hg
           refine hK.out _ _ trivial (fun hHeld => ?_)
           clear hK K
           refine norm_ (a' := ?_) ?_ ?_
           rotate_left
           ·show Act.put _ (some 3) _ = _
            simp only [Act.put, List.setIfInBounds_toArray, List.set_cons_zero, List.set_cons_succ, i64_w, i32_w]
            rfl
           exact norm_ (by first | (simp only [putAll, Act.put, List.setIfInBounds_toArray, List.set_cons_zero, List.set_cons_succ]; done) | (simp only [putAll, Act.put, List.setIfInBounds_toArray, List.set_cons_zero, List.set_cons_succ]; rfl)) (hJ_9 (gb_2) _ ⟨(bk_ BK_1), (bk_ BK_2), GW_2.out, GE_2.out, NB_5.out, NB_6.out, NB_3.out, NB_4.out, (by repeat (first | (with_reducible first | exact HI_1.out | apply IsS87.alloc | apply IsS87.drewN | apply IsS87.drew | apply IsS87.set_0 | apply IsS87.set_1 | apply IsS87.far (hne := NB_1.out) | apply IsS87.far (hne := NB_5.out)) | exact HI_1.out)), (by repeat (first | (with_reducible first | exact HK.out | apply KeepBut.set_ | apply keep_drewN | apply keep_drew | apply keep_alloc | refine keep_far ?_ GW_1.out _ | refine keep_far ?_ GW_2.out _) | exact HK.out)), (by repeat (first | (with_reducible first | exact HB.out | apply below_alloc | apply pw_below_drewN | apply below_drew1 | refine below_set ?_ (IsS87.ge HI_1.out) | refine below_set ?_ GE_1.out | refine below_set ?_ GE_2.out) | exact HB.out))⟩)
         ·skip
          rintro gb_2 w_4 ⟨h_1, h_2, h_3, h_4, h_5, h_6, h_7, h_8, h_9, h_10, h_11⟩
          have n_1 : Aside0 (w_4.heap[gb_1]? = some (.cells #[.int .u64 0, .int .u64 0, .slice none 0 0, .string (⟨#[]⟩ : ByteArray)] 35 (0, 0))) := ⟨h_1⟩
          have n_2 : Aside0 (w_4.heap[gb_2]? = some (.cells #[.int .u64 0, .int .u64 0, .slice none 0 0, .string (⟨#[]⟩ : ByteArray)] 35 (0, 0))) := ⟨h_2⟩
          have n_3 : Aside0 (w.heap.size ≤ gb_2) := ⟨h_3⟩
          have n_4 : Aside0 (w0.heap.size ≤ gb_2) := ⟨h_4⟩
          have n_5 : Aside0 (g ≠ gb_2) := ⟨h_5⟩
          have n_6 : Aside0 (gb_2 ≠ g) := ⟨h_6⟩
          have n_7 : Aside0 (gb_1 ≠ gb_2) := ⟨h_7⟩
          have n_8 : Aside0 (gb_2 ≠ gb_1) := ⟨h_8⟩
          have n_9 : Aside0 (IsS87 w0 w_4 g s0_0 s0_1) := ⟨h_9⟩
          have n_10 : Aside0 (KeepBut w w_4 g none) := ⟨h_10⟩
          have n_11 : Aside0 (Below w0.heap.size w0 w_4) := ⟨h_11⟩
          clear BK_1
          clear HI_1
          clear HK
          clear HB
          clear h_1 h_2 h_3 h_4 h_5 h_6 h_7 h_8 h_9 h_10 h_11
          have BK_1 := n_1
          have BK_2 := n_2
          have GW_2 := n_3
          have GE_2 := n_4
          have NB_5 := n_5
          have NB_6 := n_6
          have NB_3 := n_7
          have NB_4 := n_8
          have HI_1 := n_9
          have HK := n_10
          have HB := n_11
          clear n_1 n_2 n_3 n_4 n_5 n_6 n_7 n_8 n_9 n_10 n_11
          have hHeld := trivial
          refine norm_ (a' := ?_) ?_ ?_
          rotate_left
          ·simp only [putAll, Act.put, List.setIfInBounds_toArray, List.set_cons_zero, List.set_cons_succ]
           rfl
          refine one_ (i := 3) (N := some 7) #[true, true, true, true, true, true, true, false, true, true, true, false, true, true, true, false, false, true, false] rfl rfl (one_of HT_.out (by kernel_rfl)) (by decide) (fun K hK => ?_)
          refine goes_ Try.func53 (by kernel_rfl) rfl #[.pointer (some ⟨g, 0, none⟩)] (by rfl) rfl rfl (ar_) ?_
          with_reducible refine (wal_Taker_Number.calls k g s0_0 s0_1 t_1 t_2 t_3 w0 _ ?side1 ?side2 A_2.out).mono ?_
          (case side1 => repeat (first | (with_reducible first | exact HI_1.out | apply IsS87.alloc | apply IsS87.drewN | apply IsS87.drew | apply IsS87.set_0 | apply IsS87.set_1 | apply IsS87.far (hne := NB_1.out) | apply IsS87.far (hne := NB_5.out)) | exact HI_1.out))
          (case side2 => repeat (first | (with_reducible first | exact HB.out | apply below_alloc | apply pw_below_drewN | apply below_drew1 | refine below_set ?_ (IsS87.ge HI_1.out) | refine below_set ?_ GE_1.out | refine below_set ?_ GE_2.out) | exact HB.out))
          rintro e w_5 ⟨rfl, hi, hb, hk⟩
          refine ⟨_, rfl, ?_⟩
          have n_1 := a_ (KeepBut.blk hk (g' := gb_1) (o := .cells #[.int .u64 0, .int .u64 0, .slice none 0 0, .string (⟨#[]⟩ : ByteArray)] 35 (0, 0)) (bk_ BK_1) NB_2.out (by simp))
          have n_2 := a_ (KeepBut.blk hk (g' := gb_2) (o := .cells #[.int .u64 0, .int .u64 0, .slice none 0 0, .string (⟨#[]⟩ : ByteArray)] 35 (0, 0)) (bk_ BK_2) NB_6.out (by simp))
          have n_3 := a_ (KeepBut.trans (by repeat (first | (with_reducible first | exact HK.out | apply KeepBut.set_ | apply keep_drewN | apply keep_drew | apply keep_alloc | refine keep_far ?_ GW_1.out _ | refine keep_far ?_ GW_2.out _) | exact HK.out)) hk (.inl rfl))
          have n_4 := a_ (hb)
          have n_5 := a_ (hi)
          clear BK_1
          clear BK_2
          clear HK
          clear HB
          clear HI_1
          have BK_1 := n_1
          have BK_2 := n_2
          have HK := n_3
          have HB := n_4
          have HI_1 := n_5
          clear n_1 n_2 n_3 n_4 n_5
          (try clear hb)
          (try clear hb2)
          (try clear hk)
          (try clear hi)
          refine hK.out _ _ trivial (fun hHeld => ?_)
          clear hK K
          refine norm_ (a' := ?_) ?_ ?_
          rotate_left
          ·show Act.put _ (some 7) _ = _
           simp only [Act.put, List.setIfInBounds_toArray, List.set_cons_zero, List.set_cons_succ, i64_w, i32_w]
           rfl
          exact norm_ (by first | (simp only [putAll, Act.put, List.setIfInBounds_toArray, List.set_cons_zero, List.set_cons_succ]; done) | (simp only [putAll, Act.put, List.setIfInBounds_toArray, List.set_cons_zero, List.set_cons_succ]; rfl)) (hJ_7 (gb_2) _ ⟨(bk_ BK_1), (bk_ BK_2), GW_2.out, GE_2.out, NB_5.out, NB_6.out, NB_3.out, NB_4.out, (by repeat (first | (with_reducible first | exact HI_1.out | apply IsS87.alloc | apply IsS87.drewN | apply IsS87.drew | apply IsS87.set_0 | apply IsS87.set_1 | apply IsS87.far (hne := NB_1.out) | apply IsS87.far (hne := NB_5.out)) | exact HI_1.out)), (by repeat (first | (with_reducible first | exact HK.out | apply KeepBut.set_ | apply keep_drewN | apply keep_drew | apply keep_alloc | refine keep_far ?_ GW_1.out _ | refine keep_far ?_ GW_2.out _) | exact HK.out)), (by repeat (first | (with_reducible first | exact HB.out | apply below_alloc | apply pw_below_drewN | apply below_drew1 | refine below_set ?_ (IsS87.ge HI_1.out) | refine below_set ?_ GE_1.out | refine below_set ?_ GE_2.out) | exact HB.out))⟩)
        ·skip
         rintro _ w_4 ⟨h_1, h_2, h_3, h_4⟩
         have n_1 : Aside0 (w_4.heap[gb_1]? = some (.cells #[.int .u64 0, .int .u64 0, .slice none 0 0, .string (⟨#[]⟩ : ByteArray)] 35 (0, 0))) := ⟨h_1⟩
         have n_2 : Aside0 (IsS87 w0 w_4 g t_2 t_3) := ⟨h_2⟩
         have n_3 : Aside0 (KeepBut w w_4 g none) := ⟨h_3⟩
         have n_4 : Aside0 (Below w0.heap.size w0 w_4) := ⟨h_4⟩
         clear BK_1
         clear HI_1
         clear HK
         clear HB
         clear h_1 h_2 h_3 h_4
         have BK_1 := n_1
         have HI_1 := n_2
         have HK := n_3
         have HB := n_4
         clear n_1 n_2 n_3 n_4
         have hHeld := trivial
         refine norm_ (a' := ?_) ?_ ?_
         rotate_left
         ·simp only [putAll, Act.put, List.setIfInBounds_toArray, List.set_cons_zero, List.set_cons_succ]
          rfl
         refine two_ (i := 7) (j := 17) (Ni := some 11) (Nj := some 3) #[true, true, true, true, true, true, true, true, true, true, true, false, true, true, true, false, false, false, false] #[true, true, true, true, true, true, true, false, true, true, true, false, true, true, true, false, false, true, false] rfl rfl rfl rfl (two_of HT_.out (by kernel_rfl)) (by decide) (by decide) (fun K hK => ?_) (fun K hK => ?_)
         ·skip
          refine goes_ Try.func53 (by kernel_rfl) rfl #[.pointer (some ⟨g, 0, none⟩)] (by rfl) rfl rfl (ar_) ?_
          with_reducible refine (wal_Taker_Number.calls k g t_2 t_3 t_4 t_5 t_6 w0 _ ?side1 ?side2 A_4.out).mono ?_
          (case side1 => repeat (first | (with_reducible first | exact HI_1.out | apply IsS87.alloc | apply IsS87.drewN | apply IsS87.drew | apply IsS87.set_0 | apply IsS87.set_1 | apply IsS87.far (hne := NB_1.out)) | exact HI_1.out))
          (case side2 => repeat (first | (with_reducible first | exact HB.out | apply below_alloc | apply pw_below_drewN | apply below_drew1 | refine below_set ?_ (IsS87.ge HI_1.out) | refine below_set ?_ GE_1.out) | exact HB.out))
          rintro e w_5 ⟨rfl, hi, hb, hk⟩
          refine ⟨_, rfl, ?_⟩
          have n_1 := a_ (KeepBut.blk hk (g' := gb_1) (o := .cells #[.int .u64 0, .int .u64 0, .slice none 0 0, .string (⟨#[]⟩ : ByteArray)] 35 (0, 0)) (bk_ BK_1) NB_2.out (by simp))
          have n_2 := a_ (KeepBut.trans (by repeat (first | (with_reducible first | exact HK.out | apply KeepBut.set_ | apply keep_drewN | apply keep_drew | apply keep_alloc | refine keep_far ?_ GW_1.out _) | exact HK.out)) hk (.inl rfl))
          have n_3 := a_ (hb)
          have n_4 := a_ (hi)
          clear BK_1
          clear HK
          clear HB
          clear HI_1
          have BK_1 := n_1
          have HK := n_2
          have HB := n_3
          have HI_1 := n_4
          clear n_1 n_2 n_3 n_4
          (try clear hb)
          (try clear hb2)
          (try clear hk)
          (try clear hi)
          refine hK.out _ _ trivial (fun hHeld => ?_)
          clear hK K
          refine norm_ (a' := ?_) ?_ ?_
          rotate_left
          ·show Act.put _ (some 11) _ = _
           simp only [Act.put, List.setIfInBounds_toArray, List.set_cons_zero, List.set_cons_succ, i64_w, i32_w]
           rfl
          exact norm_ (by first | (simp only [putAll, Act.put, List.setIfInBounds_toArray, List.set_cons_zero, List.set_cons_succ]; done) | (simp only [putAll, Act.put, List.setIfInBounds_toArray, List.set_cons_zero, List.set_cons_succ]; rfl)) (hJ_6 () _ ⟨(bk_ BK_1), (by repeat (first | (with_reducible first | exact HI_1.out | apply IsS87.alloc | apply IsS87.drewN | apply IsS87.drew | apply IsS87.set_0 | apply IsS87.set_1 | apply IsS87.far (hne := NB_1.out)) | exact HI_1.out)), (by repeat (first | (with_reducible first | exact HK.out | apply KeepBut.set_ | apply keep_drewN | apply keep_drew | apply keep_alloc | refine keep_far ?_ GW_1.out _) | exact HK.out)), (by repeat (first | (with_reducible first | exact HB.out | apply below_alloc | apply pw_below_drewN | apply below_drew1 | refine below_set ?_ (IsS87.ge HI_1.out) | refine below_set ?_ GE_1.out) | exact HB.out))⟩)
         ·skip
          refine box_step ?hg (N := 3) ?hd (cs := #[.int .u64 0, .int .u64 0, .slice none 0 0, .string (⟨#[]⟩ : ByteArray)]) (t := 35) ?hr ?_; (case hd => rfl); (case hg => rfl); (case hr => first | (go_simp; done) | (go_simp; rfl))
          intro gb_2 hg w_5 hbox hb
          have n_1 := a_ (IsS87.below (by repeat (first | (with_reducible first | exact HI_1.out | apply IsS87.alloc | apply IsS87.drewN | apply IsS87.drew | apply IsS87.set_0 | apply IsS87.set_1 | apply IsS87.far (hne := NB_1.out)) | exact HI_1.out)) hb)
          have n_2 := bB_ BK_1 hb
          have n_3 := a_ (KeepBut.trans (by repeat (first | (with_reducible first | exact HK.out | apply KeepBut.set_ | apply keep_drewN | apply keep_drew | apply keep_alloc | refine keep_far ?_ GW_1.out _) | exact HK.out)) (KeepBut.of_below hb g none) (.inl rfl))
          have n_4 := a_ (below_step (by repeat (first | (with_reducible first | exact HB.out | apply below_alloc | apply pw_below_drewN | apply below_drew1 | refine below_set ?_ (IsS87.ge HI_1.out) | refine below_set ?_ GE_1.out) | exact HB.out)) hb)
          have n_5 := a_ (hbox)
          have n_6 := a_ ((by rw [hg]; exact (keep_size (w := w) (g := g) (row := none) (by repeat (first | (with_reducible first | exact HK.out | apply KeepBut.set_ | apply keep_drewN | apply keep_drew | apply keep_alloc | refine keep_far ?_ GW_1.out _) | exact HK.out))) : w.heap.size ≤ gb_2))
          have n_7 := a_ ((Nat.le_trans HW_1.out (by rw [hg]; exact (keep_size (w := w) (g := g) (row := none) (by repeat (first | (with_reducible first | exact HK.out | apply KeepBut.set_ | apply keep_drewN | apply keep_drew | apply keep_alloc | refine keep_far ?_ GW_1.out _) | exact HK.out))) : w.heap.size ≤ gb_2) : w0.heap.size ≤ gb_2))
          have n_8 := nB_ hg BK_1
          have n_9 := nC_ hg BK_1
          have n_10 := a_ ((by rw [hg]; exact Nat.ne_of_lt (IsS87.lt (show IsS87 w0 _ g t_2 t_3 from by repeat (first | (with_reducible first | exact HI_1.out | apply IsS87.alloc | apply IsS87.drewN | apply IsS87.drew | apply IsS87.set_0 | apply IsS87.set_1 | apply IsS87.far (hne := NB_1.out)) | exact HI_1.out))) : g ≠ gb_2))
          have n_11 := a_ ((by rw [hg]; exact Nat.ne_of_gt (IsS87.lt (show IsS87 w0 _ g t_2 t_3 from by repeat (first | (with_reducible first | exact HI_1.out | apply IsS87.alloc | apply IsS87.drewN | apply IsS87.drew | apply IsS87.set_0 | apply IsS87.set_1 | apply IsS87.far (hne := NB_1.out)) | exact HI_1.out))) : gb_2 ≠ g))
          clear HI_1
          clear BK_1
          clear HK
          clear HB
          have HI_1 := n_1
          have BK_1 := n_2
          have HK := n_3
          have HB := n_4
          have BK_2 := n_5
          have GW_2 := n_6
          have GE_2 := n_7
          have NB_3 := n_8
          have NB_4 := n_9
          have NB_5 := n_10
          have NB_6 := n_11
          clear n_1 n_2 n_3 n_4 n_5 n_6 n_7 n_8 n_9 n_10 n_11
          clear hb hbox hg
          refine hK.out _ _ trivial (fun hHeld => ?_)
          clear hK K
          refine norm_ (a' := ?_) ?_ ?_
          rotate_left
          ·show Act.put _ (some 3) _ = _
           simp only [Act.put, List.setIfInBounds_toArray, List.set_cons_zero, List.set_cons_succ, i64_w, i32_w]
           rfl
          exact norm_ (by first | (simp only [putAll, Act.put, List.setIfInBounds_toArray, List.set_cons_zero, List.set_cons_succ]; done) | (simp only [putAll, Act.put, List.setIfInBounds_toArray, List.set_cons_zero, List.set_cons_succ]; rfl)) (hJ_7 (gb_2) _ ⟨(bk_ BK_1), (bk_ BK_2), GW_2.out, GE_2.out, NB_5.out, NB_6.out, NB_3.out, NB_4.out, (by repeat (first | (with_reducible first | exact HI_1.out | apply IsS87.alloc | apply IsS87.drewN | apply IsS87.drew | apply IsS87.set_0 | apply IsS87.set_1 | apply IsS87.far (hne := NB_1.out) | apply IsS87.far (hne := NB_5.out)) | exact HI_1.out)), (by repeat (first | (with_reducible first | exact HK.out | apply KeepBut.set_ | apply keep_drewN | apply keep_drew | apply keep_alloc | refine keep_far ?_ GW_1.out _ | refine keep_far ?_ GW_2.out _) | exact HK.out)), (by repeat (first | (with_reducible first | exact HB.out | apply below_alloc | apply pw_below_drewN | apply below_drew1 | refine below_set ?_ (IsS87.ge HI_1.out) | refine below_set ?_ GE_1.out | refine below_set ?_ GE_2.out) | exact HB.out))⟩)
       ·skip
        rintro gb_2 w_5 ⟨h_1, h_2, h_3, h_4, h_5, h_6, h_7, h_8, h_9, h_10, h_11⟩
        have n_1 : Aside0 (w_5.heap[gb_1]? = some (.cells #[.int .u64 0, .int .u64 0, .slice none 0 0, .string (⟨#[]⟩ : ByteArray)] 35 (0, 0))) := ⟨h_1⟩
        have n_2 : Aside0 (w_5.heap[gb_2]? = some (.cells #[.int .u64 0, .int .u64 0, .slice none 0 0, .string (⟨#[]⟩ : ByteArray)] 35 (0, 0))) := ⟨h_2⟩
        have n_3 : Aside0 (w.heap.size ≤ gb_2) := ⟨h_3⟩
        have n_4 : Aside0 (w0.heap.size ≤ gb_2) := ⟨h_4⟩
        have n_5 : Aside0 (g ≠ gb_2) := ⟨h_5⟩
        have n_6 : Aside0 (gb_2 ≠ g) := ⟨h_6⟩
        have n_7 : Aside0 (gb_1 ≠ gb_2) := ⟨h_7⟩
        have n_8 : Aside0 (gb_2 ≠ gb_1) := ⟨h_8⟩
        have n_9 : Aside0 (IsS87 w0 w_5 g t_2 t_3) := ⟨h_9⟩
        have n_10 : Aside0 (KeepBut w w_5 g none) := ⟨h_10⟩
        have n_11 : Aside0 (Below w0.heap.size w0 w_5) := ⟨h_11⟩
        clear BK_1
        clear HI_1
        clear HK
        clear HB
        clear h_1 h_2 h_3 h_4 h_5 h_6 h_7 h_8 h_9 h_10 h_11
        have BK_1 := n_1
        have BK_2 := n_2
        have GW_2 := n_3
        have GE_2 := n_4
        have NB_5 := n_5
        have NB_6 := n_6
        have NB_3 := n_7
        have NB_4 := n_8
        have HI_1 := n_9
        have HK := n_10
        have HB := n_11
        clear n_1 n_2 n_3 n_4 n_5 n_6 n_7 n_8 n_9 n_10 n_11
        have hHeld := trivial
        refine norm_ (a' := ?_) ?_ ?_
        rotate_left
        ·simp only [putAll, Act.put, List.setIfInBounds_toArray, List.set_cons_zero, List.set_cons_succ]
         rfl
        refine one_ (i := 7) (N := some 11) #[true, true, true, true, true, true, true, true, true, true, true, false, true, true, true, false, false, true, false] rfl rfl (one_of HT_.out (by kernel_rfl)) (by decide) (fun K hK => ?_)
        refine goes_ Try.func53 (by kernel_rfl) rfl #[.pointer (some ⟨g, 0, none⟩)] (by rfl) rfl rfl (ar_) ?_
        with_reducible refine (wal_Taker_Number.calls k g t_2 t_3 t_4 t_5 t_6 w0 _ ?side1 ?side2 A_4.out).mono ?_
        (case side1 => repeat (first | (with_reducible first | exact HI_1.out | apply IsS87.alloc | apply IsS87.drewN | apply IsS87.drew | apply IsS87.set_0 | apply IsS87.set_1 | apply IsS87.far (hne := NB_1.out) | apply IsS87.far (hne := NB_5.out)) | exact HI_1.out))
        (case side2 => repeat (first | (with_reducible first | exact HB.out | apply below_alloc | apply pw_below_drewN | apply below_drew1 | refine below_set ?_ (IsS87.ge HI_1.out) | refine below_set ?_ GE_1.out | refine below_set ?_ GE_2.out) | exact HB.out))
        rintro e w_6 ⟨rfl, hi, hb, hk⟩
        refine ⟨_, rfl, ?_⟩
        have n_1 := a_ (KeepBut.blk hk (g' := gb_1) (o := .cells #[.int .u64 0, .int .u64 0, .slice none 0 0, .string (⟨#[]⟩ : ByteArray)] 35 (0, 0)) (bk_ BK_1) NB_2.out (by simp))
        have n_2 := a_ (KeepBut.blk hk (g' := gb_2) (o := .cells #[.int .u64 0, .int .u64 0, .slice none 0 0, .string (⟨#[]⟩ : ByteArray)] 35 (0, 0)) (bk_ BK_2) NB_6.out (by simp))
        have n_3 := a_ (KeepBut.trans (by repeat (first | (with_reducible first | exact HK.out | apply KeepBut.set_ | apply keep_drewN | apply keep_drew | apply keep_alloc | refine keep_far ?_ GW_1.out _ | refine keep_far ?_ GW_2.out _) | exact HK.out)) hk (.inl rfl))
        have n_4 := a_ (hb)
        have n_5 := a_ (hi)
        clear BK_1
        clear BK_2
        clear HK
        clear HB
        clear HI_1
        have BK_1 := n_1
        have BK_2 := n_2
        have HK := n_3
        have HB := n_4
        have HI_1 := n_5
        clear n_1 n_2 n_3 n_4 n_5
        (try clear hb)
        (try clear hb2)
        (try clear hk)
        (try clear hi)
        refine hK.out _ _ trivial (fun hHeld => ?_)
        clear hK K
        refine norm_ (a' := ?_) ?_ ?_
        rotate_left
        ·show Act.put _ (some 11) _ = _
         simp only [Act.put, List.setIfInBounds_toArray, List.set_cons_zero, List.set_cons_succ, i64_w, i32_w]
         rfl
        exact norm_ (by first | (simp only [putAll, Act.put, List.setIfInBounds_toArray, List.set_cons_zero, List.set_cons_succ]; done) | (simp only [putAll, Act.put, List.setIfInBounds_toArray, List.set_cons_zero, List.set_cons_succ]; rfl)) (hJ_5 (gb_2) _ ⟨(bk_ BK_1), (bk_ BK_2), GW_2.out, GE_2.out, NB_5.out, NB_6.out, NB_3.out, NB_4.out, (by repeat (first | (with_reducible first | exact HI_1.out | apply IsS87.alloc | apply IsS87.drewN | apply IsS87.drew | apply IsS87.set_0 | apply IsS87.set_1 | apply IsS87.far (hne := NB_1.out) | apply IsS87.far (hne := NB_5.out)) | exact HI_1.out)), (by repeat (first | (with_reducible first | exact HK.out | apply KeepBut.set_ | apply keep_drewN | apply keep_drew | apply keep_alloc | refine keep_far ?_ GW_1.out _ | refine keep_far ?_ GW_2.out _) | exact HK.out)), (by repeat (first | (with_reducible first | exact HB.out | apply below_alloc | apply pw_below_drewN | apply below_drew1 | refine below_set ?_ (IsS87.ge HI_1.out) | refine below_set ?_ GE_1.out | refine below_set ?_ GE_2.out) | exact HB.out))⟩)
      ·skip
       rintro _ w_5 ⟨h_1, h_2, h_3, h_4⟩
       have n_1 : Aside0 (w_5.heap[gb_1]? = some (.cells #[.int .u64 0, .int .u64 0, .slice none 0 0, .string (⟨#[]⟩ : ByteArray)] 35 (0, 0))) := ⟨h_1⟩
       have n_2 : Aside0 (IsS87 w0 w_5 g t_5 t_6) := ⟨h_2⟩
       have n_3 : Aside0 (KeepBut w w_5 g none) := ⟨h_3⟩
       have n_4 : Aside0 (Below w0.heap.size w0 w_5) := ⟨h_4⟩
       clear BK_1
       clear HI_1
       clear HK
       clear HB
       clear h_1 h_2 h_3 h_4
       have BK_1 := n_1
       have HI_1 := n_2
       have HK := n_3
       have HB := n_4
       clear n_1 n_2 n_3 n_4
       have hHeld := trivial
       refine norm_ (a' := ?_) ?_ ?_
       rotate_left
       ·simp only [putAll, Act.put, List.setIfInBounds_toArray, List.set_cons_zero, List.set_cons_succ]
        rfl
       refine two_ (i := 11) (j := 17) (Ni := some 15) (Nj := some 3) #[true, true, true, true, true, true, true, true, true, true, true, true, true, true, true, false, false, false, false] #[true, true, true, true, true, true, true, true, true, true, true, false, true, true, true, false, false, true, false] rfl rfl rfl rfl (two_of HT_.out (by kernel_rfl)) (by decide) (by decide) (fun K hK => ?_) (fun K hK => ?_)
       ·skip
        refine goes_ Try.func88 (by kernel_rfl) rfl #[.pointer (some ⟨g, 0, none⟩)] (by rfl) rfl rfl (ar_) ?_
        with_reducible refine (wal_Taker_Ints.calls k g t_5 t_6 t_7 t_8 t_9 w0 _ ?side1 ?side2 A_6.out).mono ?_
        (case side1 => repeat (first | (with_reducible first | exact HI_1.out | apply IsS87.alloc | apply IsS87.drewN | apply IsS87.drew | apply IsS87.set_0 | apply IsS87.set_1 | apply IsS87.far (hne := NB_1.out)) | exact HI_1.out))
        (case side2 => repeat (first | (with_reducible first | exact HB.out | apply below_alloc | apply pw_below_drewN | apply below_drew1 | refine below_set ?_ (IsS87.ge HI_1.out) | refine below_set ?_ GE_1.out) | exact HB.out))
        rintro e w_6 ⟨v_1, rfl, ho_1, hi, hb, hk⟩
        refine ⟨_, rfl, ?_⟩
        have n_1 := a_ (KeepBut.blk hk (g' := gb_1) (o := .cells #[.int .u64 0, .int .u64 0, .slice none 0 0, .string (⟨#[]⟩ : ByteArray)] 35 (0, 0)) (bk_ BK_1) NB_2.out (by simp))
        have n_2 := a_ (Kd.R_lower ho_1 (keep_size (w := w) (g := g) (row := none) (by repeat (first | (with_reducible first | exact HK.out | apply KeepBut.set_ | apply keep_drewN | apply keep_drew | apply keep_alloc | refine keep_far ?_ GW_1.out _) | exact HK.out))))
        have n_3 := a_ (KeepBut.trans (by repeat (first | (with_reducible first | exact HK.out | apply KeepBut.set_ | apply keep_drewN | apply keep_drew | apply keep_alloc | refine keep_far ?_ GW_1.out _) | exact HK.out)) hk (.inl rfl))
        have n_4 := a_ (hb)
        have n_5 := a_ (hi)
        clear BK_1
        clear HK
        clear HB
        clear HI_1
        have BK_1 := n_1
        have HO_1 := n_2
        have HK := n_3
        have HB := n_4
        have HI_1 := n_5
        clear n_1 n_2 n_3 n_4 n_5
        (try clear hb)
        (try clear hb2)
        (try clear hk)
        (try clear hi)
        (try clear ho_1)
        refine hK.out _ _ trivial (fun hHeld => ?_)
        clear hK K
        refine norm_ (a' := ?_) ?_ ?_
        rotate_left
        ·show Act.put _ (some 15) _ = _
         simp only [Act.put, List.setIfInBounds_toArray, List.set_cons_zero, List.set_cons_succ, i64_w, i32_w]
         rfl
        exact norm_ (by first | (simp only [putAll, Act.put, List.setIfInBounds_toArray, List.set_cons_zero, List.set_cons_succ]; done) | (simp only [putAll, Act.put, List.setIfInBounds_toArray, List.set_cons_zero, List.set_cons_succ]; rfl)) (hJ_4 (v_1) _ ⟨(by refine rq_ ?_; exact HO_1.out), (bk_ BK_1), (by repeat (first | (with_reducible first | exact HI_1.out | apply IsS87.alloc | apply IsS87.drewN | apply IsS87.drew | apply IsS87.set_0 | apply IsS87.set_1 | apply IsS87.far (hne := NB_1.out)) | exact HI_1.out)), (by repeat (first | (with_reducible first | exact HK.out | apply KeepBut.set_ | apply keep_drewN | apply keep_drew | apply keep_alloc | refine keep_far ?_ GW_1.out _) | exact HK.out)), (by repeat (first | (with_reducible first | exact HB.out | apply below_alloc | apply pw_below_drewN | apply below_drew1 | refine below_set ?_ (IsS87.ge HI_1.out) | refine below_set ?_ GE_1.out) | exact HB.out))⟩)
       ·skip
        refine box_step ?hg (N := 3) ?hd (cs := #[.int .u64 0, .int .u64 0, .slice none 0 0, .string (⟨#[]⟩ : ByteArray)]) (t := 35) ?hr ?_; (case hd => rfl); (case hg => rfl); (case hr => first | (go_simp; done) | (go_simp; rfl))
        intro gb_2 hg w_6 hbox hb
        have n_1 := a_ (IsS87.below (by repeat (first | (with_reducible first | exact HI_1.out | apply IsS87.alloc | apply IsS87.drewN | apply IsS87.drew | apply IsS87.set_0 | apply IsS87.set_1 | apply IsS87.far (hne := NB_1.out)) | exact HI_1.out)) hb)
        have n_2 := bB_ BK_1 hb
        have n_3 := a_ (KeepBut.trans (by repeat (first | (with_reducible first | exact HK.out | apply KeepBut.set_ | apply keep_drewN | apply keep_drew | apply keep_alloc | refine keep_far ?_ GW_1.out _) | exact HK.out)) (KeepBut.of_below hb g none) (.inl rfl))
        have n_4 := a_ (below_step (by repeat (first | (with_reducible first | exact HB.out | apply below_alloc | apply pw_below_drewN | apply below_drew1 | refine below_set ?_ (IsS87.ge HI_1.out) | refine below_set ?_ GE_1.out) | exact HB.out)) hb)
        have n_5 := a_ (hbox)
        have n_6 := a_ ((by rw [hg]; exact (keep_size (w := w) (g := g) (row := none) (by repeat (first | (with_reducible first | exact HK.out | apply KeepBut.set_ | apply keep_drewN | apply keep_drew | apply keep_alloc | refine keep_far ?_ GW_1.out _) | exact HK.out))) : w.heap.size ≤ gb_2))
        have n_7 := a_ ((Nat.le_trans HW_1.out (by rw [hg]; exact (keep_size (w := w) (g := g) (row := none) (by repeat (first | (with_reducible first | exact HK.out | apply KeepBut.set_ | apply keep_drewN | apply keep_drew | apply keep_alloc | refine keep_far ?_ GW_1.out _) | exact HK.out))) : w.heap.size ≤ gb_2) : w0.heap.size ≤ gb_2))
        have n_8 := nB_ hg BK_1
        have n_9 := nC_ hg BK_1
        have n_10 := a_ ((by rw [hg]; exact Nat.ne_of_lt (IsS87.lt (show IsS87 w0 _ g t_5 t_6 from by repeat (first | (with_reducible first | exact HI_1.out | apply IsS87.alloc | apply IsS87.drewN | apply IsS87.drew | apply IsS87.set_0 | apply IsS87.set_1 | apply IsS87.far (hne := NB_1.out)) | exact HI_1.out))) : g ≠ gb_2))
        have n_11 := a_ ((by rw [hg]; exact Nat.ne_of_gt (IsS87.lt (show IsS87 w0 _ g t_5 t_6 from by repeat (first | (with_reducible first | exact HI_1.out | apply IsS87.alloc | apply IsS87.drewN | apply IsS87.drew | apply IsS87.set_0 | apply IsS87.set_1 | apply IsS87.far (hne := NB_1.out)) | exact HI_1.out))) : gb_2 ≠ g))
        clear HI_1
        clear BK_1
        clear HK
        clear HB
        have HI_1 := n_1
        have BK_1 := n_2
        have HK := n_3
        have HB := n_4
        have BK_2 := n_5
        have GW_2 := n_6
        have GE_2 := n_7
        have NB_3 := n_8
        have NB_4 := n_9
        have NB_5 := n_10
        have NB_6 := n_11
        clear n_1 n_2 n_3 n_4 n_5 n_6 n_7 n_8 n_9 n_10 n_11
        clear hb hbox hg
        refine hK.out _ _ trivial (fun hHeld => ?_)
        clear hK K
        refine norm_ (a' := ?_) ?_ ?_
        rotate_left
        ·show Act.put _ (some 3) _ = _
         simp only [Act.put, List.setIfInBounds_toArray, List.set_cons_zero, List.set_cons_succ, i64_w, i32_w]
         rfl
        exact norm_ (by first | (simp only [putAll, Act.put, List.setIfInBounds_toArray, List.set_cons_zero, List.set_cons_succ]; done) | (simp only [putAll, Act.put, List.setIfInBounds_toArray, List.set_cons_zero, List.set_cons_succ]; rfl)) (hJ_5 (gb_2) _ ⟨(bk_ BK_1), (bk_ BK_2), GW_2.out, GE_2.out, NB_5.out, NB_6.out, NB_3.out, NB_4.out, (by repeat (first | (with_reducible first | exact HI_1.out | apply IsS87.alloc | apply IsS87.drewN | apply IsS87.drew | apply IsS87.set_0 | apply IsS87.set_1 | apply IsS87.far (hne := NB_1.out) | apply IsS87.far (hne := NB_5.out)) | exact HI_1.out)), (by repeat (first | (with_reducible first | exact HK.out | apply KeepBut.set_ | apply keep_drewN | apply keep_drew | apply keep_alloc | refine keep_far ?_ GW_1.out _ | refine keep_far ?_ GW_2.out _) | exact HK.out)), (by repeat (first | (with_reducible first | exact HB.out | apply below_alloc | apply pw_below_drewN | apply below_drew1 | refine below_set ?_ (IsS87.ge HI_1.out) | refine below_set ?_ GE_1.out | refine below_set ?_ GE_2.out) | exact HB.out))⟩)
     ·skip
      rintro gb_2 w_6 ⟨h_1, h_2, h_3, h_4, h_5, h_6, h_7, h_8, h_9, h_10, h_11⟩
      have n_1 : Aside0 (w_6.heap[gb_1]? = some (.cells #[.int .u64 0, .int .u64 0, .slice none 0 0, .string (⟨#[]⟩ : ByteArray)] 35 (0, 0))) := ⟨h_1⟩
      have n_2 : Aside0 (w_6.heap[gb_2]? = some (.cells #[.int .u64 0, .int .u64 0, .slice none 0 0, .string (⟨#[]⟩ : ByteArray)] 35 (0, 0))) := ⟨h_2⟩
      have n_3 : Aside0 (w.heap.size ≤ gb_2) := ⟨h_3⟩
      have n_4 : Aside0 (w0.heap.size ≤ gb_2) := ⟨h_4⟩
      have n_5 : Aside0 (g ≠ gb_2) := ⟨h_5⟩
      have n_6 : Aside0 (gb_2 ≠ g) := ⟨h_6⟩
      have n_7 : Aside0 (gb_1 ≠ gb_2) := ⟨h_7⟩
      have n_8 : Aside0 (gb_2 ≠ gb_1) := ⟨h_8⟩
      have n_9 : Aside0 (IsS87 w0 w_6 g t_5 t_6) := ⟨h_9⟩
      have n_10 : Aside0 (KeepBut w w_6 g none) := ⟨h_10⟩
      have n_11 : Aside0 (Below w0.heap.size w0 w_6) := ⟨h_11⟩
      clear BK_1
      clear HI_1
      clear HK
      clear HB
      clear h_1 h_2 h_3 h_4 h_5 h_6 h_7 h_8 h_9 h_10 h_11
      have BK_1 := n_1
      have BK_2 := n_2
      have GW_2 := n_3
      have GE_2 := n_4
      have NB_5 := n_5
      have NB_6 := n_6
      have NB_3 := n_7
      have NB_4 := n_8
      have HI_1 := n_9
      have HK := n_10
      have HB := n_11
      clear n_1 n_2 n_3 n_4 n_5 n_6 n_7 n_8 n_9 n_10 n_11
      have hHeld := trivial
      refine norm_ (a' := ?_) ?_ ?_
      rotate_left
      ·simp only [putAll, Act.put, List.setIfInBounds_toArray, List.set_cons_zero, List.set_cons_succ]
       rfl
      refine one_ (i := 11) (N := some 15) #[true, true, true, true, true, true, true, true, true, true, true, true, true, true, true, false, false, true, false] rfl rfl (one_of HT_.out (by kernel_rfl)) (by decide) (fun K hK => ?_)
      refine goes_ Try.func88 (by kernel_rfl) rfl #[.pointer (some ⟨g, 0, none⟩)] (by rfl) rfl rfl (ar_) ?_
      with_reducible refine (wal_Taker_Ints.calls k g t_5 t_6 t_7 t_8 t_9 w0 _ ?side1 ?side2 A_6.out).mono ?_
      (case side1 => repeat (first | (with_reducible first | exact HI_1.out | apply IsS87.alloc | apply IsS87.drewN | apply IsS87.drew | apply IsS87.set_0 | apply IsS87.set_1 | apply IsS87.far (hne := NB_1.out) | apply IsS87.far (hne := NB_5.out)) | exact HI_1.out))
      (case side2 => repeat (first | (with_reducible first | exact HB.out | apply below_alloc | apply pw_below_drewN | apply below_drew1 | refine below_set ?_ (IsS87.ge HI_1.out) | refine below_set ?_ GE_1.out | refine below_set ?_ GE_2.out) | exact HB.out))
      rintro e w_7 ⟨v_1, rfl, ho_1, hi, hb, hk⟩
      refine ⟨_, rfl, ?_⟩
      have n_1 := a_ (KeepBut.blk hk (g' := gb_1) (o := .cells #[.int .u64 0, .int .u64 0, .slice none 0 0, .string (⟨#[]⟩ : ByteArray)] 35 (0, 0)) (bk_ BK_1) NB_2.out (by simp))
      have n_2 := a_ (KeepBut.blk hk (g' := gb_2) (o := .cells #[.int .u64 0, .int .u64 0, .slice none 0 0, .string (⟨#[]⟩ : ByteArray)] 35 (0, 0)) (bk_ BK_2) NB_6.out (by simp))
      have n_3 := a_ (Kd.R_lower ho_1 (keep_size (w := w) (g := g) (row := none) (by repeat (first | (with_reducible first | exact HK.out | apply KeepBut.set_ | apply keep_drewN | apply keep_drew | apply keep_alloc | refine keep_far ?_ GW_1.out _ | refine keep_far ?_ GW_2.out _) | exact HK.out))))
      have n_4 := a_ (KeepBut.trans (by repeat (first | (with_reducible first | exact HK.out | apply KeepBut.set_ | apply keep_drewN | apply keep_drew | apply keep_alloc | refine keep_far ?_ GW_1.out _ | refine keep_far ?_ GW_2.out _) | exact HK.out)) hk (.inl rfl))
      have n_5 := a_ (hb)
      have n_6 := a_ (hi)
      clear BK_1
      clear BK_2
      clear HK
      clear HB
      clear HI_1
      have BK_1 := n_1
      have BK_2 := n_2
      have HO_1 := n_3
      have HK := n_4
      have HB := n_5
      have HI_1 := n_6
      clear n_1 n_2 n_3 n_4 n_5 n_6
      (try clear hb)
      (try clear hb2)
      (try clear hk)
      (try clear hi)
      (try clear ho_1)
      refine hK.out _ _ trivial (fun hHeld => ?_)
      clear hK K
      refine norm_ (a' := ?_) ?_ ?_
      rotate_left
      ·show Act.put _ (some 15) _ = _
       simp only [Act.put, List.setIfInBounds_toArray, List.set_cons_zero, List.set_cons_succ, i64_w, i32_w]
       rfl
      exact norm_ (by first | (simp only [putAll, Act.put, List.setIfInBounds_toArray, List.set_cons_zero, List.set_cons_succ]; done) | (simp only [putAll, Act.put, List.setIfInBounds_toArray, List.set_cons_zero, List.set_cons_succ]; rfl)) (hJ_3 (v_1, gb_2) _ ⟨(by refine rq_ ?_; exact HO_1.out), (bk_ BK_1), (bk_ BK_2), GW_2.out, GE_2.out, NB_5.out, NB_6.out, NB_3.out, NB_4.out, (by repeat (first | (with_reducible first | exact HI_1.out | apply IsS87.alloc | apply IsS87.drewN | apply IsS87.drew | apply IsS87.set_0 | apply IsS87.set_1 | apply IsS87.far (hne := NB_1.out) | apply IsS87.far (hne := NB_5.out)) | exact HI_1.out)), (by repeat (first | (with_reducible first | exact HK.out | apply KeepBut.set_ | apply keep_drewN | apply keep_drew | apply keep_alloc | refine keep_far ?_ GW_1.out _ | refine keep_far ?_ GW_2.out _) | exact HK.out)), (by repeat (first | (with_reducible first | exact HB.out | apply below_alloc | apply pw_below_drewN | apply below_drew1 | refine below_set ?_ (IsS87.ge HI_1.out) | refine below_set ?_ GE_1.out | refine below_set ?_ GE_2.out) | exact HB.out))⟩)
    ·skip
     rintro v_1 w_6 ⟨h_1, h_2, h_3, h_4, h_5⟩
     have n_1 : Aside0 (Kd.R (Kd.int .i64) 3 w_6 w.heap.size (fun _ => True) v_1 t_7) := ⟨h_1⟩
     have n_2 : Aside0 (w_6.heap[gb_1]? = some (.cells #[.int .u64 0, .int .u64 0, .slice none 0 0, .string (⟨#[]⟩ : ByteArray)] 35 (0, 0))) := ⟨h_2⟩
     have n_3 : Aside0 (IsS87 w0 w_6 g t_8 t_9) := ⟨h_3⟩
     have n_4 : Aside0 (KeepBut w w_6 g none) := ⟨h_4⟩
     have n_5 : Aside0 (Below w0.heap.size w0 w_6) := ⟨h_5⟩
     clear BK_1
     clear HI_1
     clear HK
     clear HB
     clear h_1 h_2 h_3 h_4 h_5
     have HO_1 := n_1
     have BK_1 := n_2
     have HI_1 := n_3
     have HK := n_4
     have HB := n_5
     clear n_1 n_2 n_3 n_4 n_5
     have hHeld := trivial
     refine norm_ (a' := ?_) ?_ ?_
     rotate_left
     ·simp only [putAll, Act.put, List.setIfInBounds_toArray, List.set_cons_zero, List.set_cons_succ]
      rfl
     refine two_ (i := 15) (j := 17) (Ni := some 19) (Nj := some 3) #[true, true, true, true, true, true, true, true, true, true, true, true, true, true, true, true, false, false, false] #[true, true, true, true, true, true, true, true, true, true, true, true, true, true, true, false, false, true, false] rfl rfl rfl rfl (two_of HT_.out (by kernel_rfl)) (by decide) (by decide) (fun K hK => ?_) (fun K hK => ?_)
     ·skip
      refine goes_ Try.func59 (by kernel_rfl) rfl #[.pointer (some ⟨g, 0, none⟩)] (by rfl) rfl rfl (ar_) ?_
      with_reducible refine (wal_Taker_Text.calls k g t_8 t_9 t_10 t_11 t_12 w0 _ ?side1 ?side2 A_8.out).mono ?_
      (case side1 => repeat (first | (with_reducible first | exact HI_1.out | apply IsS87.alloc | apply IsS87.drewN | apply IsS87.drew | apply IsS87.set_0 | apply IsS87.set_1 | apply IsS87.far (hne := NB_1.out)) | exact HI_1.out))
      (case side2 => repeat (first | (with_reducible first | exact HB.out | apply below_alloc | apply pw_below_drewN | apply below_drew1 | refine below_set ?_ (IsS87.ge HI_1.out) | refine below_set ?_ GE_1.out) | exact HB.out))
      rintro e w_7 ⟨rfl, hi, hb, hk⟩
      refine ⟨_, rfl, ?_⟩
      have n_1 := a_ (KeepBut.blk hk (g' := gb_1) (o := .cells #[.int .u64 0, .int .u64 0, .slice none 0 0, .string (⟨#[]⟩ : ByteArray)] 35 (0, 0)) (bk_ BK_1) NB_2.out (by simp))
      have n_2 := a_ (Kd.R_mono (Kd.R_keep (IsS87.apart (show IsS87 w0 _ g t_8 t_9 from by repeat (first | (with_reducible first | exact HI_1.out | apply IsS87.alloc | apply IsS87.drewN | apply IsS87.drew | apply IsS87.set_0 | apply IsS87.set_1 | apply IsS87.far (hne := NB_1.out)) | exact HI_1.out)) (by refine rq_ ?_; exact HO_1.out) (by decide)) hk (fun _ h => h.2)) (fun _ h => h.1))
      have n_3 := a_ (KeepBut.trans (by repeat (first | (with_reducible first | exact HK.out | apply KeepBut.set_ | apply keep_drewN | apply keep_drew | apply keep_alloc | refine keep_far ?_ GW_1.out _) | exact HK.out)) hk (.inl rfl))
      have n_4 := a_ (hb)
      have n_5 := a_ (hi)
      clear BK_1
      clear HO_1
      clear HK
      clear HB
      clear HI_1
      have BK_1 := n_1
      have HO_1 := n_2
      have HK := n_3
      have HB := n_4
      have HI_1 := n_5
      clear n_1 n_2 n_3 n_4 n_5
      (try clear hb)
      (try clear hb2)
      (try clear hk)
      (try clear hi)
      obtain ⟨Ao_1, co_1, eo_1⟩ := Kd.R_slice HO_1.out
      (first | subst eo_1 | (injection eo_1 with f1_ f2_ f3_; have f_1 := f1_.symm; have f_2 := f3_.symm; clear f1_ f2_ f3_; subst f_1; subst f_2))
      refine hK.out _ _ trivial (fun hHeld => ?_)
      clear hK K
      refine norm_ (a' := ?_) ?_ ?_
      rotate_left
      ·show Act.put _ (some 19) _ = _
       simp only [Act.put, List.setIfInBounds_toArray, List.set_cons_zero, List.set_cons_succ, i64_w, i32_w]
       rfl
      refine pu_ HT_ 16 (some 20) ?_
      exact norm_ (by first | (simp only [putAll, Act.put, List.setIfInBounds_toArray, List.set_cons_zero, List.set_cons_succ]; done) | (simp only [putAll, Act.put, List.setIfInBounds_toArray, List.set_cons_zero, List.set_cons_succ]; rfl)) (hJ_2 (.slice Ao_1 t_7.length co_1) _ ⟨(by refine rq_ ?_; exact HO_1.out), (bk_ BK_1), (by repeat (first | (with_reducible first | exact HI_1.out | apply IsS87.alloc | apply IsS87.drewN | apply IsS87.drew | apply IsS87.set_0 | apply IsS87.set_1 | apply IsS87.far (hne := NB_1.out)) | exact HI_1.out)), (by repeat (first | (with_reducible first | exact HK.out | apply KeepBut.set_ | apply keep_drewN | apply keep_drew | apply keep_alloc | refine keep_far ?_ GW_1.out _) | exact HK.out)), (by repeat (first | (with_reducible first | exact HB.out | apply below_alloc | apply pw_below_drewN | apply below_drew1 | refine below_set ?_ (IsS87.ge HI_1.out) | refine below_set ?_ GE_1.out) | exact HB.out))⟩)
     ·skip
      refine box_step ?hg (N := 3) ?hd (cs := #[.int .u64 0, .int .u64 0, .slice none 0 0, .string (⟨#[]⟩ : ByteArray)]) (t := 35) ?hr ?_; (case hd => rfl); (case hg => rfl); (case hr => first | (go_simp; done) | (go_simp; rfl))
      intro gb_2 hg w_7 hbox hb
      have n_1 := a_ (Kd.R_below (by refine rq_ ?_; exact HO_1.out) hb)
      have n_2 := a_ (IsS87.below (by repeat (first | (with_reducible first | exact HI_1.out | apply IsS87.alloc | apply IsS87.drewN | apply IsS87.drew | apply IsS87.set_0 | apply IsS87.set_1 | apply IsS87.far (hne := NB_1.out)) | exact HI_1.out)) hb)
      have n_3 := bB_ BK_1 hb
      have n_4 := a_ (KeepBut.trans (by repeat (first | (with_reducible first | exact HK.out | apply KeepBut.set_ | apply keep_drewN | apply keep_drew | apply keep_alloc | refine keep_far ?_ GW_1.out _) | exact HK.out)) (KeepBut.of_below hb g none) (.inl rfl))
      have n_5 := a_ (below_step (by repeat (first | (with_reducible first | exact HB.out | apply below_alloc | apply pw_below_drewN | apply below_drew1 | refine below_set ?_ (IsS87.ge HI_1.out) | refine below_set ?_ GE_1.out) | exact HB.out)) hb)
      have n_6 := a_ (hbox)
      have n_7 := a_ ((by rw [hg]; exact (keep_size (w := w) (g := g) (row := none) (by repeat (first | (with_reducible first | exact HK.out | apply KeepBut.set_ | apply keep_drewN | apply keep_drew | apply keep_alloc | refine keep_far ?_ GW_1.out _) | exact HK.out))) : w.heap.size ≤ gb_2))
      have n_8 := a_ ((Nat.le_trans HW_1.out (by rw [hg]; exact (keep_size (w := w) (g := g) (row := none) (by repeat (first | (with_reducible first | exact HK.out | apply KeepBut.set_ | apply keep_drewN | apply keep_drew | apply keep_alloc | refine keep_far ?_ GW_1.out _) | exact HK.out))) : w.heap.size ≤ gb_2) : w0.heap.size ≤ gb_2))
      have n_9 := nB_ hg BK_1
      have n_10 := nC_ hg BK_1
      have n_11 := a_ ((by rw [hg]; exact Nat.ne_of_lt (IsS87.lt (show IsS87 w0 _ g t_8 t_9 from by repeat (first | (with_reducible first | exact HI_1.out | apply IsS87.alloc | apply IsS87.drewN | apply IsS87.drew | apply IsS87.set_0 | apply IsS87.set_1 | apply IsS87.far (hne := NB_1.out)) | exact HI_1.out))) : g ≠ gb_2))
      have n_12 := a_ ((by rw [hg]; exact Nat.ne_of_gt (IsS87.lt (show IsS87 w0 _ g t_8 t_9 from by repeat (first | (with_reducible first | exact HI_1.out | apply IsS87.alloc | apply IsS87.drewN | apply IsS87.drew | apply IsS87.set_0 | apply IsS87.set_1 | apply IsS87.far (hne := NB_1.out)) | exact HI_1.out))) : gb_2 ≠ g))
      clear HO_1
      clear HI_1
      clear BK_1
      clear HK
      clear HB
      have HO_1 := n_1
      have HI_1 := n_2
      have BK_1 := n_3
      have HK := n_4
      have HB := n_5
      have BK_2 := n_6
      have GW_2 := n_7
      have GE_2 := n_8
      have NB_3 := n_9
      have NB_4 := n_10
      have NB_5 := n_11
      have NB_6 := n_12
      clear n_1 n_2 n_3 n_4 n_5 n_6 n_7 n_8 n_9 n_10 n_11 n_12
      clear hb hbox hg
      refine hK.out _ _ trivial (fun hHeld => ?_)
      clear hK K
      refine norm_ (a' := ?_) ?_ ?_
      rotate_left
      ·show Act.put _ (some 3) _ = _
       simp only [Act.put, List.setIfInBounds_toArray, List.set_cons_zero, List.set_cons_succ, i64_w, i32_w]
       rfl
      exact norm_ (by first | (simp only [putAll, Act.put, List.setIfInBounds_toArray, List.set_cons_zero, List.set_cons_succ]; done) | (simp only [putAll, Act.put, List.setIfInBounds_toArray, List.set_cons_zero, List.set_cons_succ]; rfl)) (hJ_3 (v_1, gb_2) _ ⟨(by refine rq_ ?_; exact HO_1.out), (bk_ BK_1), (bk_ BK_2), GW_2.out, GE_2.out, NB_5.out, NB_6.out, NB_3.out, NB_4.out, (by repeat (first | (with_reducible first | exact HI_1.out | apply IsS87.alloc | apply IsS87.drewN | apply IsS87.drew | apply IsS87.set_0 | apply IsS87.set_1 | apply IsS87.far (hne := NB_1.out) | apply IsS87.far (hne := NB_5.out)) | exact HI_1.out)), (by repeat (first | (with_reducible first | exact HK.out | apply KeepBut.set_ | apply keep_drewN | apply keep_drew | apply keep_alloc | refine keep_far ?_ GW_1.out _ | refine keep_far ?_ GW_2.out _) | exact HK.out)), (by repeat (first | (with_reducible first | exact HB.out | apply below_alloc | apply pw_below_drewN | apply below_drew1 | refine below_set ?_ (IsS87.ge HI_1.out) | refine below_set ?_ GE_1.out | refine below_set ?_ GE_2.out) | exact HB.out))⟩)
   ·skip
    rintro ⟨v_1, gb_2⟩ w_7 ⟨h_1, h_2, h_3, h_4, h_5, h_6, h_7, h_8, h_9, h_10, h_11, h_12⟩
    have n_1 : Aside0 (Kd.R (Kd.int .i64) 3 w_7 w.heap.size (fun _ => True) v_1 t_7) := ⟨h_1⟩
    have n_2 : Aside0 (w_7.heap[gb_1]? = some (.cells #[.int .u64 0, .int .u64 0, .slice none 0 0, .string (⟨#[]⟩ : ByteArray)] 35 (0, 0))) := ⟨h_2⟩
    have n_3 : Aside0 (w_7.heap[gb_2]? = some (.cells #[.int .u64 0, .int .u64 0, .slice none 0 0, .string (⟨#[]⟩ : ByteArray)] 35 (0, 0))) := ⟨h_3⟩
    have n_4 : Aside0 (w.heap.size ≤ gb_2) := ⟨h_4⟩
    have n_5 : Aside0 (w0.heap.size ≤ gb_2) := ⟨h_5⟩
    have n_6 : Aside0 (g ≠ gb_2) := ⟨h_6⟩
    have n_7 : Aside0 (gb_2 ≠ g) := ⟨h_7⟩
    have n_8 : Aside0 (gb_1 ≠ gb_2) := ⟨h_8⟩
    have n_9 : Aside0 (gb_2 ≠ gb_1) := ⟨h_9⟩
    have n_10 : Aside0 (IsS87 w0 w_7 g t_8 t_9) := ⟨h_10⟩
    have n_11 : Aside0 (KeepBut w w_7 g none) := ⟨h_11⟩
    have n_12 : Aside0 (Below w0.heap.size w0 w_7) := ⟨h_12⟩
    clear BK_1
    clear HI_1
    clear HK
    clear HB
    clear h_1 h_2 h_3 h_4 h_5 h_6 h_7 h_8 h_9 h_10 h_11 h_12
    have HO_1 := n_1
    have BK_1 := n_2
    have BK_2 := n_3
    have GW_2 := n_4
    have GE_2 := n_5
    have NB_5 := n_6
    have NB_6 := n_7
    have NB_3 := n_8
    have NB_4 := n_9
    have HI_1 := n_10
    have HK := n_11
    have HB := n_12
    clear n_1 n_2 n_3 n_4 n_5 n_6 n_7 n_8 n_9 n_10 n_11 n_12
    have hHeld := trivial
    refine norm_ (a' := ?_) ?_ ?_
    rotate_left
    ·simp only [putAll, Act.put, List.setIfInBounds_toArray, List.set_cons_zero, List.set_cons_succ]
     rfl
    refine one_ (i := 15) (N := some 19) #[true, true, true, true, true, true, true, true, true, true, true, true, true, true, true, true, false, true, false] rfl rfl (one_of HT_.out (by kernel_rfl)) (by decide) (fun K hK => ?_)
    refine goes_ Try.func59 (by kernel_rfl) rfl #[.pointer (some ⟨g, 0, none⟩)] (by rfl) rfl rfl (ar_) ?_
    with_reducible refine (wal_Taker_Text.calls k g t_8 t_9 t_10 t_11 t_12 w0 _ ?side1 ?side2 A_8.out).mono ?_
    (case side1 => repeat (first | (with_reducible first | exact HI_1.out | apply IsS87.alloc | apply IsS87.drewN | apply IsS87.drew | apply IsS87.set_0 | apply IsS87.set_1 | apply IsS87.far (hne := NB_1.out) | apply IsS87.far (hne := NB_5.out)) | exact HI_1.out))
    (case side2 => repeat (first | (with_reducible first | exact HB.out | apply below_alloc | apply pw_below_drewN | apply below_drew1 | refine below_set ?_ (IsS87.ge HI_1.out) | refine below_set ?_ GE_1.out | refine below_set ?_ GE_2.out) | exact HB.out))
    rintro e w_8 ⟨rfl, hi, hb, hk⟩
    refine ⟨_, rfl, ?_⟩
    have n_1 := a_ (KeepBut.blk hk (g' := gb_1) (o := .cells #[.int .u64 0, .int .u64 0, .slice none 0 0, .string (⟨#[]⟩ : ByteArray)] 35 (0, 0)) (bk_ BK_1) NB_2.out (by simp))
    have n_2 := a_ (Kd.R_mono (Kd.R_keep (IsS87.apart (show IsS87 w0 _ g t_8 t_9 from by repeat (first | (with_reducible first | exact HI_1.out | apply IsS87.alloc | apply IsS87.drewN | apply IsS87.drew | apply IsS87.set_0 | apply IsS87.set_1 | apply IsS87.far (hne := NB_1.out) | apply IsS87.far (hne := NB_5.out)) | exact HI_1.out)) (by refine rq_ ?_; exact HO_1.out) (by decide)) hk (fun _ h => h.2)) (fun _ h => h.1))
    have n_3 := a_ (KeepBut.blk hk (g' := gb_2) (o := .cells #[.int .u64 0, .int .u64 0, .slice none 0 0, .string (⟨#[]⟩ : ByteArray)] 35 (0, 0)) (bk_ BK_2) NB_6.out (by simp))
    have n_4 := a_ (KeepBut.trans (by repeat (first | (with_reducible first | exact HK.out | apply KeepBut.set_ | apply keep_drewN | apply keep_drew | apply keep_alloc | refine keep_far ?_ GW_1.out _ | refine keep_far ?_ GW_2.out _) | exact HK.out)) hk (.inl rfl))
    have n_5 := a_ (hb)
    have n_6 := a_ (hi)
    clear BK_1
    clear HO_1
    clear BK_2
    clear HK
    clear HB
    clear HI_1
    have BK_1 := n_1
    have HO_1 := n_2
    have BK_2 := n_3
    have HK := n_4
    have HB := n_5
    have HI_1 := n_6
    clear n_1 n_2 n_3 n_4 n_5 n_6
    (try clear hb)
    (try clear hb2)
    (try clear hk)
    (try clear hi)
    obtain ⟨Ao_2, co_2, eo_2⟩ := Kd.R_slice HO_1.out
    (first | subst eo_2 | (injection eo_2 with f1_ f2_ f3_; have f_1 := f1_.symm; have f_2 := f3_.symm; clear f1_ f2_ f3_; subst f_1; subst f_2))
    refine hK.out _ _ trivial (fun hHeld => ?_)
    clear hK K
    refine norm_ (a' := ?_) ?_ ?_
    rotate_left
    ·show Act.put _ (some 19) _ = _
     simp only [Act.put, List.setIfInBounds_toArray, List.set_cons_zero, List.set_cons_succ, i64_w, i32_w]
     rfl
    refine pu_ HT_ 16 (some 20) ?_
    exact norm_ (by first | (simp only [putAll, Act.put, List.setIfInBounds_toArray, List.set_cons_zero, List.set_cons_succ]; done) | (simp only [putAll, Act.put, List.setIfInBounds_toArray, List.set_cons_zero, List.set_cons_succ]; rfl)) (hJ_1 (.slice Ao_2 t_7.length co_2, gb_2) _ ⟨(by refine rq_ ?_; exact HO_1.out), (bk_ BK_1), (bk_ BK_2), GW_2.out, GE_2.out, NB_5.out, NB_6.out, NB_3.out, NB_4.out, (by repeat (first | (with_reducible first | exact HI_1.out | apply IsS87.alloc | apply IsS87.drewN | apply IsS87.drew | apply IsS87.set_0 | apply IsS87.set_1 | apply IsS87.far (hne := NB_1.out) | apply IsS87.far (hne := NB_5.out)) | exact HI_1.out)), (by repeat (first | (with_reducible first | exact HK.out | apply KeepBut.set_ | apply keep_drewN | apply keep_drew | apply keep_alloc | refine keep_far ?_ GW_1.out _ | refine keep_far ?_ GW_2.out _) | exact HK.out)), (by repeat (first | (with_reducible first | exact HB.out | apply below_alloc | apply pw_below_drewN | apply below_drew1 | refine below_set ?_ (IsS87.ge HI_1.out) | refine below_set ?_ GE_1.out | refine below_set ?_ GE_2.out) | exact HB.out))⟩)
  ·skip
   rintro v_1 w_8 ⟨h_1, h_2, h_3, h_4, h_5⟩
   have n_1 : Aside0 (Kd.R (Kd.int .i64) 3 w_8 w.heap.size (fun _ => True) v_1 t_7) := ⟨h_1⟩
   have n_2 : Aside0 (w_8.heap[gb_1]? = some (.cells #[.int .u64 0, .int .u64 0, .slice none 0 0, .string (⟨#[]⟩ : ByteArray)] 35 (0, 0))) := ⟨h_2⟩
   have n_3 : Aside0 (IsS87 w0 w_8 g t_11 t_12) := ⟨h_3⟩
   have n_4 : Aside0 (KeepBut w w_8 g none) := ⟨h_4⟩
   have n_5 : Aside0 (Below w0.heap.size w0 w_8) := ⟨h_5⟩
   clear BK_1
   clear HI_1
   clear HK
   clear HB
   clear h_1 h_2 h_3 h_4 h_5
   have HO_1 := n_1
   have BK_1 := n_2
   have HI_1 := n_3
   have HK := n_4
   have HB := n_5
   clear n_1 n_2 n_3 n_4 n_5
   have hHeld := trivial
   obtain ⟨Ao_2, co_2, eo_2⟩ := Kd.R_slice HO_1.out
   (first | subst eo_2 | (injection eo_2 with f1_ f2_ f3_; have f_1 := f1_.symm; have f_2 := f3_.symm; clear f1_ f2_ f3_; subst f_1; subst f_2))
   refine norm_ (a' := ?_) ?_ ?_
   rotate_left
   ·simp only [putAll, Act.put, List.setIfInBounds_toArray, List.set_cons_zero, List.set_cons_succ]
    rfl
   refine one_ (i := 17) (N := some 3) #[true, true, true, true, true, true, true, true, true, true, true, true, true, true, true, true, true, true, false] rfl rfl (one_of HT_.out (by kernel_rfl)) (by decide) (fun K hK => ?_)
   refine box_step ?hg (N := 3) ?hd (cs := #[.int .u64 0, .int .u64 0, .slice none 0 0, .string (⟨#[]⟩ : ByteArray)]) (t := 35) ?hr ?_; (case hd => rfl); (case hg => rfl); (case hr => first | (go_simp; done) | (go_simp; rfl))
   intro gb_2 hg w_9 hbox hb
   have n_1 := a_ (Kd.R_below (by refine rq_ ?_; exact HO_1.out) hb)
   have n_2 := a_ (IsS87.below (by repeat (first | (with_reducible first | exact HI_1.out | apply IsS87.alloc | apply IsS87.drewN | apply IsS87.drew | apply IsS87.set_0 | apply IsS87.set_1 | apply IsS87.far (hne := NB_1.out)) | exact HI_1.out)) hb)
   have n_3 := bB_ BK_1 hb
   have n_4 := a_ (KeepBut.trans (by repeat (first | (with_reducible first | exact HK.out | apply KeepBut.set_ | apply keep_drewN | apply keep_drew | apply keep_alloc | refine keep_far ?_ GW_1.out _) | exact HK.out)) (KeepBut.of_below hb g none) (.inl rfl))
   have n_5 := a_ (below_step (by repeat (first | (with_reducible first | exact HB.out | apply below_alloc | apply pw_below_drewN | apply below_drew1 | refine below_set ?_ (IsS87.ge HI_1.out) | refine below_set ?_ GE_1.out) | exact HB.out)) hb)
   have n_6 := a_ (hbox)
   have n_7 := a_ ((by rw [hg]; exact (keep_size (w := w) (g := g) (row := none) (by repeat (first | (with_reducible first | exact HK.out | apply KeepBut.set_ | apply keep_drewN | apply keep_drew | apply keep_alloc | refine keep_far ?_ GW_1.out _) | exact HK.out))) : w.heap.size ≤ gb_2))
   have n_8 := a_ ((Nat.le_trans HW_1.out (by rw [hg]; exact (keep_size (w := w) (g := g) (row := none) (by repeat (first | (with_reducible first | exact HK.out | apply KeepBut.set_ | apply keep_drewN | apply keep_drew | apply keep_alloc | refine keep_far ?_ GW_1.out _) | exact HK.out))) : w.heap.size ≤ gb_2) : w0.heap.size ≤ gb_2))
   have n_9 := nB_ hg BK_1
   have n_10 := nC_ hg BK_1
   have n_11 := a_ ((by rw [hg]; exact Nat.ne_of_lt (IsS87.lt (show IsS87 w0 _ g t_11 t_12 from by repeat (first | (with_reducible first | exact HI_1.out | apply IsS87.alloc | apply IsS87.drewN | apply IsS87.drew | apply IsS87.set_0 | apply IsS87.set_1 | apply IsS87.far (hne := NB_1.out)) | exact HI_1.out))) : g ≠ gb_2))
   have n_12 := a_ ((by rw [hg]; exact Nat.ne_of_gt (IsS87.lt (show IsS87 w0 _ g t_11 t_12 from by repeat (first | (with_reducible first | exact HI_1.out | apply IsS87.alloc | apply IsS87.drewN | apply IsS87.drew | apply IsS87.set_0 | apply IsS87.set_1 | apply IsS87.far (hne := NB_1.out)) | exact HI_1.out))) : gb_2 ≠ g))
   clear HO_1
   clear HI_1
   clear BK_1
   clear HK
   clear HB
   have HO_1 := n_1
   have HI_1 := n_2
   have BK_1 := n_3
   have HK := n_4
   have HB := n_5
   have BK_2 := n_6
   have GW_2 := n_7
   have GE_2 := n_8
   have NB_3 := n_9
   have NB_4 := n_10
   have NB_5 := n_11
   have NB_6 := n_12
   clear n_1 n_2 n_3 n_4 n_5 n_6 n_7 n_8 n_9 n_10 n_11 n_12
   clear hb hbox hg
   refine hK.out _ _ trivial (fun hHeld => ?_)
   clear hK K
   refine norm_ (a' := ?_) ?_ ?_
   rotate_left
   ·show Act.put _ (some 3) _ = _
    simp only [Act.put, List.setIfInBounds_toArray, List.set_cons_zero, List.set_cons_succ, i64_w, i32_w]
    rfl
   exact norm_ (by first | (simp only [putAll, Act.put, List.setIfInBounds_toArray, List.set_cons_zero, List.set_cons_succ]; done) | (simp only [putAll, Act.put, List.setIfInBounds_toArray, List.set_cons_zero, List.set_cons_succ]; rfl)) (hJ_1 (.slice Ao_2 t_7.length co_2, gb_2) _ ⟨(by refine rq_ ?_; exact HO_1.out), (bk_ BK_1), (bk_ BK_2), GW_2.out, GE_2.out, NB_5.out, NB_6.out, NB_3.out, NB_4.out, (by repeat (first | (with_reducible first | exact HI_1.out | apply IsS87.alloc | apply IsS87.drewN | apply IsS87.drew | apply IsS87.set_0 | apply IsS87.set_1 | apply IsS87.far (hne := NB_1.out) | apply IsS87.far (hne := NB_5.out)) | exact HI_1.out)), (by repeat (first | (with_reducible first | exact HK.out | apply KeepBut.set_ | apply keep_drewN | apply keep_drew | apply keep_alloc | refine keep_far ?_ GW_1.out _ | refine keep_far ?_ GW_2.out _) | exact HK.out)), (by repeat (first | (with_reducible first | exact HB.out | apply below_alloc | apply pw_below_drewN | apply below_drew1 | refine below_set ?_ (IsS87.ge HI_1.out) | refine below_set ?_ GE_1.out | refine below_set ?_ GE_2.out) | exact HB.out))⟩)
 rintro ⟨v_1, gb_2⟩ w_10 ⟨h_1, h_2, h_3, h_4, h_5, h_6, h_7, h_8, h_9, h_10, h_11, h_12⟩
 have n_1 : Aside0 (Kd.R (Kd.int .i64) 3 w_10 w.heap.size (fun _ => True) v_1 t_7) := ⟨h_1⟩
 have n_2 : Aside0 (w_10.heap[gb_1]? = some (.cells #[.int .u64 0, .int .u64 0, .slice none 0 0, .string (⟨#[]⟩ : ByteArray)] 35 (0, 0))) := ⟨h_2⟩
 have n_3 : Aside0 (w_10.heap[gb_2]? = some (.cells #[.int .u64 0, .int .u64 0, .slice none 0 0, .string (⟨#[]⟩ : ByteArray)] 35 (0, 0))) := ⟨h_3⟩
 have n_4 : Aside0 (w.heap.size ≤ gb_2) := ⟨h_4⟩
 have n_5 : Aside0 (w0.heap.size ≤ gb_2) := ⟨h_5⟩
 have n_6 : Aside0 (g ≠ gb_2) := ⟨h_6⟩
 have n_7 : Aside0 (gb_2 ≠ g) := ⟨h_7⟩
 have n_8 : Aside0 (gb_1 ≠ gb_2) := ⟨h_8⟩
 have n_9 : Aside0 (gb_2 ≠ gb_1) := ⟨h_9⟩
 have n_10 : Aside0 (IsS87 w0 w_10 g t_11 t_12) := ⟨h_10⟩
 have n_11 : Aside0 (KeepBut w w_10 g none) := ⟨h_11⟩
 have n_12 : Aside0 (Below w0.heap.size w0 w_10) := ⟨h_12⟩
 clear BK_1
 clear HI_1
 clear HK
 clear HB
 clear h_1 h_2 h_3 h_4 h_5 h_6 h_7 h_8 h_9 h_10 h_11 h_12
 have HO_1 := n_1
 have BK_1 := n_2
 have BK_2 := n_3
 have GW_2 := n_4
 have GE_2 := n_5
 have NB_5 := n_6
 have NB_6 := n_7
 have NB_3 := n_8
 have NB_4 := n_9
 have HI_1 := n_10
 have HK := n_11
 have HB := n_12
 clear n_1 n_2 n_3 n_4 n_5 n_6 n_7 n_8 n_9 n_10 n_11 n_12
 have hHeld := trivial
 obtain ⟨Ao_3, co_3, eo_3⟩ := Kd.R_slice HO_1.out
 (first | subst eo_3 | (injection eo_3 with f1_ f2_ f3_; have f_1 := f1_.symm; have f_2 := f3_.symm; clear f1_ f2_ f3_; subst f_1; subst f_2))
 refine norm_ (a' := ?_) ?_ ?_
 rotate_left
 ·simp only [putAll, Act.put, List.setIfInBounds_toArray, List.set_cons_zero, List.set_cons_succ]
  rfl
 refine one_ (i := 18) (N := none) #[true, true, true, true, true, true, true, true, true, true, true, true, true, true, true, true, true, true, true] rfl rfl (one_of HT_.out (by kernel_rfl)) (by decide) (fun K hK => ?_)
 have hs_1 : w_10.cell? ⟨gb_2, 0, none⟩ = some (.int .u64 0) := (blk_cell BK_2.out 0).trans rfl
 have hfs_1 := blk_frozen BK_2.out 0
 have hns_1 := NB_3.out
 have hms_1 := NB_4.out
 have hs_2 : w_10.cell? ⟨gb_2, 1, none⟩ = some (.int .u64 0) := (blk_cell BK_2.out 1).trans rfl
 have hfs_2 := blk_frozen BK_2.out 1
 have hns_2 := NB_3.out
 have hms_2 := NB_4.out
 have hs_3 : w_10.cell? ⟨gb_2, 2, none⟩ = some (.slice none 0 0) := (blk_cell BK_2.out 2).trans rfl
 have hfs_3 := blk_frozen BK_2.out 2
 have hns_3 := NB_3.out
 have hms_3 := NB_4.out
 have hs_4 : w_10.cell? ⟨gb_2, 3, none⟩ = some (.string (⟨#[]⟩ : ByteArray)) := (blk_cell BK_2.out 3).trans rfl
 have hfs_4 := blk_frozen BK_2.out 3
 have hns_4 := NB_3.out
 have hms_4 := NB_4.out
 refine skip_ (w1 := ?_) (by rfl) rfl ?_ ?_
 rotate_left
 ·go_simp
  rfl
 refine hK.out _ _ trivial (fun hHeld => ?_)
 clear hK K
 refine done_ (done_of HT_.out (by kernel_rfl)) ?_
 obtain ⟨Tz_1, hTz_1, HGz_1, hgz_1⟩ := HI_1.out
 have hcz_1 := cellS87_0 HGz_1
 have hcz_2 := cellS87_1 HGz_1
 have hfz_1 := blk_frozen HGz_1 0
 have hfz_2 := blk_frozen HGz_1 1
 clear HGz_1 hgz_1
 have hnb_1 := NB_4.out
 have hnc_1 := NB_3.out
 have hnb_2 := NB_6.out
 have hnc_2 := NB_5.out
 obtain ⟨hcz_3, hcz_4, hcz_5, hcz_6, hfz_3, hfz_4, hfz_5, hfz_6⟩ := c4_ BK_2
 by_cases c_1 : t_12 = true
 focus
  subst c_1
  have H_1 : (some (t_1, t_4, t_7, t_10, t_11, true)) = some (r1, r2, r3, r4, r5, r6) := by rw [if_pos rfl] at H; exact H
  clear H
  have H := H_1
  clear H_1
  simp only [Option.some.injEq, Prod.mk.injEq] at H
  obtain ⟨rfl, rfl, rfl, rfl, rfl, rfl⟩ := H
  have L0_ := trivial
 rotate_left
 replace c_1 := Bool.eq_false_iff.mpr c_1
 subst c_1
 have H_1 : ((snap_Check.f k t_1 t_4 t_7 t_10).bind fun t181 => (some (t_1, t_4, t_7, t_10, t_11, (t181 != 0)))) = some (r1, r2, r3, r4, r5, r6) := by rw [if_neg (show ¬ (false = true) by decide)] at H; exact H
 clear H
 have H := H_1
 clear H_1
 obtain ⟨t_13, A_9, H⟩ := Option.bind_eq_some_iff.mp H
 try dsimp only at H
 have A_10 := a_ A_9
 clear A_9
 simp only [Option.some.injEq, Prod.mk.injEq] at H
 obtain ⟨rfl, rfl, rfl, rfl, rfl, rfl⟩ := H
 have L1_ := trivial
 all_goals
  first
  | (have _ := L0_
     have hnb_3 := NB_2.out
     have hnc_3 := NB_1.out
     obtain ⟨hcz_7, hcz_8, hcz_9, hcz_10, hfz_7, hfz_8, hfz_9, hfz_10⟩ := c4_ BK_1
     try go_wp2
     refine bodyPost_ret (results_cell_row rfl _ _ gb_1 35 #[.int .u64 t_1, .int .u64 t_4, .slice Ao_3 t_7.length co_3, .string t_10] (0, 0) _ rfl (bp_2 BK_1 NB_2 NB_3) Try.underlying35 rfl (by kernel_rfl)) rfl ?_
     exact ⟨_, fz_, by refine rq_ ?_; exact Kd.R_mono (Kd.R_far (p := ⟨gb_1, 3, none⟩) (Kd.R_far (p := ⟨gb_1, 2, none⟩) (Kd.R_far (p := ⟨gb_1, 1, none⟩) (Kd.R_far (p := ⟨gb_1, 0, none⟩) (Kd.R_far (p := ⟨g, 1, none⟩) (Kd.R_far (p := ⟨gb_2, 3, none⟩) (Kd.R_far (p := ⟨gb_2, 2, none⟩) (Kd.R_far (p := ⟨gb_2, 1, none⟩) (Kd.R_far (p := ⟨gb_2, 0, none⟩) (Kd.R_types (IsS87.apart HI_1.out (Kd.R_types HO_1.out BK_2.out (by decide)) (by decide)) BK_1.out (by decide)) (fun _ hk => hk.1.1.2) (.int .u64 t_1)) (fun _ hk => hk.1.1.2) (.int .u64 t_4)) (fun _ hk => hk.1.1.2) (.slice Ao_3 t_7.length co_3)) (fun _ hk => hk.1.1.2) (.string t_10)) (fun _ hk => hk.1.2) (.bool true)) (fun _ hk => hk.2) (.int .u64 t_1)) (fun _ hk => hk.2) (.int .u64 t_4)) (fun _ hk => hk.2) (.slice Ao_3 t_7.length co_3)) (fun _ hk => hk.2) (.string t_10)) (fun _ hk => trivial), by repeat (first | (with_reducible first | exact HI_1.out | apply IsS87.alloc | apply IsS87.drewN | apply IsS87.drew | apply IsS87.set_0 | apply IsS87.set_1 | apply IsS87.far (hne := NB_1.out) | apply IsS87.far (hne := NB_5.out)) | exact HI_1.out), by repeat (first | (with_reducible first | exact HB.out | apply below_alloc | apply pw_below_drewN | apply below_drew1 | refine below_set ?_ (IsS87.ge HI_1.out) | refine below_set ?_ GE_1.out | refine below_set ?_ GE_2.out) | exact HB.out), by repeat (first | (with_reducible first | exact HK.out | apply KeepBut.set_ | apply keep_drewN | apply keep_drew | apply keep_alloc | refine keep_far ?_ GW_1.out _ | refine keep_far ?_ GW_2.out _) | exact HK.out)⟩)
  | (have _ := L1_
     try go_wp2_with (go_at_call 36; (with_reducible refine (snap_Check.calls k t_1 t_4 _ _ t_7 t_10 t_13 _ ?side1 ?side2 A_10.out).mono ?_); (case side1 => refine (Kd.R_reads' (e := 3) (base := w.heap.size) (ok := fun k_ => True) (n := t_7.length) (c := co_3) ?_).2.2; exact (by refine rq_ ?_; exact (Kd.R_mono (Kd.R_far (p := ⟨gb_2, 3, none⟩) (Kd.R_far (p := ⟨gb_2, 2, none⟩) (Kd.R_far (p := ⟨gb_2, 1, none⟩) (Kd.R_far (p := ⟨gb_2, 0, none⟩) (Kd.R_types HO_1.out BK_2.out (by decide)) (fun _ hk => hk.2) (.int .u64 t_1)) (fun _ hk => hk.2) (.int .u64 t_4)) (fun _ hk => hk.2) (.slice Ao_3 t_7.length co_3)) (fun _ hk => hk.2) (.string t_10)) (fun _ h_ => h_.1)))); (case side2 => exact (Kd.R_reads' HO_1.out).2.1); rintro e w_11 ⟨rfl, hb⟩; replace HO_1 := a_ (Kd.R_below (by refine rq_ ?_; exact (Kd.R_mono (Kd.R_far (p := ⟨gb_2, 3, none⟩) (Kd.R_far (p := ⟨gb_2, 2, none⟩) (Kd.R_far (p := ⟨gb_2, 1, none⟩) (Kd.R_far (p := ⟨gb_2, 0, none⟩) (Kd.R_types HO_1.out BK_2.out (by decide)) (fun _ hk => hk.2) (.int .u64 t_1)) (fun _ hk => hk.2) (.int .u64 t_4)) (fun _ hk => hk.2) (.slice Ao_3 t_7.length co_3)) (fun _ hk => hk.2) (.string t_10)) (fun _ h_ => h_.1))) hb); replace BK_1 := a_ (blk_below (g := gb_1) (o := .cells #[.int .u64 0, .int .u64 0, .slice none 0 0, .string (⟨#[]⟩ : ByteArray)] 35 (0, 0)) (bp_1 BK_1 NB_3) hb); replace BK_2 := a_ (blk_below (g := gb_2) (o := .cells #[.int .u64 t_1, .int .u64 t_4, .slice Ao_3 t_7.length co_3, .string t_10] 35 (0, 0)) (bp_0 BK_2) hb); replace HK := a_ (KeepBut.trans (by repeat (first | (with_reducible first | exact HK.out | apply KeepBut.set_ | apply keep_drewN | apply keep_drew | apply keep_alloc | refine keep_far ?_ GW_1.out _ | refine keep_far ?_ GW_2.out _) | exact HK.out)) (KeepBut.of_below hb g none) (.inl rfl)); replace HB := a_ (below_step (by repeat (first | (with_reducible first | exact HB.out | apply below_alloc | apply pw_below_drewN | apply below_drew1 | refine below_set ?_ (IsS87.ge HI_1.out) | refine below_set ?_ GE_1.out | refine below_set ?_ GE_2.out) | exact HB.out)) hb); replace HI_1 := a_ (IsS87.below (show IsS87 w0 ((((w_10.setCell ⟨gb_2, 0, none⟩ (.int .u64 t_1)).setCell ⟨gb_2, 1, none⟩ (.int .u64 t_4)).setCell ⟨gb_2, 2, none⟩ (.slice Ao_3 t_7.length co_3)).setCell ⟨gb_2, 3, none⟩ (.string t_10)) g t_11 false from by repeat (first | (with_reducible first | exact HI_1.out | apply IsS87.alloc | apply IsS87.drewN | apply IsS87.drew | apply IsS87.set_0 | apply IsS87.set_1 | apply IsS87.far (hne := NB_1.out) | apply IsS87.far (hne := NB_5.out)) | exact HI_1.out)) hb); (try clear hb); obtain ⟨Tz_2, hTz_2, HGz_2, hgz_2⟩ := HI_1.out; have hcz_7 := cellS87_0 HGz_2; have hcz_8 := cellS87_1 HGz_2; have hfz_7 := blk_frozen HGz_2 0; have hfz_8 := blk_frozen HGz_2 1; clear HGz_2 hgz_2; obtain ⟨hcz_9, hcz_10, hcz_11, hcz_12, hfz_9, hfz_10, hfz_11, hfz_12⟩ := c4_ BK_2; have hnb_3 := NB_2.out; have hnc_3 := NB_1.out; obtain ⟨hcz_13, hcz_14, hcz_15, hcz_16, hfz_13, hfz_14, hfz_15, hfz_16⟩ := c4_ BK_1)
     refine bodyPost_ret (results_cell_row rfl _ _ gb_1 35 #[.int .u64 t_1, .int .u64 t_4, .slice Ao_3 t_7.length co_3, .string t_10] (0, 0) _ rfl (bp_1 BK_1 NB_2) Try.underlying35 rfl (by kernel_rfl)) rfl ?_
     exact ⟨_, fz_, by refine rq_ ?_; exact Kd.R_mono (Kd.R_far (p := ⟨gb_1, 3, none⟩) (Kd.R_far (p := ⟨gb_1, 2, none⟩) (Kd.R_far (p := ⟨gb_1, 1, none⟩) (Kd.R_far (p := ⟨gb_1, 0, none⟩) (Kd.R_far (p := ⟨g, 1, none⟩) (Kd.R_types (IsS87.apart HI_1.out HO_1.out (by decide)) BK_1.out (by decide)) (fun _ hk => hk.1.2) (.bool (t_13 != 0))) (fun _ hk => hk.2) (.int .u64 t_1)) (fun _ hk => hk.2) (.int .u64 t_4)) (fun _ hk => hk.2) (.slice Ao_3 t_7.length co_3)) (fun _ hk => hk.2) (.string t_10)) (fun _ hk => trivial), by repeat (first | (with_reducible first | exact HI_1.out | apply IsS87.alloc | apply IsS87.drewN | apply IsS87.drew | apply IsS87.set_0 | apply IsS87.set_1 | apply IsS87.far (hne := NB_1.out) | apply IsS87.far (hne := NB_5.out)) | exact HI_1.out), by repeat (first | (with_reducible first | exact HB.out | apply below_alloc | apply pw_below_drewN | apply below_drew1 | refine below_set ?_ (IsS87.ge HI_1.out) | refine below_set ?_ GE_1.out | refine below_set ?_ GE_2.out) | exact HB.out), by repeat (first | (with_reducible first | exact HK.out | apply KeepBut.set_ | apply keep_drewN | apply keep_drew | apply keep_alloc | refine keep_far ?_ GW_1.out _ | refine keep_far ?_ GW_2.out _) | exact HK.out)⟩)

end Go.Proofs.Ytcdibodjkdoknaa.PM
