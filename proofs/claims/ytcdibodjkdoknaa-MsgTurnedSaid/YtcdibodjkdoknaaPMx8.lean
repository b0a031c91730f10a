-- Written for this claim by a program of this session. Lean checks it.
import Derived.Test.YtcdibodjkdoknaaPMx0
import Derived.Test.YtcdibodjkdoknaaPMx3
import Derived.Test.YtcdibodjkdoknaaPMx6
import Derived.Test.YtcdibodjkdoknaaPMx7
namespace Go.Proofs.Ytcdibodjkdoknaa.PM
open Go.RowKit Go.Proofs.YtcdibodjkdoknaaW.PrintWords Go.Proofs.YtcdibodjkdoknaaW.PrintLast Go.Proofs.YtcdibodjkdoknaaW.PrintMore Go.Proofs.Ytcdibodjkdoknaa.Sh Go.Proofs.Ytcdibodjkdoknaa.Op
attribute [local go_sem] max2_int min2_int max_two min_two max_three min_three max_four min_four   -- for this text's walks alone
set_option linter.unusedVariables false
set_option maxHeartbeats 80000000
set_option maxRecDepth 100000
set_option linter.unusedSimpArgs false

/-! ### snap_Taker_Snap: function 80 -/
def snap_Taker_Snap.f (k : Nat) (s0_0 : ByteArray) (s0_1 : Bool) : Option (Int × Int × List Int × ByteArray × ByteArray × Bool) := (wal_Taker_Number.f k s0_0 s0_1).bind fun bt166 => ((wal_Taker_Number.f k bt166.2.1 bt166.2.2).bind fun bt169 => ((wal_Taker_Ints.f k bt169.2.1 bt169.2.2).bind fun bt172 => ((wal_Taker_Text.f k bt172.2.1 bt172.2.2).bind fun bt177 => (if bt177.2.2 = true then (some (bt166.1, bt169.1, bt172.1, bt177.1, bt177.2.1, true)) else ((snap_Check.f k bt166.1 bt169.1 bt172.1 bt177.1).bind fun t181 => (some (bt166.1, bt169.1, bt172.1, bt177.1, bt177.2.1, (t181 != 0))))))))
theorem snap_Taker_Snap.mono : ∀ a0 a1 k, LeO (snap_Taker_Snap.f k a0 a1) (snap_Taker_Snap.f (k + 1) a0 a1) := by
 intro a0 a1 k
 unfold snap_Taker_Snap.f
 repeat' with_reducible first | exact snap_Check.mono _ _ _ _ _ | exact wal_Taker_Ints.mono _ _ _ | exact wal_Taker_Number.mono _ _ _ | exact wal_Taker_Text.mono _ _ _ | exact LeO.refl _ | exact LeO.none _ | refine LeO.ite ?_ ?_ | refine LeO.bind ?_ (fun _ => ?_)
def snap_Taker_Snap.T1 : Bool × List (List Nat × List Nat) := (true, [([], []), ([0], [0]), ([1], [1]), ([2], [2]), ([], []), ([4], [4]), ([5], [5]), ([6, 3], [6]), ([], []), ([8], [8]), ([9], [9]), ([10, 7], [10]), ([], []), ([12], [12]), ([13], [13]), ([14, 11], [14]), ([3, 7, 11, 15], [3, 7, 11, 15]), ([], []), ([17, 16, 15, 0, 1, 2, 3, 4, 5, 6, 7, 8, 9, 10, 11, 12, 13, 14, 15, 16, 17], [16, 17])])
def snap_Taker_Snap.B1 : List Nat := [0, 1, 3, 7, 0, 16, 48, 127, 0, 256, 768, 2047, 0, 4096, 12288, 32767, 65535, 0, 262143]
theorem snap_Taker_Snap.tab1 : rtab .any (opsOf Try.f80 1) = snap_Taker_Snap.T1 := by kernel_rfl
theorem snap_Taker_Snap.bits1 : waitsOk snap_Taker_Snap.T1.2 snap_Taker_Snap.B1 = true := by kernel_rfl
theorem snap_Taker_Snap.calls (k : Nat) (g : Nat) (s0_0 : ByteArray) (s0_1 : Bool) (r1 : Int) (r2 : Int) (r3 : List Int) (r4 : ByteArray) (r5 : ByteArray) (r6 : Bool) (w0 w : World) (hI : IsS87 w0 w g s0_0 s0_1) (hB : Below w0.heap.size w0 w) (h : snap_Taker_Snap.f k s0_0 s0_1 = some (r1, r2, r3, r4, r5, r6)) :
  Calls Try.prog 80 #[.pointer (some ⟨g, 0, none⟩)] w fun e w' => ∃ v2_ : Value, e = .returned (.agg #[.int .u64 r1, .int .u64 r2, v2_, .string r4]) ∧ Kd.R (Kd.int .i64) 3 w' w.heap.size (fun _ => True) v2_ r3 ∧ IsS87 w0 w' g r5 r6 ∧ Below w0.heap.size w0 w' ∧ KeepBut w w' g none := by
 have hu35 := Try.underlying35
 have HI0 := a_ hI
 have HK := a_ (KeepBut.refl w g none)
 have HL := a_ hB.size
 clear hI
 have HW0 := a_ hB.size
 have HB := a_ hB
 clear hB
 have H : ((wal_Taker_Number.f k s0_0 s0_1).bind fun bt166 => ((wal_Taker_Number.f k bt166.2.1 bt166.2.2).bind fun bt169 => ((wal_Taker_Ints.f k bt169.2.1 bt169.2.2).bind fun bt172 => ((wal_Taker_Text.f k bt172.2.1 bt172.2.2).bind fun bt177 => (if bt177.2.2 = true then (some (bt166.1, bt169.1, bt172.1, bt177.1, bt177.2.1, true)) else ((snap_Check.f k bt166.1 bt169.1 bt172.1 bt177.1).bind fun t181 => (some (bt166.1, bt169.1, bt172.1, bt177.1, bt177.2.1, (t181 != 0))))))))) = some (r1, r2, r3, r4, r5, r6) := h
 clear h
 obtain ⟨⟨t166, t167, t168⟩, A20, H⟩ := Option.bind_eq_some_iff.mp H
 try dsimp only at H
 have A2 := a_ A20
 clear A20
 obtain ⟨⟨t169, t170, t171⟩, A30, H⟩ := Option.bind_eq_some_iff.mp H
 try dsimp only at H
 have A3 := a_ A30
 clear A30
 obtain ⟨⟨t172, t175, t176⟩, A40, H⟩ := Option.bind_eq_some_iff.mp H
 try dsimp only at H
 have A4 := a_ A40
 clear A40
 obtain ⟨⟨t177, t178, t179⟩, A50, H⟩ := Option.bind_eq_some_iff.mp H
 try dsimp only at H
 have A5 := a_ A50
 clear A50
 by_cases c6 : t179 = true
 ·subst c6
  have H1 : (some (t166, t169, t172, t177, t178, true)) = some (r1, r2, r3, r4, r5, r6) := by rw [if_pos rfl] at H; exact H
  clear H
  have H := H1
  clear H1
  simp only [Option.some.injEq, Prod.mk.injEq] at H
  obtain ⟨rfl, rfl, rfl, rfl, rfl, rfl⟩ := H
  go_enter Try.func80, Try.ntmps80
  try go_wp2_with (first | ((with_reducible refine gd_ 2 ?_); refine bx_ 2 #[.int .u64 0, .int .u64 0, .slice none 0 0, .string (⟨#[]⟩ : ByteArray)] 35 ?_; intro gb165 hg w7 hbox hb; replace HB := a_ (below_step (by repeat (first | (with_reducible first | exact HB.out | apply below_alloc | apply pw_below_drewN | apply below_drew1 | refine below_set ?_ (IsS87.ge HI0.out)) | exact HB.out)) hb); have BK165 := a_ (hbox); have GW165 := a_ ((by rw [hg]; exact (keep_size (w := w) (g := g) (row := none) (by repeat (first | (with_reducible first | exact HK.out | apply KeepBut.set_ | apply keep_drewN | apply keep_drew | apply keep_alloc) | exact HK.out))) : w.heap.size ≤ gb165)); have GE165 := a_ ((Nat.le_trans HW0.out (by rw [hg]; exact (keep_size (w := w) (g := g) (row := none) (by repeat (first | (with_reducible first | exact HK.out | apply KeepBut.set_ | apply keep_drewN | apply keep_drew | apply keep_alloc) | exact HK.out))) : w.heap.size ≤ gb165) : w0.heap.size ≤ gb165)); replace HK := a_ (KeepBut.trans (by repeat (first | (with_reducible first | exact HK.out | apply KeepBut.set_ | apply keep_drewN | apply keep_drew | apply keep_alloc) | exact HK.out)) (KeepBut.of_below hb g none) (.inl rfl)); have NB0_165 := a_ ((by rw [hg]; exact Nat.ne_of_lt (IsS87.lt (show IsS87 w0 _ g s0_0 s0_1 from by repeat (first | (with_reducible first | exact HI0.out | apply IsS87.alloc | apply IsS87.drewN | apply IsS87.drew | apply IsS87.set_0 | apply IsS87.set_1) | exact HI0.out))) : g ≠ gb165)); have NB165_0 := a_ ((by rw [hg]; exact Nat.ne_of_gt (IsS87.lt (show IsS87 w0 _ g s0_0 s0_1 from by repeat (first | (with_reducible first | exact HI0.out | apply IsS87.alloc | apply IsS87.drewN | apply IsS87.drew | apply IsS87.set_0 | apply IsS87.set_1) | exact HI0.out))) : gb165 ≠ g)); replace HI0 := a_ (IsS87.below (by repeat (first | (with_reducible first | exact HI0.out | apply IsS87.alloc | apply IsS87.drewN | apply IsS87.drew | apply IsS87.set_0 | apply IsS87.set_1) | exact HI0.out)) hb); clear hb hbox hg))
  have n0_ := a_ (blk_drew BK165.out)
  have n1_ := a_ (IsS87.drew HI0.out)
  have n2_ := a_ (keep_drew HK.out)
  have n3_ := a_ (below_drew1 HB.out)
  clear BK165
  clear HI0
  clear HK
  clear HB
  have BK165 := n0_
  have HI0 := n1_
  have HK := n2_
  have HB := n3_
  clear n0_ n1_ n2_ n3_
  refine start_ (n := 19) (S := fun w' => True) (ds := []) #[false, false, false, false, false, false, false, false, false, false, false, false, false, false, false, false, false, false, false] (by kernel_rfl) rfl rfl trivial (fun hHeld => ?_); refine with_tabW snap_Taker_Snap.tab1 snap_Taker_Snap.bits1 (fun HT_ HW_ => ?_)
  generalize w7.drew = w8 at BK165 HI0 HK HB hHeld ⊢
  refine pu_ HT_ 0 (some 4) ?_
  refine pu_ HT_ 1 (some 5) ?_
  refine pu_ HT_ 2 (some 6) ?_
  refine pu_ HT_ 4 (some 8) ?_
  refine pu_ HT_ 5 (some 9) ?_
  refine pu_ HT_ 6 (some 10) ?_
  refine pu_ HT_ 8 (some 12) ?_
  refine pu_ HT_ 9 (some 13) ?_
  refine pu_ HT_ 10 (some 14) ?_
  refine pu_ HT_ 12 (some 16) ?_
  refine pu_ HT_ 13 (some 17) ?_
  refine pu_ HT_ 14 (some 18) ?_
  refine join_ (σ := Value × Nat) 1 #[true, true, true, true, true, true, true, true, true, true, true, true, true, true, true, true, true, true, false] (fun s_ => [(7, .int .u64 t166), (11, .int .u64 t169), (15, s_.1), (19, .string t177), (3, .pointer (some ⟨s_.2, 0, none⟩)), (20, .agg #[.int .u64 t166, .int .u64 t169, s_.1, .string t177])]) (fun s_ w' => (Kd.R (Kd.int .i64) 3 w' w.heap.size (fun _ => True) s_.1 t172) ∧ (w'.heap[gb165]? = some (.cells #[.int .u64 0, .int .u64 0, .slice none 0 0, .string (⟨#[]⟩ : ByteArray)] 35 (0, 0))) ∧ (w'.heap[s_.2]? = some (.cells #[.int .u64 0, .int .u64 0, .slice none 0 0, .string (⟨#[]⟩ : ByteArray)] 35 (0, 0))) ∧ (w.heap.size ≤ s_.2) ∧ (w0.heap.size ≤ s_.2) ∧ (g ≠ s_.2) ∧ (s_.2 ≠ g) ∧ (gb165 ≠ s_.2) ∧ (s_.2 ≠ gb165) ∧ (IsS87 w0 w' g t178 true) ∧ (KeepBut w w' g none) ∧ (Below w0.heap.size w0 w')) ?_ ?_
  rotate_left
  ·intro hJ3_7_11_15_17
   refine join_ (σ := Value) 2 #[true, true, true, true, true, true, true, true, true, true, true, true, true, true, true, true, true, false, false] (fun s_ => [(7, .int .u64 t166), (11, .int .u64 t169), (15, s_), (19, .string t177), (20, .agg #[.int .u64 t166, .int .u64 t169, s_, .string t177])]) (fun s_ w' => (Kd.R (Kd.int .i64) 3 w' w.heap.size (fun _ => True) s_ t172) ∧ (w'.heap[gb165]? = some (.cells #[.int .u64 0, .int .u64 0, .slice none 0 0, .string (⟨#[]⟩ : ByteArray)] 35 (0, 0))) ∧ (IsS87 w0 w' g t178 true) ∧ (KeepBut w w' g none) ∧ (Below w0.heap.size w0 w')) ?_ ?_
   rotate_left
   ·intro hJ3_7_11_15
    refine join_ (σ := Value × Nat) 3 #[true, true, true, true, true, true, true, true, true, true, true, true, true, true, true, false, false, true, false] (fun s_ => [(7, .int .u64 t166), (11, .int .u64 t169), (15, s_.1), (3, .pointer (some ⟨s_.2, 0, none⟩))]) (fun s_ w' => (Kd.R (Kd.int .i64) 3 w' w.heap.size (fun _ => True) s_.1 t172) ∧ (w'.heap[gb165]? = some (.cells #[.int .u64 0, .int .u64 0, .slice none 0 0, .string (⟨#[]⟩ : ByteArray)] 35 (0, 0))) ∧ (w'.heap[s_.2]? = some (.cells #[.int .u64 0, .int .u64 0, .slice none 0 0, .string (⟨#[]⟩ : ByteArray)] 35 (0, 0))) ∧ (w.heap.size ≤ s_.2) ∧ (w0.heap.size ≤ s_.2) ∧ (g ≠ s_.2) ∧ (s_.2 ≠ g) ∧ (gb165 ≠ s_.2) ∧ (s_.2 ≠ gb165) ∧ (IsS87 w0 w' g t175 t176) ∧ (KeepBut w w' g none) ∧ (Below w0.heap.size w0 w')) ?_ ?_
    rotate_left
    ·intro hJ3_7_11_17
     refine join_ (σ := Value) 4 #[true, true, true, true, true, true, true, true, true, true, true, true, true, true, true, false, false, false, false] (fun s_ => [(7, .int .u64 t166), (11, .int .u64 t169), (15, s_)]) (fun s_ w' => (Kd.R (Kd.int .i64) 3 w' w.heap.size (fun _ => True) s_ t172) ∧ (w'.heap[gb165]? = some (.cells #[.int .u64 0, .int .u64 0, .slice none 0 0, .string (⟨#[]⟩ : ByteArray)] 35 (0, 0))) ∧ (IsS87 w0 w' g t175 t176) ∧ (KeepBut w w' g none) ∧ (Below w0.heap.size w0 w')) ?_ ?_
     rotate_left
     ·intro hJ3_7_11
      refine join_ (σ := Nat) 4 #[true, true, true, true, true, true, true, true, true, true, true, false, true, true, true, false, false, true, false] (fun s_ => [(7, .int .u64 t166), (11, .int .u64 t169), (3, .pointer (some ⟨s_, 0, none⟩))]) (fun s_ w' => (w'.heap[gb165]? = some (.cells #[.int .u64 0, .int .u64 0, .slice none 0 0, .string (⟨#[]⟩ : ByteArray)] 35 (0, 0))) ∧ (w'.heap[s_]? = some (.cells #[.int .u64 0, .int .u64 0, .slice none 0 0, .string (⟨#[]⟩ : ByteArray)] 35 (0, 0))) ∧ (w.heap.size ≤ s_) ∧ (w0.heap.size ≤ s_) ∧ (g ≠ s_) ∧ (s_ ≠ g) ∧ (gb165 ≠ s_) ∧ (s_ ≠ gb165) ∧ (IsS87 w0 w' g t170 t171) ∧ (KeepBut w w' g none) ∧ (Below w0.heap.size w0 w')) ?_ ?_
      rotate_left
      ·intro hJ3_7_17
       refine join_ (σ := Unit) 5 #[true, true, true, true, true, true, true, true, true, true, true, false, true, true, true, false, false, false, false] (fun s_ => [(7, .int .u64 t166), (11, .int .u64 t169)]) (fun s_ w' => (w'.heap[gb165]? = some (.cells #[.int .u64 0, .int .u64 0, .slice none 0 0, .string (⟨#[]⟩ : ByteArray)] 35 (0, 0))) ∧ (IsS87 w0 w' g t170 t171) ∧ (KeepBut w w' g none) ∧ (Below w0.heap.size w0 w')) ?_ ?_
       rotate_left
       ·intro hJ3_7
        refine join_ (σ := Nat) 5 #[true, true, true, true, true, true, true, false, true, true, true, false, true, true, true, false, false, true, false] (fun s_ => [(7, .int .u64 t166), (3, .pointer (some ⟨s_, 0, none⟩))]) (fun s_ w' => (w'.heap[gb165]? = some (.cells #[.int .u64 0, .int .u64 0, .slice none 0 0, .string (⟨#[]⟩ : ByteArray)] 35 (0, 0))) ∧ (w'.heap[s_]? = some (.cells #[.int .u64 0, .int .u64 0, .slice none 0 0, .string (⟨#[]⟩ : ByteArray)] 35 (0, 0))) ∧ (w.heap.size ≤ s_) ∧ (w0.heap.size ≤ s_) ∧ (g ≠ s_) ∧ (s_ ≠ g) ∧ (gb165 ≠ s_) ∧ (s_ ≠ gb165) ∧ (IsS87 w0 w' g t167 t168) ∧ (KeepBut w w' g none) ∧ (Below w0.heap.size w0 w')) ?_ ?_
        rotate_left
        ·intro hJ3_17
         refine join_ (σ := Unit) 6 #[true, true, true, true, true, true, true, false, true, true, true, false, true, true, true, false, false, false, false] (fun s_ => [(7, .int .u64 t166)]) (fun s_ w' => (w'.heap[gb165]? = some (.cells #[.int .u64 0, .int .u64 0, .slice none 0 0, .string (⟨#[]⟩ : ByteArray)] 35 (0, 0))) ∧ (IsS87 w0 w' g t167 t168) ∧ (KeepBut w w' g none) ∧ (Below w0.heap.size w0 w')) ?_ ?_
         rotate_left
         ·intro hJ3
          refine join_ (σ := Nat) 6 #[true, true, true, false, true, true, true, false, true, true, true, false, true, true, true, false, false, true, false] (fun s_ => [(3, .pointer (some ⟨s_, 0, none⟩))]) (fun s_ w' => (w'.heap[gb165]? = some (.cells #[.int .u64 0, .int .u64 0, .slice none 0 0, .string (⟨#[]⟩ : ByteArray)] 35 (0, 0))) ∧ (w'.heap[s_]? = some (.cells #[.int .u64 0, .int .u64 0, .slice none 0 0, .string (⟨#[]⟩ : ByteArray)] 35 (0, 0))) ∧ (w.heap.size ≤ s_) ∧ (w0.heap.size ≤ s_) ∧ (g ≠ s_) ∧ (s_ ≠ g) ∧ (gb165 ≠ s_) ∧ (s_ ≠ gb165) ∧ (IsS87 w0 w' g s0_0 s0_1) ∧ (KeepBut w w' g none) ∧ (Below w0.heap.size w0 w')) ?_ ?_
          rotate_left
          ·intro hJ17
           refine two_ (i := 3) (j := 17) (Ni := some 7) (Nj := some 3) #[true, true, true, true, true, true, true, false, true, true, true, false, true, true, true, false, false, false, false] #[true, true, true, false, true, true, true, false, true, true, true, false, true, true, true, false, false, true, false] rfl rfl rfl rfl (two_of HT_.out (by kernel_rfl)) (by decide) (by decide) (fun K hK => ?_) (fun K hK => ?_)
           ·skip
            refine goes_ Try.func53 (by kernel_rfl) rfl #[.pointer (some ⟨g, 0, none⟩)] (by rfl) rfl rfl (ar_) ?_
            with_reducible refine (wal_Taker_Number.calls k g s0_0 s0_1 t166 t167 t168 w0 _ ?side1 ?side2 A2.out).mono ?_
            (case side1 => repeat (first | (with_reducible first | exact HI0.out | apply IsS87.alloc | apply IsS87.drewN | apply IsS87.drew | apply IsS87.set_0 | apply IsS87.set_1 | apply IsS87.far (hne := NB0_165.out)) | exact HI0.out))
            (case side2 => repeat (first | (with_reducible first | exact HB.out | apply below_alloc | apply pw_below_drewN | apply below_drew1 | refine below_set ?_ (IsS87.ge HI0.out) | refine below_set ?_ GE165.out) | exact HB.out))
            rintro e w9 ⟨rfl, hi, hb, hk⟩
            refine ⟨_, rfl, ?_⟩
            have n0_ := a_ (KeepBut.blk hk (g' := gb165) (o := .cells #[.int .u64 0, .int .u64 0, .slice none 0 0, .string (⟨#[]⟩ : ByteArray)] 35 (0, 0)) (bk_ BK165) NB165_0.out (by simp))
            have n1_ := a_ (KeepBut.trans (by repeat (first | (with_reducible first | exact HK.out | apply KeepBut.set_ | apply keep_drewN | apply keep_drew | apply keep_alloc | refine keep_far ?_ GW165.out _) | exact HK.out)) hk (.inl rfl))
            have n2_ := a_ (hb)
            have n3_ := a_ (hi)
            clear BK165
            clear HK
            clear HB
            clear HI0
            have BK165 := n0_
            have HK := n1_
            have HB := n2_
            have HI0 := n3_
            clear n0_ n1_ n2_ n3_
            (try clear hb)
            (try clear hb2)
            (try clear hk)
            (try clear hi)
            refine hK.out _ _ trivial (fun hHeld => ?_)
            clear hK K
            refine norm_ (a' := ?_) ?_ ?_
            rotate_left
            ·show Act.put _ (some 7) _ = _
             simp only [Act.put, List.setIfInBounds_toArray, List.set_cons_zero, List.set_cons_succ, i64_w, i32_w]
             rfl
            exact norm_ (by first | (simp only [putAll, Act.put, List.setIfInBounds_toArray, List.set_cons_zero, List.set_cons_succ]; done) | (simp only [putAll, Act.put, List.setIfInBounds_toArray, List.set_cons_zero, List.set_cons_succ]; rfl)) (hJ3 () _ ⟨(bk_ BK165), (by repeat (first | (with_reducible first | exact HI0.out | apply IsS87.alloc | apply IsS87.drewN | apply IsS87.drew | apply IsS87.set_0 | apply IsS87.set_1 | apply IsS87.far (hne := NB0_165.out)) | exact HI0.out)), (by repeat (first | (with_reducible first | exact HK.out | apply KeepBut.set_ | apply keep_drewN | apply keep_drew | apply keep_alloc | refine keep_far ?_ GW165.out _) | exact HK.out)), (by repeat (first | (with_reducible first | exact HB.out | apply below_alloc | apply pw_below_drewN | apply below_drew1 | refine below_set ?_ (IsS87.ge HI0.out) | refine below_set ?_ GE165.out) | exact HB.out))⟩)
           ·skip
            refine box_step ?hg (N := 3) ?hd (cs := #[.int .u64 0, .int .u64 0, .slice none 0 0, .string (⟨#[]⟩ : ByteArray)]) (t := 35) ?hr ?_; (case hd => rfl); (case hg => rfl); (case hr => first | (go_simp; done) | (go_simp; rfl))
            intro gb180 hg w9 hbox hb
            have n0_ := a_ (IsS87.below (by repeat (first | (with_reducible first | exact HI0.out | apply IsS87.alloc | apply IsS87.drewN | apply IsS87.drew | apply IsS87.set_0 | apply IsS87.set_1 | apply IsS87.far (hne := NB0_165.out)) | exact HI0.out)) hb)
            have n1_ := bB_ BK165 hb
            have n2_ := a_ (KeepBut.trans (by repeat (first | (with_reducible first | exact HK.out | apply KeepBut.set_ | apply keep_drewN | apply keep_drew | apply keep_alloc | refine keep_far ?_ GW165.out _) | exact HK.out)) (KeepBut.of_below hb g none) (.inl rfl))
            have n3_ := a_ (below_step (by repeat (first | (with_reducible first | exact HB.out | apply below_alloc | apply pw_below_drewN | apply below_drew1 | refine below_set ?_ (IsS87.ge HI0.out) | refine below_set ?_ GE165.out) | exact HB.out)) hb)
            have n4_ := a_ (hbox)
            have n5_ := a_ ((by rw [hg]; exact (keep_size (w := w) (g := g) (row := none) (by repeat (first | (with_reducible first | exact HK.out | apply KeepBut.set_ | apply keep_drewN | apply keep_drew | apply keep_alloc | refine keep_far ?_ GW165.out _) | exact HK.out))) : w.heap.size ≤ gb180))
            have n6_ := a_ ((Nat.le_trans HW0.out (by rw [hg]; exact (keep_size (w := w) (g := g) (row := none) (by repeat (first | (with_reducible first | exact HK.out | apply KeepBut.set_ | apply keep_drewN | apply keep_drew | apply keep_alloc | refine keep_far ?_ GW165.out _) | exact HK.out))) : w.heap.size ≤ gb180) : w0.heap.size ≤ gb180))
            have n7_ := nB_ hg BK165
            have n8_ := nC_ hg BK165
            have n9_ := a_ ((by rw [hg]; exact Nat.ne_of_lt (IsS87.lt (show IsS87 w0 _ g s0_0 s0_1 from by repeat (first | (with_reducible first | exact HI0.out | apply IsS87.alloc | apply IsS87.drewN | apply IsS87.drew | apply IsS87.set_0 | apply IsS87.set_1 | apply IsS87.far (hne := NB0_165.out)) | exact HI0.out))) : g ≠ gb180))
            have n10_ := a_ ((by rw [hg]; exact Nat.ne_of_gt (IsS87.lt (show IsS87 w0 _ g s0_0 s0_1 from by repeat (first | (with_reducible first | exact HI0.out | apply IsS87.alloc | apply IsS87.drewN | apply IsS87.drew | apply IsS87.set_0 | apply IsS87.set_1 | apply IsS87.far (hne := NB0_165.out)) | exact HI0.out))) : gb180 ≠ g))
            clear HI0
            clear BK165
            clear HK
            clear HB
            have HI0 := n0_
            have BK165 := n1_
            have HK := n2_
            have HB := n3_
            have BK180 := n4_
            have GW180 := n5_
            have GE180 := n6_
            have NB165_180 := n7_
            have NB180_165 := n8_
            have NB0_180 := n9_
            have NB180_0 := n10_
            clear n0_ n1_ n2_ n3_ n4_ n5_ n6_ n7_ n8_ n9_ n10_
            clear hb hbox hg
            refine hK.out _ _ trivial (fun hHeld => ?_)
            clear hK K
            refine norm_ (a' := ?_) ?_ ?_
            rotate_left
            ·show Act.put _ (some 3) _ = _
             simp only [Act.put, List.setIfInBounds_toArray, List.set_cons_zero, List.set_cons_succ, i64_w, i32_w]
             rfl
            exact norm_ (by first | (simp only [putAll, Act.put, List.setIfInBounds_toArray, List.set_cons_zero, List.set_cons_succ]; done) | (simp only [putAll, Act.put, List.setIfInBounds_toArray, List.set_cons_zero, List.set_cons_succ]; rfl)) (hJ17 (gb180) _ ⟨(bk_ BK165), (bk_ BK180), GW180.out, GE180.out, NB0_180.out, NB180_0.out, NB165_180.out, NB180_165.out, (by repeat (first | (with_reducible first | exact HI0.out | apply IsS87.alloc | apply IsS87.drewN | apply IsS87.drew | apply IsS87.set_0 | apply IsS87.set_1 | apply IsS87.far (hne := NB0_165.out) | apply IsS87.far (hne := NB0_180.out)) | exact HI0.out)), (by repeat (first | (with_reducible first | exact HK.out | apply KeepBut.set_ | apply keep_drewN | apply keep_drew | apply keep_alloc | refine keep_far ?_ GW165.out _ | refine keep_far ?_ GW180.out _) | exact HK.out)), (by repeat (first | (with_reducible first | exact HB.out | apply below_alloc | apply pw_below_drewN | apply below_drew1 | refine below_set ?_ (IsS87.ge HI0.out) | refine below_set ?_ GE165.out | refine below_set ?_ GE180.out) | exact HB.out))⟩)
          ·skip
           rintro gb180 w10 ⟨h0_, h1_, h2_, h3_, h4_, h5_, h6_, h7_, h8_, h9_, h10_⟩
           have n0_ : Aside0 (w10.heap[gb165]? = some (.cells #[.int .u64 0, .int .u64 0, .slice none 0 0, .string (⟨#[]⟩ : ByteArray)] 35 (0, 0))) := ⟨h0_⟩
           have n1_ : Aside0 (w10.heap[gb180]? = some (.cells #[.int .u64 0, .int .u64 0, .slice none 0 0, .string (⟨#[]⟩ : ByteArray)] 35 (0, 0))) := ⟨h1_⟩
           have n2_ : Aside0 (w.heap.size ≤ gb180) := ⟨h2_⟩
           have n3_ : Aside0 (w0.heap.size ≤ gb180) := ⟨h3_⟩
           have n4_ : Aside0 (g ≠ gb180) := ⟨h4_⟩
           have n5_ : Aside0 (gb180 ≠ g) := ⟨h5_⟩
           have n6_ : Aside0 (gb165 ≠ gb180) := ⟨h6_⟩
           have n7_ : Aside0 (gb180 ≠ gb165) := ⟨h7_⟩
           have n8_ : Aside0 (IsS87 w0 w10 g s0_0 s0_1) := ⟨h8_⟩
           have n9_ : Aside0 (KeepBut w w10 g none) := ⟨h9_⟩
           have n10_ : Aside0 (Below w0.heap.size w0 w10) := ⟨h10_⟩
           clear BK165
           clear HI0
           clear HK
           clear HB
           clear h0_ h1_ h2_ h3_ h4_ h5_ h6_ h7_ h8_ h9_ h10_
           have BK165 := n0_
           have BK180 := n1_
           have GW180 := n2_
           have GE180 := n3_
           have NB0_180 := n4_
           have NB180_0 := n5_
           have NB165_180 := n6_
           have NB180_165 := n7_
           have HI0 := n8_
           have HK := n9_
           have HB := n10_
           clear n0_ n1_ n2_ n3_ n4_ n5_ n6_ n7_ n8_ n9_ n10_
           have hHeld := trivial
           refine norm_ (a' := ?_) ?_ ?_
           rotate_left
           ·simp only [putAll, Act.put, List.setIfInBounds_toArray, List.set_cons_zero, List.set_cons_succ]
            rfl
           refine one_ (i := 3) (N := some 7) #[true, true, true, true, true, true, true, false, true, true, true, false, true, true, true, false, false, true, false] rfl rfl (one_of HT_.out (by kernel_rfl)) (by decide) (fun K hK => ?_)
           refine goes_ Try.func53 (by kernel_rfl) rfl #[.pointer (some ⟨g, 0, none⟩)] (by rfl) rfl rfl (ar_) ?_
           with_reducible refine (wal_Taker_Number.calls k g s0_0 s0_1 t166 t167 t168 w0 _ ?side1 ?side2 A2.out).mono ?_
           (case side1 => repeat (first | (with_reducible first | exact HI0.out | apply IsS87.alloc | apply IsS87.drewN | apply IsS87.drew | apply IsS87.set_0 | apply IsS87.set_1 | apply IsS87.far (hne := NB0_165.out) | apply IsS87.far (hne := NB0_180.out)) | exact HI0.out))
           (case side2 => repeat (first | (with_reducible first | exact HB.out | apply below_alloc | apply pw_below_drewN | apply below_drew1 | refine below_set ?_ (IsS87.ge HI0.out) | refine below_set ?_ GE165.out | refine below_set ?_ GE180.out) | exact HB.out))
           rintro e w11 ⟨rfl, hi, hb, hk⟩
           refine ⟨_, rfl, ?_⟩
           have n0_ := a_ (KeepBut.blk hk (g' := gb165) (o := .cells #[.int .u64 0, .int .u64 0, .slice none 0 0, .string (⟨#[]⟩ : ByteArray)] 35 (0, 0)) (bk_ BK165) NB165_0.out (by simp))
           have n1_ := a_ (KeepBut.blk hk (g' := gb180) (o := .cells #[.int .u64 0, .int .u64 0, .slice none 0 0, .string (⟨#[]⟩ : ByteArray)] 35 (0, 0)) (bk_ BK180) NB180_0.out (by simp))
           have n2_ := a_ (KeepBut.trans (by repeat (first | (with_reducible first | exact HK.out | apply KeepBut.set_ | apply keep_drewN | apply keep_drew | apply keep_alloc | refine keep_far ?_ GW165.out _ | refine keep_far ?_ GW180.out _) | exact HK.out)) hk (.inl rfl))
           have n3_ := a_ (hb)
           have n4_ := a_ (hi)
           clear BK165
           clear BK180
           clear HK
           clear HB
           clear HI0
           have BK165 := n0_
           have BK180 := n1_
           have HK := n2_
           have HB := n3_
           have HI0 := n4_
           clear n0_ n1_ n2_ n3_ n4_
           (try clear hb)
           (try clear hb2)
           (try clear hk)
           (try clear hi)
           refine hK.out _ _ trivial (fun hHeld => ?_)
           clear hK K
           refine norm_ (a' := ?_) ?_ ?_
           rotate_left
           ·show Act.put _ (some 7) _ = _
            simp only [Act.put, List.setIfInBounds_toArray, List.set_cons_zero, List.set_cons_succ, i64_w, i32_w]
            rfl
           exact norm_ (by first | (simp only [putAll, Act.put, List.setIfInBounds_toArray, List.set_cons_zero, List.set_cons_succ]; done) | (simp only [putAll, Act.put, List.setIfInBounds_toArray, List.set_cons_zero, List.set_cons_succ]; rfl)) (hJ3_17 (gb180) _ ⟨(bk_ BK165), (bk_ BK180), GW180.out, GE180.out, NB0_180.out, NB180_0.out, NB165_180.out, NB180_165.out, (by repeat (first | (with_reducible first | exact HI0.out | apply IsS87.alloc | apply IsS87.drewN | apply IsS87.drew | apply IsS87.set_0 | apply IsS87.set_1 | apply IsS87.far (hne := NB0_165.out) | apply IsS87.far (hne := NB0_180.out)) | exact HI0.out)), (by repeat (first | (with_reducible first | exact HK.out | apply KeepBut.set_ | apply keep_drewN | apply keep_drew | apply keep_alloc | refine keep_far ?_ GW165.out _ | refine keep_far ?_ GW180.out _) | exact HK.out)), (by repeat (first | (with_reducible first | exact HB.out | apply below_alloc | apply pw_below_drewN | apply below_drew1 | refine below_set ?_ (IsS87.ge HI0.out) | refine below_set ?_ GE165.out | refine below_set ?_ GE180.out) | exact HB.out))⟩)
         ·skip
          rintro _ w10 ⟨h0_, h1_, h2_, h3_⟩
          have n0_ : Aside0 (w10.heap[gb165]? = some (.cells #[.int .u64 0, .int .u64 0, .slice none 0 0, .string (⟨#[]⟩ : ByteArray)] 35 (0, 0))) := ⟨h0_⟩
          have n1_ : Aside0 (IsS87 w0 w10 g t167 t168) := ⟨h1_⟩
          have n2_ : Aside0 (KeepBut w w10 g none) := ⟨h2_⟩
          have n3_ : Aside0 (Below w0.heap.size w0 w10) := ⟨h3_⟩
          clear BK165
          clear HI0
          clear HK
          clear HB
          clear h0_ h1_ h2_ h3_
          have BK165 := n0_
          have HI0 := n1_
          have HK := n2_
          have HB := n3_
          clear n0_ n1_ n2_ n3_
          have hHeld := trivial
          refine norm_ (a' := ?_) ?_ ?_
          rotate_left
          ·simp only [putAll, Act.put, List.setIfInBounds_toArray, List.set_cons_zero, List.set_cons_succ]
           rfl
          refine two_ (i := 7) (j := 17) (Ni := some 11) (Nj := some 3) #[true, true, true, true, true, true, true, true, true, true, true, false, true, true, true, false, false, false, false] #[true, true, true, true, true, true, true, false, true, true, true, false, true, true, true, false, false, true, false] rfl rfl rfl rfl (two_of HT_.out (by kernel_rfl)) (by decide) (by decide) (fun K hK => ?_) (fun K hK => ?_)
          ·skip
           refine goes_ Try.func53 (by kernel_rfl) rfl #[.pointer (some ⟨g, 0, none⟩)] (by rfl) rfl rfl (ar_) ?_
           with_reducible refine (wal_Taker_Number.calls k g t167 t168 t169 t170 t171 w0 _ ?side1 ?side2 A3.out).mono ?_
           (case side1 => repeat (first | (with_reducible first | exact HI0.out | apply IsS87.alloc | apply IsS87.drewN | apply IsS87.drew | apply IsS87.set_0 | apply IsS87.set_1 | apply IsS87.far (hne := NB0_165.out)) | exact HI0.out))
           (case side2 => repeat (first | (with_reducible first | exact HB.out | apply below_alloc | apply pw_below_drewN | apply below_drew1 | refine below_set ?_ (IsS87.ge HI0.out) | refine below_set ?_ GE165.out) | exact HB.out))
           rintro e w11 ⟨rfl, hi, hb, hk⟩
           refine ⟨_, rfl, ?_⟩
           have n0_ := a_ (KeepBut.blk hk (g' := gb165) (o := .cells #[.int .u64 0, .int .u64 0, .slice none 0 0, .string (⟨#[]⟩ : ByteArray)] 35 (0, 0)) (bk_ BK165) NB165_0.out (by simp))
           have n1_ := a_ (KeepBut.trans (by repeat (first | (with_reducible first | exact HK.out | apply KeepBut.set_ | apply keep_drewN | apply keep_drew | apply keep_alloc | refine keep_far ?_ GW165.out _) | exact HK.out)) hk (.inl rfl))
           have n2_ := a_ (hb)
           have n3_ := a_ (hi)
           clear BK165
           clear HK
           clear HB
           clear HI0
           have BK165 := n0_
           have HK := n1_
           have HB := n2_
           have HI0 := n3_
           clear n0_ n1_ n2_ n3_
           (try clear hb)
           (try clear hb2)
           (try clear hk)
           (try clear hi)
           refine hK.out _ _ trivial (fun hHeld => ?_)
           clear hK K
           refine norm_ (a' := ?_) ?_ ?_
           rotate_left
           ·show Act.put _ (some 11) _ = _
            simp only [Act.put, List.setIfInBounds_toArray, List.set_cons_zero, List.set_cons_succ, i64_w, i32_w]
            rfl
           exact norm_ (by first | (simp only [putAll, Act.put, List.setIfInBounds_toArray, List.set_cons_zero, List.set_cons_succ]; done) | (simp only [putAll, Act.put, List.setIfInBounds_toArray, List.set_cons_zero, List.set_cons_succ]; rfl)) (hJ3_7 () _ ⟨(bk_ BK165), (by repeat (first | (with_reducible first | exact HI0.out | apply IsS87.alloc | apply IsS87.drewN | apply IsS87.drew | apply IsS87.set_0 | apply IsS87.set_1 | apply IsS87.far (hne := NB0_165.out)) | exact HI0.out)), (by repeat (first | (with_reducible first | exact HK.out | apply KeepBut.set_ | apply keep_drewN | apply keep_drew | apply keep_alloc | refine keep_far ?_ GW165.out _) | exact HK.out)), (by repeat (first | (with_reducible first | exact HB.out | apply below_alloc | apply pw_below_drewN | apply below_drew1 | refine below_set ?_ (IsS87.ge HI0.out) | refine below_set ?_ GE165.out) | exact HB.out))⟩)
          ·skip
           refine box_step ?hg (N := 3) ?hd (cs := #[.int .u64 0, .int .u64 0, .slice none 0 0, .string (⟨#[]⟩ : ByteArray)]) (t := 35) ?hr ?_; (case hd => rfl); (case hg => rfl); (case hr => first | (go_simp; done) | (go_simp; rfl))
           intro gb180 hg w11 hbox hb
           have n0_ := a_ (IsS87.below (by repeat (first | (with_reducible first | exact HI0.out | apply IsS87.alloc | apply IsS87.drewN | apply IsS87.drew | apply IsS87.set_0 | apply IsS87.set_1 | apply IsS87.far (hne := NB0_165.out)) | exact HI0.out)) hb)
           have n1_ := bB_ BK165 hb
           have n2_ := a_ (KeepBut.trans (by repeat (first | (with_reducible first | exact HK.out | apply KeepBut.set_ | apply keep_drewN | apply keep_drew | apply keep_alloc | refine keep_far ?_ GW165.out _) | exact HK.out)) (KeepBut.of_below hb g none) (.inl rfl))
           have n3_ := a_ (below_step (by repeat (first | (with_reducible first | exact HB.out | apply below_alloc | apply pw_below_drewN | apply below_drew1 | refine below_set ?_ (IsS87.ge HI0.out) | refine below_set ?_ GE165.out) | exact HB.out)) hb)
           have n4_ := a_ (hbox)
           have n5_ := a_ ((by rw [hg]; exact (keep_size (w := w) (g := g) (row := none) (by repeat (first | (with_reducible first | exact HK.out | apply KeepBut.set_ | apply keep_drewN | apply keep_drew | apply keep_alloc | refine keep_far ?_ GW165.out _) | exact HK.out))) : w.heap.size ≤ gb180))
           have n6_ := a_ ((Nat.le_trans HW0.out (by rw [hg]; exact (keep_size (w := w) (g := g) (row := none) (by repeat (first | (with_reducible first | exact HK.out | apply KeepBut.set_ | apply keep_drewN | apply keep_drew | apply keep_alloc | refine keep_far ?_ GW165.out _) | exact HK.out))) : w.heap.size ≤ gb180) : w0.heap.size ≤ gb180))
           have n7_ := nB_ hg BK165
           have n8_ := nC_ hg BK165
           have n9_ := a_ ((by rw [hg]; exact Nat.ne_of_lt (IsS87.lt (show IsS87 w0 _ g t167 t168 from by repeat (first | (with_reducible first | exact HI0.out | apply IsS87.alloc | apply IsS87.drewN | apply IsS87.drew | apply IsS87.set_0 | apply IsS87.set_1 | apply IsS87.far (hne := NB0_165.out)) | exact HI0.out))) : g ≠ gb180))
           have n10_ := a_ ((by rw [hg]; exact Nat.ne_of_gt (IsS87.lt (show IsS87 w0 _ g t167 t168 from by repeat (first | (with_reducible first | exact HI0.out | apply IsS87.alloc | apply IsS87.drewN | apply IsS87.drew | apply IsS87.set_0 | apply IsS87.set_1 | apply IsS87.far (hne := NB0_165.out)) | exact HI0.out))) : gb180 ≠ g))
           clear HI0
           clear BK165
           clear HK
           clear HB
           have HI0 := n0_
           have BK165 := n1_
           have HK := n2_
           have HB := n3_
           have BK180 := n4_
           have GW180 := n5_
           have GE180 := n6_
           have NB165_180 := n7_
           have NB180_165 := n8_
           have NB0_180 := n9_
           have NB180_0 := n10_
           clear n0_ n1_ n2_ n3_ n4_ n5_ n6_ n7_ n8_ n9_ n10_
           clear hb hbox hg
           refine hK.out _ _ trivial (fun hHeld => ?_)
           clear hK K
           refine norm_ (a' := ?_) ?_ ?_
           rotate_left
           ·show Act.put _ (some 3) _ = _
            simp only [Act.put, List.setIfInBounds_toArray, List.set_cons_zero, List.set_cons_succ, i64_w, i32_w]
            rfl
           exact norm_ (by first | (simp only [putAll, Act.put, List.setIfInBounds_toArray, List.set_cons_zero, List.set_cons_succ]; done) | (simp only [putAll, Act.put, List.setIfInBounds_toArray, List.set_cons_zero, List.set_cons_succ]; rfl)) (hJ3_17 (gb180) _ ⟨(bk_ BK165), (bk_ BK180), GW180.out, GE180.out, NB0_180.out, NB180_0.out, NB165_180.out, NB180_165.out, (by repeat (first | (with_reducible first | exact HI0.out | apply IsS87.alloc | apply IsS87.drewN | apply IsS87.drew | apply IsS87.set_0 | apply IsS87.set_1 | apply IsS87.far (hne := NB0_165.out) | apply IsS87.far (hne := NB0_180.out)) | exact HI0.out)), (by repeat (first | (with_reducible first | exact HK.out | apply KeepBut.set_ | apply keep_drewN | apply keep_drew | apply keep_alloc | refine keep_far ?_ GW165.out _ | refine keep_far ?_ GW180.out _) | exact HK.out)), (by repeat (first | (with_reducible first | exact HB.out | apply below_alloc | apply pw_below_drewN | apply below_drew1 | refine below_set ?_ (IsS87.ge HI0.out) | refine below_set ?_ GE165.out | refine below_set ?_ GE180.out) | exact HB.out))⟩)
        ·skip
         rintro gb180 w11 ⟨h0_, h1_, h2_, h3_, h4_, h5_, h6_, h7_, h8_, h9_, h10_⟩
         have n0_ : Aside0 (w11.heap[gb165]? = some (.cells #[.int .u64 0, .int .u64 0, .slice none 0 0, .string (⟨#[]⟩ : ByteArray)] 35 (0, 0))) := ⟨h0_⟩
         have n1_ : Aside0 (w11.heap[gb180]? = some (.cells #[.int .u64 0, .int .u64 0, .slice none 0 0, .string (⟨#[]⟩ : ByteArray)] 35 (0, 0))) := ⟨h1_⟩
         have n2_ : Aside0 (w.heap.size ≤ gb180) := ⟨h2_⟩
         have n3_ : Aside0 (w0.heap.size ≤ gb180) := ⟨h3_⟩
         have n4_ : Aside0 (g ≠ gb180) := ⟨h4_⟩
         have n5_ : Aside0 (gb180 ≠ g) := ⟨h5_⟩
         have n6_ : Aside0 (gb165 ≠ gb180) := ⟨h6_⟩
         have n7_ : Aside0 (gb180 ≠ gb165) := ⟨h7_⟩
         have n8_ : Aside0 (IsS87 w0 w11 g t167 t168) := ⟨h8_⟩
         have n9_ : Aside0 (KeepBut w w11 g none) := ⟨h9_⟩
         have n10_ : Aside0 (Below w0.heap.size w0 w11) := ⟨h10_⟩
         clear BK165
         clear HI0
         clear HK
         clear HB
         clear h0_ h1_ h2_ h3_ h4_ h5_ h6_ h7_ h8_ h9_ h10_
         have BK165 := n0_
         have BK180 := n1_
         have GW180 := n2_
         have GE180 := n3_
         have NB0_180 := n4_
         have NB180_0 := n5_
         have NB165_180 := n6_
         have NB180_165 := n7_
         have HI0 := n8_
         have HK := n9_
         have HB := n10_
         clear n0_ n1_ n2_ n3_ n4_ n5_ n6_ n7_ n8_ n9_ n10_
         have hHeld := trivial
         refine norm_ (a' := ?_) ?_ ?_
         rotate_left
         ·simp only [putAll, Act.put, List.setIfInBounds_toArray, List.set_cons_zero, List.set_cons_succ]
          rfl
         refine one_ (i := 7) (N := some 11) #[true, true, true, true, true, true, true, true, true, true, true, false, true, true, true, false, false, true, false] rfl rfl (one_of HT_.out (by kernel_rfl)) (by decide) (fun K hK => ?_)
         refine goes_ Try.func53 (by kernel_rfl) rfl #[.pointer (some ⟨g, 0, none⟩)] (by rfl) rfl rfl (ar_) ?_
         with_reducible refine (wal_Taker_Number.calls k g t167 t168 t169 t170 t171 w0 _ ?side1 ?side2 A3.out).mono ?_
         (case side1 => repeat (first | (with_reducible first | exact HI0.out | apply IsS87.alloc | apply IsS87.drewN | apply IsS87.drew | apply IsS87.set_0 | apply IsS87.set_1 | apply IsS87.far (hne := NB0_165.out) | apply IsS87.far (hne := NB0_180.out)) | exact HI0.out))
         (case side2 => repeat (first | (with_reducible first | exact HB.out | apply below_alloc | apply pw_below_drewN | apply below_drew1 | refine below_set ?_ (IsS87.ge HI0.out) | refine below_set ?_ GE165.out | refine below_set ?_ GE180.out) | exact HB.out))
         rintro e w12 ⟨rfl, hi, hb, hk⟩
         refine ⟨_, rfl, ?_⟩
         have n0_ := a_ (KeepBut.blk hk (g' := gb165) (o := .cells #[.int .u64 0, .int .u64 0, .slice none 0 0, .string (⟨#[]⟩ : ByteArray)] 35 (0, 0)) (bk_ BK165) NB165_0.out (by simp))
         have n1_ := a_ (KeepBut.blk hk (g' := gb180) (o := .cells #[.int .u64 0, .int .u64 0, .slice none 0 0, .string (⟨#[]⟩ : ByteArray)] 35 (0, 0)) (bk_ BK180) NB180_0.out (by simp))
         have n2_ := a_ (KeepBut.trans (by repeat (first | (with_reducible first | exact HK.out | apply KeepBut.set_ | apply keep_drewN | apply keep_drew | apply keep_alloc | refine keep_far ?_ GW165.out _ | refine keep_far ?_ GW180.out _) | exact HK.out)) hk (.inl rfl))
         have n3_ := a_ (hb)
         have n4_ := a_ (hi)
         clear BK165
         clear BK180
         clear HK
         clear HB
         clear HI0
         have BK165 := n0_
         have BK180 := n1_
         have HK := n2_
         have HB := n3_
         have HI0 := n4_
         clear n0_ n1_ n2_ n3_ n4_
         (try clear hb)
         (try clear hb2)
         (try clear hk)
         (try clear hi)
         refine hK.out _ _ trivial (fun hHeld => ?_)
         clear hK K
         refine norm_ (a' := ?_) ?_ ?_
         rotate_left
         ·show Act.put _ (some 11) _ = _
          simp only [Act.put, List.setIfInBounds_toArray, List.set_cons_zero, List.set_cons_succ, i64_w, i32_w]
          rfl
         exact norm_ (by first | (simp only [putAll, Act.put, List.setIfInBounds_toArray, List.set_cons_zero, List.set_cons_succ]; done) | (simp only [putAll, Act.put, List.setIfInBounds_toArray, List.set_cons_zero, List.set_cons_succ]; rfl)) (hJ3_7_17 (gb180) _ ⟨(bk_ BK165), (bk_ BK180), GW180.out, GE180.out, NB0_180.out, NB180_0.out, NB165_180.out, NB180_165.out, (by repeat (first | (with_reducible first | exact HI0.out | apply IsS87.alloc | apply IsS87.drewN | apply IsS87.drew | apply IsS87.set_0 | apply IsS87.set_1 | apply IsS87.far (hne := NB0_165.out) | apply IsS87.far (hne := NB0_180.out)) | exact HI0.out)), (by repeat (first | (with_reducible first | exact HK.out | apply KeepBut.set_ | apply keep_drewN | apply keep_drew | apply keep_alloc | refine keep_far ?_ GW165.out _ | refine keep_far ?_ GW180.out _) | exact HK.out)), (by repeat (first | (with_reducible first | exact HB.out | apply below_alloc | apply pw_below_drewN | apply below_drew1 | refine below_set ?_ (IsS87.ge HI0.out) | refine below_set ?_ GE165.out | refine below_set ?_ GE180.out) | exact HB.out))⟩)
       ·skip
        rintro _ w11 ⟨h0_, h1_, h2_, h3_⟩
        have n0_ : Aside0 (w11.heap[gb165]? = some (.cells #[.int .u64 0, .int .u64 0, .slice none 0 0, .string (⟨#[]⟩ : ByteArray)] 35 (0, 0))) := ⟨h0_⟩
        have n1_ : Aside0 (IsS87 w0 w11 g t170 t171) := ⟨h1_⟩
        have n2_ : Aside0 (KeepBut w w11 g none) := ⟨h2_⟩
        have n3_ : Aside0 (Below w0.heap.size w0 w11) := ⟨h3_⟩
        clear BK165
        clear HI0
        clear HK
        clear HB
        clear h0_ h1_ h2_ h3_
        have BK165 := n0_
        have HI0 := n1_
        have HK := n2_
        have HB := n3_
        clear n0_ n1_ n2_ n3_
        have hHeld := trivial
        refine norm_ (a' := ?_) ?_ ?_
        rotate_left
        ·simp only [putAll, Act.put, List.setIfInBounds_toArray, List.set_cons_zero, List.set_cons_succ]
         rfl
        refine two_ (i := 11) (j := 17) (Ni := some 15) (Nj := some 3) #[true, true, true, true, true, true, true, true, true, true, true, true, true, true, true, false, false, false, false] #[true, true, true, true, true, true, true, true, true, true, true, false, true, true, true, false, false, true, false] rfl rfl rfl rfl (two_of HT_.out (by kernel_rfl)) (by decide) (by decide) (fun K hK => ?_) (fun K hK => ?_)
        ·skip
         refine goes_ Try.func88 (by kernel_rfl) rfl #[.pointer (some ⟨g, 0, none⟩)] (by rfl) rfl rfl (ar_) ?_
         with_reducible refine (wal_Taker_Ints.calls k g t170 t171 t172 t175 t176 w0 _ ?side1 ?side2 A4.out).mono ?_
         (case side1 => repeat (first | (with_reducible first | exact HI0.out | apply IsS87.alloc | apply IsS87.drewN | apply IsS87.drew | apply IsS87.set_0 | apply IsS87.set_1 | apply IsS87.far (hne := NB0_165.out)) | exact HI0.out))
         (case side2 => repeat (first | (with_reducible first | exact HB.out | apply below_alloc | apply pw_below_drewN | apply below_drew1 | refine below_set ?_ (IsS87.ge HI0.out) | refine below_set ?_ GE165.out) | exact HB.out))
         rintro e w12 ⟨v173, rfl, ho0, hi, hb, hk⟩
         refine ⟨_, rfl, ?_⟩
         have n0_ := a_ (KeepBut.blk hk (g' := gb165) (o := .cells #[.int .u64 0, .int .u64 0, .slice none 0 0, .string (⟨#[]⟩ : ByteArray)] 35 (0, 0)) (bk_ BK165) NB165_0.out (by simp))
         have n1_ := a_ (Kd.R_lower ho0 (keep_size (w := w) (g := g) (row := none) (by repeat (first | (with_reducible first | exact HK.out | apply KeepBut.set_ | apply keep_drewN | apply keep_drew | apply keep_alloc | refine keep_far ?_ GW165.out _) | exact HK.out))))
         have n2_ := a_ (KeepBut.trans (by repeat (first | (with_reducible first | exact HK.out | apply KeepBut.set_ | apply keep_drewN | apply keep_drew | apply keep_alloc | refine keep_far ?_ GW165.out _) | exact HK.out)) hk (.inl rfl))
         have n3_ := a_ (hb)
         have n4_ := a_ (hi)
         clear BK165
         clear HK
         clear HB
         clear HI0
         have BK165 := n0_
         have HO174 := n1_
         have HK := n2_
         have HB := n3_
         have HI0 := n4_
         clear n0_ n1_ n2_ n3_ n4_
         (try clear hb)
         (try clear hb2)
         (try clear hk)
         (try clear hi)
         (try clear ho0)
         refine hK.out _ _ trivial (fun hHeld => ?_)
         clear hK K
         refine norm_ (a' := ?_) ?_ ?_
         rotate_left
         ·show Act.put _ (some 15) _ = _
          simp only [Act.put, List.setIfInBounds_toArray, List.set_cons_zero, List.set_cons_succ, i64_w, i32_w]
          rfl
         exact norm_ (by first | (simp only [putAll, Act.put, List.setIfInBounds_toArray, List.set_cons_zero, List.set_cons_succ]; done) | (simp only [putAll, Act.put, List.setIfInBounds_toArray, List.set_cons_zero, List.set_cons_succ]; rfl)) (hJ3_7_11 (v173) _ ⟨(by refine rq_ ?_; exact HO174.out), (bk_ BK165), (by repeat (first | (with_reducible first | exact HI0.out | apply IsS87.alloc | apply IsS87.drewN | apply IsS87.drew | apply IsS87.set_0 | apply IsS87.set_1 | apply IsS87.far (hne := NB0_165.out)) | exact HI0.out)), (by repeat (first | (with_reducible first | exact HK.out | apply KeepBut.set_ | apply keep_drewN | apply keep_drew | apply keep_alloc | refine keep_far ?_ GW165.out _) | exact HK.out)), (by repeat (first | (with_reducible first | exact HB.out | apply below_alloc | apply pw_below_drewN | apply below_drew1 | refine below_set ?_ (IsS87.ge HI0.out) | refine below_set ?_ GE165.out) | exact HB.out))⟩)
        ·skip
         refine box_step ?hg (N := 3) ?hd (cs := #[.int .u64 0, .int .u64 0, .slice none 0 0, .string (⟨#[]⟩ : ByteArray)]) (t := 35) ?hr ?_; (case hd => rfl); (case hg => rfl); (case hr => first | (go_simp; done) | (go_simp; rfl))
         intro gb180 hg w12 hbox hb
         have n0_ := a_ (IsS87.below (by repeat (first | (with_reducible first | exact HI0.out | apply IsS87.alloc | apply IsS87.drewN | apply IsS87.drew | apply IsS87.set_0 | apply IsS87.set_1 | apply IsS87.far (hne := NB0_165.out)) | exact HI0.out)) hb)
         have n1_ := bB_ BK165 hb
         have n2_ := a_ (KeepBut.trans (by repeat (first | (with_reducible first | exact HK.out | apply KeepBut.set_ | apply keep_drewN | apply keep_drew | apply keep_alloc | refine keep_far ?_ GW165.out _) | exact HK.out)) (KeepBut.of_below hb g none) (.inl rfl))
         have n3_ := a_ (below_step (by repeat (first | (with_reducible first | exact HB.out | apply below_alloc | apply pw_below_drewN | apply below_drew1 | refine below_set ?_ (IsS87.ge HI0.out) | refine below_set ?_ GE165.out) | exact HB.out)) hb)
         have n4_ := a_ (hbox)
         have n5_ := a_ ((by rw [hg]; exact (keep_size (w := w) (g := g) (row := none) (by repeat (first | (with_reducible first | exact HK.out | apply KeepBut.set_ | apply keep_drewN | apply keep_drew | apply keep_alloc | refine keep_far ?_ GW165.out _) | exact HK.out))) : w.heap.size ≤ gb180))
         have n6_ := a_ ((Nat.le_trans HW0.out (by rw [hg]; exact (keep_size (w := w) (g := g) (row := none) (by repeat (first | (with_reducible first | exact HK.out | apply KeepBut.set_ | apply keep_drewN | apply keep_drew | apply keep_alloc | refine keep_far ?_ GW165.out _) | exact HK.out))) : w.heap.size ≤ gb180) : w0.heap.size ≤ gb180))
         have n7_ := nB_ hg BK165
         have n8_ := nC_ hg BK165
         have n9_ := a_ ((by rw [hg]; exact Nat.ne_of_lt (IsS87.lt (show IsS87 w0 _ g t170 t171 from by repeat (first | (with_reducible first | exact HI0.out | apply IsS87.alloc | apply IsS87.drewN | apply IsS87.drew | apply IsS87.set_0 | apply IsS87.set_1 | apply IsS87.far (hne := NB0_165.out)) | exact HI0.out))) : g ≠ gb180))
         have n10_ := a_ ((by rw [hg]; exact Nat.ne_of_gt (IsS87.lt (show IsS87 w0 _ g t170 t171 from by repeat (first | (with_reducible first | exact HI0.out | apply IsS87.alloc | apply IsS87.drewN | apply IsS87.drew | apply IsS87.set_0 | apply IsS87.set_1 | apply IsS87.far (hne := NB0_165.out)) | exact HI0.out))) : gb180 ≠ g))
         clear HI0
         clear BK165
         clear HK
         clear HB
         have HI0 := n0_
         have BK165 := n1_
         have HK := n2_
         have HB := n3_
         have BK180 := n4_
         have GW180 := n5_
         have GE180 := n6_
         have NB165_180 := n7_
         have NB180_165 := n8_
         have NB0_180 := n9_
         have NB180_0 := n10_
         clear n0_ n1_ n2_ n3_ n4_ n5_ n6_ n7_ n8_ n9_ n10_
         clear hb hbox hg
         refine hK.out _ _ trivial (fun hHeld => ?_)
         clear hK K
         refine norm_ (a' := ?_) ?_ ?_
         rotate_left
         ·show Act.put _ (some 3) _ = _
          simp only [Act.put, List.setIfInBounds_toArray, List.set_cons_zero, List.set_cons_succ, i64_w, i32_w]
          rfl
         exact norm_ (by first | (simp only [putAll, Act.put, List.setIfInBounds_toArray, List.set_cons_zero, List.set_cons_succ]; done) | (simp only [putAll, Act.put, List.setIfInBounds_toArray, List.set_cons_zero, List.set_cons_succ]; rfl)) (hJ3_7_17 (gb180) _ ⟨(bk_ BK165), (bk_ BK180), GW180.out, GE180.out, NB0_180.out, NB180_0.out, NB165_180.out, NB180_165.out, (by repeat (first | (with_reducible first | exact HI0.out | apply IsS87.alloc | apply IsS87.drewN | apply IsS87.drew | apply IsS87.set_0 | apply IsS87.set_1 | apply IsS87.far (hne := NB0_165.out) | apply IsS87.far (hne := NB0_180.out)) | exact HI0.out)), (by repeat (first | (with_reducible first | exact HK.out | apply KeepBut.set_ | apply keep_drewN | apply keep_drew | apply keep_alloc | refine keep_far ?_ GW165.out _ | refine keep_far ?_ GW180.out _) | exact HK.out)), (by repeat (first | (with_reducible first | exact HB.out | apply below_alloc | apply pw_below_drewN | apply below_drew1 | refine below_set ?_ (IsS87.ge HI0.out) | refine below_set ?_ GE165.out | refine below_set ?_ GE180.out) | exact HB.out))⟩)
      ·skip
       rintro gb180 w12 ⟨h0_, h1_, h2_, h3_, h4_, h5_, h6_, h7_, h8_, h9_, h10_⟩
       have n0_ : Aside0 (w12.heap[gb165]? = some (.cells #[.int .u64 0, .int .u64 0, .slice none 0 0, .string (⟨#[]⟩ : ByteArray)] 35 (0, 0))) := ⟨h0_⟩
       have n1_ : Aside0 (w12.heap[gb180]? = some (.cells #[.int .u64 0, .int .u64 0, .slice none 0 0, .string (⟨#[]⟩ : ByteArray)] 35 (0, 0))) := ⟨h1_⟩
       have n2_ : Aside0 (w.heap.size ≤ gb180) := ⟨h2_⟩
       have n3_ : Aside0 (w0.heap.size ≤ gb180) := ⟨h3_⟩
       have n4_ : Aside0 (g ≠ gb180) := ⟨h4_⟩
       have n5_ : Aside0 (gb180 ≠ g) := ⟨h5_⟩
       have n6_ : Aside0 (gb165 ≠ gb180) := ⟨h6_⟩
       have n7_ : Aside0 (gb180 ≠ gb165) := ⟨h7_⟩
       have n8_ : Aside0 (IsS87 w0 w12 g t170 t171) := ⟨h8_⟩
       have n9_ : Aside0 (KeepBut w w12 g none) := ⟨h9_⟩
       have n10_ : Aside0 (Below w0.heap.size w0 w12) := ⟨h10_⟩
       clear BK165
       clear HI0
       clear HK
       clear HB
       clear h0_ h1_ h2_ h3_ h4_ h5_ h6_ h7_ h8_ h9_ h10_
       have BK165 := n0_
       have BK180 := n1_
       have GW180 := n2_
       have GE180 := n3_
       have NB0_180 := n4_
       have NB180_0 := n5_
       have NB165_180 := n6_
       have NB180_165 := n7_
       have HI0 := n8_
       have HK := n9_
       have HB := n10_
       clear n0_ n1_ n2_ n3_ n4_ n5_ n6_ n7_ n8_ n9_ n10_
       have hHeld := trivial
       refine norm_ (a' := ?_) ?_ ?_
       rotate_left
       ·simp only [putAll, Act.put, List.setIfInBounds_toArray, List.set_cons_zero, List.set_cons_succ]
        rfl
       refine one_ (i := 11) (N := some 15) #[true, true, true, true, true, true, true, true, true, true, true, true, true, true, true, false, false, true, false] rfl rfl (one_of HT_.out (by kernel_rfl)) (by decide) (fun K hK => ?_)
       refine goes_ Try.func88 (by kernel_rfl) rfl #[.pointer (some ⟨g, 0, none⟩)] (by rfl) rfl rfl (ar_) ?_
       with_reducible refine (wal_Taker_Ints.calls k g t170 t171 t172 t175 t176 w0 _ ?side1 ?side2 A4.out).mono ?_
       (case side1 => repeat (first | (with_reducible first | exact HI0.out | apply IsS87.alloc | apply IsS87.drewN | apply IsS87.drew | apply IsS87.set_0 | apply IsS87.set_1 | apply IsS87.far (hne := NB0_165.out) | apply IsS87.far (hne := NB0_180.out)) | exact HI0.out))
       (case side2 => repeat (first | (with_reducible first | exact HB.out | apply below_alloc | apply pw_below_drewN | apply below_drew1 | refine below_set ?_ (IsS87.ge HI0.out) | refine below_set ?_ GE165.out | refine below_set ?_ GE180.out) | exact HB.out))
       rintro e w13 ⟨v173, rfl, ho0, hi, hb, hk⟩
       refine ⟨_, rfl, ?_⟩
       have n0_ := a_ (KeepBut.blk hk (g' := gb165) (o := .cells #[.int .u64 0, .int .u64 0, .slice none 0 0, .string (⟨#[]⟩ : ByteArray)] 35 (0, 0)) (bk_ BK165) NB165_0.out (by simp))
       have n1_ := a_ (KeepBut.blk hk (g' := gb180) (o := .cells #[.int .u64 0, .int .u64 0, .slice none 0 0, .string (⟨#[]⟩ : ByteArray)] 35 (0, 0)) (bk_ BK180) NB180_0.out (by simp))
       have n2_ := a_ (Kd.R_lower ho0 (keep_size (w := w) (g := g) (row := none) (by repeat (first | (with_reducible first | exact HK.out | apply KeepBut.set_ | apply keep_drewN | apply keep_drew | apply keep_alloc | refine keep_far ?_ GW165.out _ | refine keep_far ?_ GW180.out _) | exact HK.out))))
       have n3_ := a_ (KeepBut.trans (by repeat (first | (with_reducible first | exact HK.out | apply KeepBut.set_ | apply keep_drewN | apply keep_drew | apply keep_alloc | refine keep_far ?_ GW165.out _ | refine keep_far ?_ GW180.out _) | exact HK.out)) hk (.inl rfl))
       have n4_ := a_ (hb)
       have n5_ := a_ (hi)
       clear BK165
       clear BK180
       clear HK
       clear HB
       clear HI0
       have BK165 := n0_
       have BK180 := n1_
       have HO174 := n2_
       have HK := n3_
       have HB := n4_
       have HI0 := n5_
       clear n0_ n1_ n2_ n3_ n4_ n5_
       (try clear hb)
       (try clear hb2)
       (try clear hk)
       (try clear hi)
       (try clear ho0)
       refine hK.out _ _ trivial (fun hHeld => ?_)
       clear hK K
       refine norm_ (a' := ?_) ?_ ?_
       rotate_left
       ·show Act.put _ (some 15) _ = _
        simp only [Act.put, List.setIfInBounds_toArray, List.set_cons_zero, List.set_cons_succ, i64_w, i32_w]
        rfl
       exact norm_ (by first | (simp only [putAll, Act.put, List.setIfInBounds_toArray, List.set_cons_zero, List.set_cons_succ]; done) | (simp only [putAll, Act.put, List.setIfInBounds_toArray, List.set_cons_zero, List.set_cons_succ]; rfl)) (hJ3_7_11_17 (v173, gb180) _ ⟨(by refine rq_ ?_; exact HO174.out), (bk_ BK165), (bk_ BK180), GW180.out, GE180.out, NB0_180.out, NB180_0.out, NB165_180.out, NB180_165.out, (by repeat (first | (with_reducible first | exact HI0.out | apply IsS87.alloc | apply IsS87.drewN | apply IsS87.drew | apply IsS87.set_0 | apply IsS87.set_1 | apply IsS87.far (hne := NB0_165.out) | apply IsS87.far (hne := NB0_180.out)) | exact HI0.out)), (by repeat (first | (with_reducible first | exact HK.out | apply KeepBut.set_ | apply keep_drewN | apply keep_drew | apply keep_alloc | refine keep_far ?_ GW165.out _ | refine keep_far ?_ GW180.out _) | exact HK.out)), (by repeat (first | (with_reducible first | exact HB.out | apply below_alloc | apply pw_below_drewN | apply below_drew1 | refine below_set ?_ (IsS87.ge HI0.out) | refine below_set ?_ GE165.out | refine below_set ?_ GE180.out) | exact HB.out))⟩)
     ·skip
      rintro v173 w12 ⟨h0_, h1_, h2_, h3_, h4_⟩
      have n0_ : Aside0 (Kd.R (Kd.int .i64) 3 w12 w.heap.size (fun _ => True) v173 t172) := ⟨h0_⟩
      have n1_ : Aside0 (w12.heap[gb165]? = some (.cells #[.int .u64 0, .int .u64 0, .slice none 0 0, .string (⟨#[]⟩ : ByteArray)] 35 (0, 0))) := ⟨h1_⟩
      have n2_ : Aside0 (IsS87 w0 w12 g t175 t176) := ⟨h2_⟩
      have n3_ : Aside0 (KeepBut w w12 g none) := ⟨h3_⟩
      have n4_ : Aside0 (Below w0.heap.size w0 w12) := ⟨h4_⟩
      clear BK165
      clear HI0
      clear HK
      clear HB
      clear h0_ h1_ h2_ h3_ h4_
      have HO174 := n0_
      have BK165 := n1_
      have HI0 := n2_
      have HK := n3_
      have HB := n4_
      clear n0_ n1_ n2_ n3_ n4_
      have hHeld := trivial
      refine norm_ (a' := ?_) ?_ ?_
      rotate_left
      ·simp only [putAll, Act.put, List.setIfInBounds_toArray, List.set_cons_zero, List.set_cons_succ]
       rfl
      refine two_ (i := 15) (j := 17) (Ni := some 19) (Nj := some 3) #[true, true, true, true, true, true, true, true, true, true, true, true, true, true, true, true, false, false, false] #[true, true, true, true, true, true, true, true, true, true, true, true, true, true, true, false, false, true, false] rfl rfl rfl rfl (two_of HT_.out (by kernel_rfl)) (by decide) (by decide) (fun K hK => ?_) (fun K hK => ?_)
      ·skip
       refine goes_ Try.func59 (by kernel_rfl) rfl #[.pointer (some ⟨g, 0, none⟩)] (by rfl) rfl rfl (ar_) ?_
       with_reducible refine (wal_Taker_Text.calls k g t175 t176 t177 t178 true w0 _ ?side1 ?side2 A5.out).mono ?_
       (case side1 => repeat (first | (with_reducible first | exact HI0.out | apply IsS87.alloc | apply IsS87.drewN | apply IsS87.drew | apply IsS87.set_0 | apply IsS87.set_1 | apply IsS87.far (hne := NB0_165.out)) | exact HI0.out))
       (case side2 => repeat (first | (with_reducible first | exact HB.out | apply below_alloc | apply pw_below_drewN | apply below_drew1 | refine below_set ?_ (IsS87.ge HI0.out) | refine below_set ?_ GE165.out) | exact HB.out))
       rintro e w13 ⟨rfl, hi, hb, hk⟩
       refine ⟨_, rfl, ?_⟩
       have n0_ := a_ (KeepBut.blk hk (g' := gb165) (o := .cells #[.int .u64 0, .int .u64 0, .slice none 0 0, .string (⟨#[]⟩ : ByteArray)] 35 (0, 0)) (bk_ BK165) NB165_0.out (by simp))
       have n1_ := a_ (Kd.R_mono (Kd.R_keep (IsS87.apart (show IsS87 w0 _ g t175 t176 from by repeat (first | (with_reducible first | exact HI0.out | apply IsS87.alloc | apply IsS87.drewN | apply IsS87.drew | apply IsS87.set_0 | apply IsS87.set_1 | apply IsS87.far (hne := NB0_165.out)) | exact HI0.out)) (by refine rq_ ?_; exact HO174.out) (by decide)) hk (fun _ h => h.2)) (fun _ h => h.1))
       have n2_ := a_ (KeepBut.trans (by repeat (first | (with_reducible first | exact HK.out | apply KeepBut.set_ | apply keep_drewN | apply keep_drew | apply keep_alloc | refine keep_far ?_ GW165.out _) | exact HK.out)) hk (.inl rfl))
       have n3_ := a_ (hb)
       have n4_ := a_ (hi)
       clear BK165
       clear HO174
       clear HK
       clear HB
       clear HI0
       have BK165 := n0_
       have HO174 := n1_
       have HK := n2_
       have HB := n3_
       have HI0 := n4_
       clear n0_ n1_ n2_ n3_ n4_
       (try clear hb)
       (try clear hb2)
       (try clear hk)
       (try clear hi)
       obtain ⟨Ao14, co14, eo14⟩ := Kd.R_slice HO174.out
       (first | subst eo14 | (injection eo14 with f1_ f2_ f3_; have f4_ := f1_.symm; have f5_ := f3_.symm; clear f1_ f2_ f3_; subst f4_; subst f5_))
       refine hK.out _ _ trivial (fun hHeld => ?_)
       clear hK K
       refine norm_ (a' := ?_) ?_ ?_
       rotate_left
       ·show Act.put _ (some 19) _ = _
        simp only [Act.put, List.setIfInBounds_toArray, List.set_cons_zero, List.set_cons_succ, i64_w, i32_w]
        rfl
       refine pu_ HT_ 16 (some 20) ?_
       exact norm_ (by first | (simp only [putAll, Act.put, List.setIfInBounds_toArray, List.set_cons_zero, List.set_cons_succ]; done) | (simp only [putAll, Act.put, List.setIfInBounds_toArray, List.set_cons_zero, List.set_cons_succ]; rfl)) (hJ3_7_11_15 (.slice Ao14 t172.length co14) _ ⟨(by refine rq_ ?_; exact HO174.out), (bk_ BK165), (by repeat (first | (with_reducible first | exact HI0.out | apply IsS87.alloc | apply IsS87.drewN | apply IsS87.drew | apply IsS87.set_0 | apply IsS87.set_1 | apply IsS87.far (hne := NB0_165.out)) | exact HI0.out)), (by repeat (first | (with_reducible first | exact HK.out | apply KeepBut.set_ | apply keep_drewN | apply keep_drew | apply keep_alloc | refine keep_far ?_ GW165.out _) | exact HK.out)), (by repeat (first | (with_reducible first | exact HB.out | apply below_alloc | apply pw_below_drewN | apply below_drew1 | refine below_set ?_ (IsS87.ge HI0.out) | refine below_set ?_ GE165.out) | exact HB.out))⟩)
      ·skip
       refine box_step ?hg (N := 3) ?hd (cs := #[.int .u64 0, .int .u64 0, .slice none 0 0, .string (⟨#[]⟩ : ByteArray)]) (t := 35) ?hr ?_; (case hd => rfl); (case hg => rfl); (case hr => first | (go_simp; done) | (go_simp; rfl))
       intro gb180 hg w13 hbox hb
       have n0_ := a_ (Kd.R_below (by refine rq_ ?_; exact HO174.out) hb)
       have n1_ := a_ (IsS87.below (by repeat (first | (with_reducible first | exact HI0.out | apply IsS87.alloc | apply IsS87.drewN | apply IsS87.drew | apply IsS87.set_0 | apply IsS87.set_1 | apply IsS87.far (hne := NB0_165.out)) | exact HI0.out)) hb)
       have n2_ := bB_ BK165 hb
       have n3_ := a_ (KeepBut.trans (by repeat (first | (with_reducible first | exact HK.out | apply KeepBut.set_ | apply keep_drewN | apply keep_drew | apply keep_alloc | refine keep_far ?_ GW165.out _) | exact HK.out)) (KeepBut.of_below hb g none) (.inl rfl))
       have n4_ := a_ (below_step (by repeat (first | (with_reducible first | exact HB.out | apply below_alloc | apply pw_below_drewN | apply below_drew1 | refine below_set ?_ (IsS87.ge HI0.out) | refine below_set ?_ GE165.out) | exact HB.out)) hb)
       have n5_ := a_ (hbox)
       have n6_ := a_ ((by rw [hg]; exact (keep_size (w := w) (g := g) (row := none) (by repeat (first | (with_reducible first | exact HK.out | apply KeepBut.set_ | apply keep_drewN | apply keep_drew | apply keep_alloc | refine keep_far ?_ GW165.out _) | exact HK.out))) : w.heap.size ≤ gb180))
       have n7_ := a_ ((Nat.le_trans HW0.out (by rw [hg]; exact (keep_size (w := w) (g := g) (row := none) (by repeat (first | (with_reducible first | exact HK.out | apply KeepBut.set_ | apply keep_drewN | apply keep_drew | apply keep_alloc | refine keep_far ?_ GW165.out _) | exact HK.out))) : w.heap.size ≤ gb180) : w0.heap.size ≤ gb180))
       have n8_ := nB_ hg BK165
       have n9_ := nC_ hg BK165
       have n10_ := a_ ((by rw [hg]; exact Nat.ne_of_lt (IsS87.lt (show IsS87 w0 _ g t175 t176 from by repeat (first | (with_reducible first | exact HI0.out | apply IsS87.alloc | apply IsS87.drewN | apply IsS87.drew | apply IsS87.set_0 | apply IsS87.set_1 | apply IsS87.far (hne := NB0_165.out)) | exact HI0.out))) : g ≠ gb180))
       have n11_ := a_ ((by rw [hg]; exact Nat.ne_of_gt (IsS87.lt (show IsS87 w0 _ g t175 t176 from by repeat (first | (with_reducible first | exact HI0.out | apply IsS87.alloc | apply IsS87.drewN | apply IsS87.drew | apply IsS87.set_0 | apply IsS87.set_1 | apply IsS87.far (hne := NB0_165.out)) | exact HI0.out))) : gb180 ≠ g))
       clear HO174
       clear HI0
       clear BK165
       clear HK
       clear HB
       have HO174 := n0_
       have HI0 := n1_
       have BK165 := n2_
       have HK := n3_
       have HB := n4_
       have BK180 := n5_
       have GW180 := n6_
       have GE180 := n7_
       have NB165_180 := n8_
       have NB180_165 := n9_
       have NB0_180 := n10_
       have NB180_0 := n11_
       clear n0_ n1_ n2_ n3_ n4_ n5_ n6_ n7_ n8_ n9_ n10_ n11_
       clear hb hbox hg
       refine hK.out _ _ trivial (fun hHeld => ?_)
       clear hK K
       refine norm_ (a' := ?_) ?_ ?_
       rotate_left
       ·show Act.put _ (some 3) _ = _
        simp only [Act.put, List.setIfInBounds_toArray, List.set_cons_zero, List.set_cons_succ, i64_w, i32_w]
        rfl
       exact norm_ (by first | (simp only [putAll, Act.put, List.setIfInBounds_toArray, List.set_cons_zero, List.set_cons_succ]; done) | (simp only [putAll, Act.put, List.setIfInBounds_toArray, List.set_cons_zero, List.set_cons_succ]; rfl)) (hJ3_7_11_17 (v173, gb180) _ ⟨(by refine rq_ ?_; exact HO174.out), (bk_ BK165), (bk_ BK180), GW180.out, GE180.out, NB0_180.out, NB180_0.out, NB165_180.out, NB180_165.out, (by repeat (first | (with_reducible first | exact HI0.out | apply IsS87.alloc | apply IsS87.drewN | apply IsS87.drew | apply IsS87.set_0 | apply IsS87.set_1 | apply IsS87.far (hne := NB0_165.out) | apply IsS87.far (hne := NB0_180.out)) | exact HI0.out)), (by repeat (first | (with_reducible first | exact HK.out | apply KeepBut.set_ | apply keep_drewN | apply keep_drew | apply keep_alloc | refine keep_far ?_ GW165.out _ | refine keep_far ?_ GW180.out _) | exact HK.out)), (by repeat (first | (with_reducible first | exact HB.out | apply below_alloc | apply pw_below_drewN | apply below_drew1 | refine below_set ?_ (IsS87.ge HI0.out) | refine below_set ?_ GE165.out | refine below_set ?_ GE180.out) | exact HB.out))⟩)
    ·skip
     rintro ⟨v173, gb180⟩ w13 ⟨h0_, h1_, h2_, h3_, h4_, h5_, h6_, h7_, h8_, h9_, h10_, h11_⟩
     have n0_ : Aside0 (Kd.R (Kd.int .i64) 3 w13 w.heap.size (fun _ => True) v173 t172) := ⟨h0_⟩
     have n1_ : Aside0 (w13.heap[gb165]? = some (.cells #[.int .u64 0, .int .u64 0, .slice none 0 0, .string (⟨#[]⟩ : ByteArray)] 35 (0, 0))) := ⟨h1_⟩
     have n2_ : Aside0 (w13.heap[gb180]? = some (.cells #[.int .u64 0, .int .u64 0, .slice none 0 0, .string (⟨#[]⟩ : ByteArray)] 35 (0, 0))) := ⟨h2_⟩
     have n3_ : Aside0 (w.heap.size ≤ gb180) := ⟨h3_⟩
     have n4_ : Aside0 (w0.heap.size ≤ gb180) := ⟨h4_⟩
     have n5_ : Aside0 (g ≠ gb180) := ⟨h5_⟩
     have n6_ : Aside0 (gb180 ≠ g) := ⟨h6_⟩
     have n7_ : Aside0 (gb165 ≠ gb180) := ⟨h7_⟩
     have n8_ : Aside0 (gb180 ≠ gb165) := ⟨h8_⟩
     have n9_ : Aside0 (IsS87 w0 w13 g t175 t176) := ⟨h9_⟩
     have n10_ : Aside0 (KeepBut w w13 g none) := ⟨h10_⟩
     have n11_ : Aside0 (Below w0.heap.size w0 w13) := ⟨h11_⟩
     clear BK165
     clear HI0
     clear HK
     clear HB
     clear h0_ h1_ h2_ h3_ h4_ h5_ h6_ h7_ h8_ h9_ h10_ h11_
     have HO174 := n0_
     have BK165 := n1_
     have BK180 := n2_
     have GW180 := n3_
     have GE180 := n4_
     have NB0_180 := n5_
     have NB180_0 := n6_
     have NB165_180 := n7_
     have NB180_165 := n8_
     have HI0 := n9_
     have HK := n10_
     have HB := n11_
     clear n0_ n1_ n2_ n3_ n4_ n5_ n6_ n7_ n8_ n9_ n10_ n11_
     have hHeld := trivial
     refine norm_ (a' := ?_) ?_ ?_
     rotate_left
     ·simp only [putAll, Act.put, List.setIfInBounds_toArray, List.set_cons_zero, List.set_cons_succ]
      rfl
     refine one_ (i := 15) (N := some 19) #[true, true, true, true, true, true, true, true, true, true, true, true, true, true, true, true, false, true, false] rfl rfl (one_of HT_.out (by kernel_rfl)) (by decide) (fun K hK => ?_)
     refine goes_ Try.func59 (by kernel_rfl) rfl #[.pointer (some ⟨g, 0, none⟩)] (by rfl) rfl rfl (ar_) ?_
     with_reducible refine (wal_Taker_Text.calls k g t175 t176 t177 t178 true w0 _ ?side1 ?side2 A5.out).mono ?_
     (case side1 => repeat (first | (with_reducible first | exact HI0.out | apply IsS87.alloc | apply IsS87.drewN | apply IsS87.drew | apply IsS87.set_0 | apply IsS87.set_1 | apply IsS87.far (hne := NB0_165.out) | apply IsS87.far (hne := NB0_180.out)) | exact HI0.out))
     (case side2 => repeat (first | (with_reducible first | exact HB.out | apply below_alloc | apply pw_below_drewN | apply below_drew1 | refine below_set ?_ (IsS87.ge HI0.out) | refine below_set ?_ GE165.out | refine below_set ?_ GE180.out) | exact HB.out))
     rintro e w14 ⟨rfl, hi, hb, hk⟩
     refine ⟨_, rfl, ?_⟩
     have n0_ := a_ (KeepBut.blk hk (g' := gb165) (o := .cells #[.int .u64 0, .int .u64 0, .slice none 0 0, .string (⟨#[]⟩ : ByteArray)] 35 (0, 0)) (bk_ BK165) NB165_0.out (by simp))
     have n1_ := a_ (Kd.R_mono (Kd.R_keep (IsS87.apart (show IsS87 w0 _ g t175 t176 from by repeat (first | (with_reducible first | exact HI0.out | apply IsS87.alloc | apply IsS87.drewN | apply IsS87.drew | apply IsS87.set_0 | apply IsS87.set_1 | apply IsS87.far (hne := NB0_165.out) | apply IsS87.far (hne := NB0_180.out)) | exact HI0.out)) (by refine rq_ ?_; exact HO174.out) (by decide)) hk (fun _ h => h.2)) (fun _ h => h.1))
     have n2_ := a_ (KeepBut.blk hk (g' := gb180) (o := .cells #[.int .u64 0, .int .u64 0, .slice none 0 0, .string (⟨#[]⟩ : ByteArray)] 35 (0, 0)) (bk_ BK180) NB180_0.out (by simp))
     have n3_ := a_ (KeepBut.trans (by repeat (first | (with_reducible first | exact HK.out | apply KeepBut.set_ | apply keep_drewN | apply keep_drew | apply keep_alloc | refine keep_far ?_ GW165.out _ | refine keep_far ?_ GW180.out _) | exact HK.out)) hk (.inl rfl))
     have n4_ := a_ (hb)
     have n5_ := a_ (hi)
     clear BK165
     clear HO174
     clear BK180
     clear HK
     clear HB
     clear HI0
     have BK165 := n0_
     have HO174 := n1_
     have BK180 := n2_
     have HK := n3_
     have HB := n4_
     have HI0 := n5_
     clear n0_ n1_ n2_ n3_ n4_ n5_
     (try clear hb)
     (try clear hb2)
     (try clear hk)
     (try clear hi)
     obtain ⟨Ao15, co15, eo15⟩ := Kd.R_slice HO174.out
     (first | subst eo15 | (injection eo15 with f1_ f2_ f3_; have f4_ := f1_.symm; have f5_ := f3_.symm; clear f1_ f2_ f3_; subst f4_; subst f5_))
     refine hK.out _ _ trivial (fun hHeld => ?_)
     clear hK K
     refine norm_ (a' := ?_) ?_ ?_
     rotate_left
     ·show Act.put _ (some 19) _ = _
      simp only [Act.put, List.setIfInBounds_toArray, List.set_cons_zero, List.set_cons_succ, i64_w, i32_w]
      rfl
     refine pu_ HT_ 16 (some 20) ?_
     exact norm_ (by first | (simp only [putAll, Act.put, List.setIfInBounds_toArray, List.set_cons_zero, List.set_cons_succ]; done) | (simp only [putAll, Act.put, List.setIfInBounds_toArray, List.set_cons_zero, List.set_cons_succ]; rfl)) (hJ3_7_11_15_17 (.slice Ao15 t172.length co15, gb180) _ ⟨(by refine rq_ ?_; exact HO174.out), (bk_ BK165), (bk_ BK180), GW180.out, GE180.out, NB0_180.out, NB180_0.out, NB165_180.out, NB180_165.out, (by repeat (first | (with_reducible first | exact HI0.out | apply IsS87.alloc | apply IsS87.drewN | apply IsS87.drew | apply IsS87.set_0 | apply IsS87.set_1 | apply IsS87.far (hne := NB0_165.out) | apply IsS87.far (hne := NB0_180.out)) | exact HI0.out)), (by repeat (first | (with_reducible first | exact HK.out | apply KeepBut.set_ | apply keep_drewN | apply keep_drew | apply keep_alloc | refine keep_far ?_ GW165.out _ | refine keep_far ?_ GW180.out _) | exact HK.out)), (by repeat (first | (with_reducible first | exact HB.out | apply below_alloc | apply pw_below_drewN | apply below_drew1 | refine below_set ?_ (IsS87.ge HI0.out) | refine below_set ?_ GE165.out | refine below_set ?_ GE180.out) | exact HB.out))⟩)
   ·skip
    rintro v173 w14 ⟨h0_, h1_, h2_, h3_, h4_⟩
    have n0_ : Aside0 (Kd.R (Kd.int .i64) 3 w14 w.heap.size (fun _ => True) v173 t172) := ⟨h0_⟩
    have n1_ : Aside0 (w14.heap[gb165]? = some (.cells #[.int .u64 0, .int .u64 0, .slice none 0 0, .string (⟨#[]⟩ : ByteArray)] 35 (0, 0))) := ⟨h1_⟩
    have n2_ : Aside0 (IsS87 w0 w14 g t178 true) := ⟨h2_⟩
    have n3_ : Aside0 (KeepBut w w14 g none) := ⟨h3_⟩
    have n4_ : Aside0 (Below w0.heap.size w0 w14) := ⟨h4_⟩
    clear BK165
    clear HI0
    clear HK
    clear HB
    clear h0_ h1_ h2_ h3_ h4_
    have HO174 := n0_
    have BK165 := n1_
    have HI0 := n2_
    have HK := n3_
    have HB := n4_
    clear n0_ n1_ n2_ n3_ n4_
    have hHeld := trivial
    obtain ⟨Ao15, co15, eo15⟩ := Kd.R_slice HO174.out
    (first | subst eo15 | (injection eo15 with f1_ f2_ f3_; have f4_ := f1_.symm; have f5_ := f3_.symm; clear f1_ f2_ f3_; subst f4_; subst f5_))
    refine norm_ (a' := ?_) ?_ ?_
    rotate_left
    ·simp only [putAll, Act.put, List.setIfInBounds_toArray, List.set_cons_zero, List.set_cons_succ]
     rfl
    refine one_ (i := 17) (N := some 3) #[true, true, true, true, true, true, true, true, true, true, true, true, true, true, true, true, true, true, false] rfl rfl (one_of HT_.out (by kernel_rfl)) (by decide) (fun K hK => ?_)
    refine box_step ?hg (N := 3) ?hd (cs := #[.int .u64 0, .int .u64 0, .slice none 0 0, .string (⟨#[]⟩ : ByteArray)]) (t := 35) ?hr ?_; (case hd => rfl); (case hg => rfl); (case hr => first | (go_simp; done) | (go_simp; rfl))
    intro gb180 hg w16 hbox hb
    have n0_ := a_ (Kd.R_below (by refine rq_ ?_; exact HO174.out) hb)
    have n1_ := a_ (IsS87.below (by repeat (first | (with_reducible first | exact HI0.out | apply IsS87.alloc | apply IsS87.drewN | apply IsS87.drew | apply IsS87.set_0 | apply IsS87.set_1 | apply IsS87.far (hne := NB0_165.out)) | exact HI0.out)) hb)
    have n2_ := bB_ BK165 hb
    have n3_ := a_ (KeepBut.trans (by repeat (first | (with_reducible first | exact HK.out | apply KeepBut.set_ | apply keep_drewN | apply keep_drew | apply keep_alloc | refine keep_far ?_ GW165.out _) | exact HK.out)) (KeepBut.of_below hb g none) (.inl rfl))
    have n4_ := a_ (below_step (by repeat (first | (with_reducible first | exact HB.out | apply below_alloc | apply pw_below_drewN | apply below_drew1 | refine below_set ?_ (IsS87.ge HI0.out) | refine below_set ?_ GE165.out) | exact HB.out)) hb)
    have n5_ := a_ (hbox)
    have n6_ := a_ ((by rw [hg]; exact (keep_size (w := w) (g := g) (row := none) (by repeat (first | (with_reducible first | exact HK.out | apply KeepBut.set_ | apply keep_drewN | apply keep_drew | apply keep_alloc | refine keep_far ?_ GW165.out _) | exact HK.out))) : w.heap.size ≤ gb180))
    have n7_ := a_ ((Nat.le_trans HW0.out (by rw [hg]; exact (keep_size (w := w) (g := g) (row := none) (by repeat (first | (with_reducible first | exact HK.out | apply KeepBut.set_ | apply keep_drewN | apply keep_drew | apply keep_alloc | refine keep_far ?_ GW165.out _) | exact HK.out))) : w.heap.size ≤ gb180) : w0.heap.size ≤ gb180))
    have n8_ := nB_ hg BK165
    have n9_ := nC_ hg BK165
    have n10_ := a_ ((by rw [hg]; exact Nat.ne_of_lt (IsS87.lt (show IsS87 w0 _ g t178 true from by repeat (first | (with_reducible first | exact HI0.out | apply IsS87.alloc | apply IsS87.drewN | apply IsS87.drew | apply IsS87.set_0 | apply IsS87.set_1 | apply IsS87.far (hne := NB0_165.out)) | exact HI0.out))) : g ≠ gb180))
    have n11_ := a_ ((by rw [hg]; exact Nat.ne_of_gt (IsS87.lt (show IsS87 w0 _ g t178 true from by repeat (first | (with_reducible first | exact HI0.out | apply IsS87.alloc | apply IsS87.drewN | apply IsS87.drew | apply IsS87.set_0 | apply IsS87.set_1 | apply IsS87.far (hne := NB0_165.out)) | exact HI0.out))) : gb180 ≠ g))
    clear HO174
    clear HI0
    clear BK165
    clear HK
    clear HB
    have HO174 := n0_
    have HI0 := n1_
    have BK165 := n2_
    have HK := n3_
    have HB := n4_
    have BK180 := n5_
    have GW180 := n6_
    have GE180 := n7_
    have NB165_180 := n8_
    have NB180_165 := n9_
    have NB0_180 := n10_
    have NB180_0 := n11_
    clear n0_ n1_ n2_ n3_ n4_ n5_ n6_ n7_ n8_ n9_ n10_ n11_
    clear hb hbox hg
    refine hK.out _ _ trivial (fun hHeld => ?_)
    clear hK K
    refine norm_ (a' := ?_) ?_ ?_
    rotate_left
    ·show Act.put _ (some 3) _ = _
     simp only [Act.put, List.setIfInBounds_toArray, List.set_cons_zero, List.set_cons_succ, i64_w, i32_w]
     rfl
    exact norm_ (by first | (simp only [putAll, Act.put, List.setIfInBounds_toArray, List.set_cons_zero, List.set_cons_succ]; done) | (simp only [putAll, Act.put, List.setIfInBounds_toArray, List.set_cons_zero, List.set_cons_succ]; rfl)) (hJ3_7_11_15_17 (.slice Ao15 t172.length co15, gb180) _ ⟨(by refine rq_ ?_; exact HO174.out), (bk_ BK165), (bk_ BK180), GW180.out, GE180.out, NB0_180.out, NB180_0.out, NB165_180.out, NB180_165.out, (by repeat (first | (with_reducible first | exact HI0.out | apply IsS87.alloc | apply IsS87.drewN | apply IsS87.drew | apply IsS87.set_0 | apply IsS87.set_1 | apply IsS87.far (hne := NB0_165.out) | apply IsS87.far (hne := NB0_180.out)) | exact HI0.out)), (by repeat (first | (with_reducible first | exact HK.out | apply KeepBut.set_ | apply keep_drewN | apply keep_drew | apply keep_alloc | refine keep_far ?_ GW165.out _ | refine keep_far ?_ GW180.out _) | exact HK.out)), (by repeat (first | (with_reducible first | exact HB.out | apply below_alloc | apply pw_below_drewN | apply below_drew1 | refine below_set ?_ (IsS87.ge HI0.out) | refine below_set ?_ GE165.out | refine below_set ?_ GE180.out) | exact HB.out))⟩)
  rintro ⟨v173, gb180⟩ w15 ⟨h0_, h1_, h2_, h3_, h4_, h5_, h6_, h7_, h8_, h9_, h10_, h11_⟩
  have n0_ : Aside0 (Kd.R (Kd.int .i64) 3 w15 w.heap.size (fun _ => True) v173 t172) := ⟨h0_⟩
  have n1_ : Aside0 (w15.heap[gb165]? = some (.cells #[.int .u64 0, .int .u64 0, .slice none 0 0, .string (⟨#[]⟩ : ByteArray)] 35 (0, 0))) := ⟨h1_⟩
  have n2_ : Aside0 (w15.heap[gb180]? = some (.cells #[.int .u64 0, .int .u64 0, .slice none 0 0, .string (⟨#[]⟩ : ByteArray)] 35 (0, 0))) := ⟨h2_⟩
  have n3_ : Aside0 (w.heap.size ≤ gb180) := ⟨h3_⟩
  have n4_ : Aside0 (w0.heap.size ≤ gb180) := ⟨h4_⟩
  have n5_ : Aside0 (g ≠ gb180) := ⟨h5_⟩
  have n6_ : Aside0 (gb180 ≠ g) := ⟨h6_⟩
  have n7_ : Aside0 (gb165 ≠ gb180) := ⟨h7_⟩
  have n8_ : Aside0 (gb180 ≠ gb165) := ⟨h8_⟩
  have n9_ : Aside0 (IsS87 w0 w15 g t178 true) := ⟨h9_⟩
  have n10_ : Aside0 (KeepBut w w15 g none) := ⟨h10_⟩
  have n11_ : Aside0 (Below w0.heap.size w0 w15) := ⟨h11_⟩
  clear BK165
  clear HI0
  clear HK
  clear HB
  clear h0_ h1_ h2_ h3_ h4_ h5_ h6_ h7_ h8_ h9_ h10_ h11_
  have HO174 := n0_
  have BK165 := n1_
  have BK180 := n2_
  have GW180 := n3_
  have GE180 := n4_
  have NB0_180 := n5_
  have NB180_0 := n6_
  have NB165_180 := n7_
  have NB180_165 := n8_
  have HI0 := n9_
  have HK := n10_
  have HB := n11_
  clear n0_ n1_ n2_ n3_ n4_ n5_ n6_ n7_ n8_ n9_ n10_ n11_
  have hHeld := trivial
  obtain ⟨Ao16, co16, eo16⟩ := Kd.R_slice HO174.out
  (first | subst eo16 | (injection eo16 with f1_ f2_ f3_; have f4_ := f1_.symm; have f5_ := f3_.symm; clear f1_ f2_ f3_; subst f4_; subst f5_))
  refine norm_ (a' := ?_) ?_ ?_
  rotate_left
  ·simp only [putAll, Act.put, List.setIfInBounds_toArray, List.set_cons_zero, List.set_cons_succ]
   rfl
  refine one_ (i := 18) (N := none) #[true, true, true, true, true, true, true, true, true, true, true, true, true, true, true, true, true, true, true] rfl rfl (one_of HT_.out (by kernel_rfl)) (by decide) (fun K hK => ?_)
  have hs17 : w15.cell? ⟨gb180, 0, none⟩ = some (.int .u64 0) := (blk_cell BK180.out 0).trans rfl
  have hfs17 := blk_frozen BK180.out 0
  have hns17_0 := NB165_180.out
  have hms17_0 := NB180_165.out
  have hs18 : w15.cell? ⟨gb180, 1, none⟩ = some (.int .u64 0) := (blk_cell BK180.out 1).trans rfl
  have hfs18 := blk_frozen BK180.out 1
  have hns18_0 := NB165_180.out
  have hms18_0 := NB180_165.out
  have hs19 : w15.cell? ⟨gb180, 2, none⟩ = some (.slice none 0 0) := (blk_cell BK180.out 2).trans rfl
  have hfs19 := blk_frozen BK180.out 2
  have hns19_0 := NB165_180.out
  have hms19_0 := NB180_165.out
  have hs20 : w15.cell? ⟨gb180, 3, none⟩ = some (.string (⟨#[]⟩ : ByteArray)) := (blk_cell BK180.out 3).trans rfl
  have hfs20 := blk_frozen BK180.out 3
  have hns20_0 := NB165_180.out
  have hms20_0 := NB180_165.out
  refine skip_ (w1 := ?_) (by rfl) rfl ?_ ?_
  rotate_left
  ·go_simp
   rfl
  refine hK.out _ _ trivial (fun hHeld => ?_)
  clear hK K
  refine done_ (done_of HT_.out (by kernel_rfl)) ?_
  obtain ⟨Tz21_, hTz21_, HGz21, hgz21⟩ := HI0.out
  have hcz21_0 := cellS87_0 HGz21
  have hcz21_1 := cellS87_1 HGz21
  have hfz21_0 := blk_frozen HGz21 0
  have hfz21_1 := blk_frozen HGz21 1
  clear HGz21 hgz21
  have hnb22 := NB180_165.out
  have hnc22 := NB165_180.out
  have hnb23 := NB180_0.out
  have hnc23 := NB0_180.out
  obtain ⟨hcz24_0, hcz24_1, hcz24_2, hcz24_3, hfz24_0, hfz24_1, hfz24_2, hfz24_3⟩ := c4_ BK180
  have hnb25 := NB165_0.out
  have hnc25 := NB0_165.out
  obtain ⟨hcz26_0, hcz26_1, hcz26_2, hcz26_3, hfz26_0, hfz26_1, hfz26_2, hfz26_3⟩ := c4_ BK165
  try go_wp2
  refine bodyPost_ret (results_cell_row rfl _ _ gb165 35 #[.int .u64 t166, .int .u64 t169, .slice Ao16 t172.length co16, .string t177] (0, 0) _ rfl (bp_2 BK165 NB165_0 NB165_180) Try.underlying35 rfl (by kernel_rfl)) rfl ?_
  exact ⟨_, fz_, by refine rq_ ?_; exact Kd.R_mono (Kd.R_far (p := ⟨gb165, 3, none⟩) (Kd.R_far (p := ⟨gb165, 2, none⟩) (Kd.R_far (p := ⟨gb165, 1, none⟩) (Kd.R_far (p := ⟨gb165, 0, none⟩) (Kd.R_far (p := ⟨g, 1, none⟩) (Kd.R_far (p := ⟨gb180, 3, none⟩) (Kd.R_far (p := ⟨gb180, 2, none⟩) (Kd.R_far (p := ⟨gb180, 1, none⟩) (Kd.R_far (p := ⟨gb180, 0, none⟩) (Kd.R_types (IsS87.apart HI0.out (Kd.R_types HO174.out BK180.out (by decide)) (by decide)) BK165.out (by decide)) (fun _ hk => hk.1.1.2) (.int .u64 t166)) (fun _ hk => hk.1.1.2) (.int .u64 t169)) (fun _ hk => hk.1.1.2) (.slice Ao16 t172.length co16)) (fun _ hk => hk.1.1.2) (.string t177)) (fun _ hk => hk.1.2) (.bool true)) (fun _ hk => hk.2) (.int .u64 t166)) (fun _ hk => hk.2) (.int .u64 t169)) (fun _ hk => hk.2) (.slice Ao16 t172.length co16)) (fun _ hk => hk.2) (.string t177)) (fun _ hk => trivial), by repeat (first | (with_reducible first | exact HI0.out | apply IsS87.alloc | apply IsS87.drewN | apply IsS87.drew | apply IsS87.set_0 | apply IsS87.set_1 | apply IsS87.far (hne := NB0_165.out) | apply IsS87.far (hne := NB0_180.out)) | exact HI0.out), by repeat (first | (with_reducible first | exact HB.out | apply below_alloc | apply pw_below_drewN | apply below_drew1 | refine below_set ?_ (IsS87.ge HI0.out) | refine below_set ?_ GE165.out | refine below_set ?_ GE180.out) | exact HB.out), by repeat (first | (with_reducible first | exact HK.out | apply KeepBut.set_ | apply keep_drewN | apply keep_drew | apply keep_alloc | refine keep_far ?_ GW165.out _ | refine keep_far ?_ GW180.out _) | exact HK.out)⟩
 replace c6 := Bool.eq_false_iff.mpr c6
 subst c6
 have H1 : ((snap_Check.f k t166 t169 t172 t177).bind fun t181 => (some (t166, t169, t172, t177, t178, (t181 != 0)))) = some (r1, r2, r3, r4, r5, r6) := by rw [if_neg (show ¬ (false = true) by decide)] at H; exact H
 clear H
 have H := H1
 clear H1
 obtain ⟨t181, A270, H⟩ := Option.bind_eq_some_iff.mp H
 try dsimp only at H
 have A27 := a_ A270
 clear A270
 simp only [Option.some.injEq, Prod.mk.injEq] at H
 obtain ⟨rfl, rfl, rfl, rfl, rfl, rfl⟩ := H
 go_enter Try.func80, Try.ntmps80
 try go_wp2_with (first | ((with_reducible refine gd_ 2 ?_); refine bx_ 2 #[.int .u64 0, .int .u64 0, .slice none 0 0, .string (⟨#[]⟩ : ByteArray)] 35 ?_; intro gb165 hg w28 hbox hb; replace HB := a_ (below_step (by repeat (first | (with_reducible first | exact HB.out | apply below_alloc | apply pw_below_drewN | apply below_drew1 | refine below_set ?_ (IsS87.ge HI0.out)) | exact HB.out)) hb); have BK165 := a_ (hbox); have GW165 := a_ ((by rw [hg]; exact (keep_size (w := w) (g := g) (row := none) (by repeat (first | (with_reducible first | exact HK.out | apply KeepBut.set_ | apply keep_drewN | apply keep_drew | apply keep_alloc) | exact HK.out))) : w.heap.size ≤ gb165)); have GE165 := a_ ((Nat.le_trans HW0.out (by rw [hg]; exact (keep_size (w := w) (g := g) (row := none) (by repeat (first | (with_reducible first | exact HK.out | apply KeepBut.set_ | apply keep_drewN | apply keep_drew | apply keep_alloc) | exact HK.out))) : w.heap.size ≤ gb165) : w0.heap.size ≤ gb165)); replace HK := a_ (KeepBut.trans (by repeat (first | (with_reducible first | exact HK.out | apply KeepBut.set_ | apply keep_drewN | apply keep_drew | apply keep_alloc) | exact HK.out)) (KeepBut.of_below hb g none) (.inl rfl)); have NB0_165 := a_ ((by rw [hg]; exact Nat.ne_of_lt (IsS87.lt (show IsS87 w0 _ g s0_0 s0_1 from by repeat (first | (with_reducible first | exact HI0.out | apply IsS87.alloc | apply IsS87.drewN | apply IsS87.drew | apply IsS87.set_0 | apply IsS87.set_1) | exact HI0.out))) : g ≠ gb165)); have NB165_0 := a_ ((by rw [hg]; exact Nat.ne_of_gt (IsS87.lt (show IsS87 w0 _ g s0_0 s0_1 from by repeat (first | (with_reducible first | exact HI0.out | apply IsS87.alloc | apply IsS87.drewN | apply IsS87.drew | apply IsS87.set_0 | apply IsS87.set_1) | exact HI0.out))) : gb165 ≠ g)); replace HI0 := a_ (IsS87.below (by repeat (first | (with_reducible first | exact HI0.out | apply IsS87.alloc | apply IsS87.drewN | apply IsS87.drew | apply IsS87.set_0 | apply IsS87.set_1) | exact HI0.out)) hb); clear hb hbox hg))
 have n0_ := a_ (blk_drew BK165.out)
 have n1_ := a_ (IsS87.drew HI0.out)
 have n2_ := a_ (keep_drew HK.out)
 have n3_ := a_ (below_drew1 HB.out)
 clear BK165
 clear HI0
 clear HK
 clear HB
 have BK165 := n0_
 have HI0 := n1_
 have HK := n2_
 have HB := n3_
 clear n0_ n1_ n2_ n3_
 refine start_ (n := 19) (S := fun w' => True) (ds := []) #[false, false, false, false, false, false, false, false, false, false, false, false, false, false, false, false, false, false, false] (by kernel_rfl) rfl rfl trivial (fun hHeld => ?_); refine with_tabW snap_Taker_Snap.tab1 snap_Taker_Snap.bits1 (fun HT_ HW_ => ?_)
 generalize w28.drew = w29 at BK165 HI0 HK HB hHeld ⊢
 refine pu_ HT_ 0 (some 4) ?_
 refine pu_ HT_ 1 (some 5) ?_
 refine pu_ HT_ 2 (some 6) ?_
 refine pu_ HT_ 4 (some 8) ?_
 refine pu_ HT_ 5 (some 9) ?_
 refine pu_ HT_ 6 (some 10) ?_
 refine pu_ HT_ 8 (some 12) ?_
 refine pu_ HT_ 9 (some 13) ?_
 refine pu_ HT_ 10 (some 14) ?_
 refine pu_ HT_ 12 (some 16) ?_
 refine pu_ HT_ 13 (some 17) ?_
 refine pu_ HT_ 14 (some 18) ?_
 refine join_ (σ := Value × Nat) 1 #[true, true, true, true, true, true, true, true, true, true, true, true, true, true, true, true, true, true, false] (fun s_ => [(7, .int .u64 t166), (11, .int .u64 t169), (15, s_.1), (19, .string t177), (3, .pointer (some ⟨s_.2, 0, none⟩)), (20, .agg #[.int .u64 t166, .int .u64 t169, s_.1, .string t177])]) (fun s_ w' => (Kd.R (Kd.int .i64) 3 w' w.heap.size (fun _ => True) s_.1 t172) ∧ (w'.heap[gb165]? = some (.cells #[.int .u64 0, .int .u64 0, .slice none 0 0, .string (⟨#[]⟩ : ByteArray)] 35 (0, 0))) ∧ (w'.heap[s_.2]? = some (.cells #[.int .u64 0, .int .u64 0, .slice none 0 0, .string (⟨#[]⟩ : ByteArray)] 35 (0, 0))) ∧ (w.heap.size ≤ s_.2) ∧ (w0.heap.size ≤ s_.2) ∧ (g ≠ s_.2) ∧ (s_.2 ≠ g) ∧ (gb165 ≠ s_.2) ∧ (s_.2 ≠ gb165) ∧ (IsS87 w0 w' g t178 false) ∧ (KeepBut w w' g none) ∧ (Below w0.heap.size w0 w')) ?_ ?_
 rotate_left
 ·intro hJ3_7_11_15_17
  refine join_ (σ := Value) 2 #[true, true, true, true, true, true, true, true, true, true, true, true, true, true, true, true, true, false, false] (fun s_ => [(7, .int .u64 t166), (11, .int .u64 t169), (15, s_), (19, .string t177), (20, .agg #[.int .u64 t166, .int .u64 t169, s_, .string t177])]) (fun s_ w' => (Kd.R (Kd.int .i64) 3 w' w.heap.size (fun _ => True) s_ t172) ∧ (w'.heap[gb165]? = some (.cells #[.int .u64 0, .int .u64 0, .slice none 0 0, .string (⟨#[]⟩ : ByteArray)] 35 (0, 0))) ∧ (IsS87 w0 w' g t178 false) ∧ (KeepBut w w' g none) ∧ (Below w0.heap.size w0 w')) ?_ ?_
  rotate_left
  ·intro hJ3_7_11_15
   refine join_ (σ := Value × Nat) 3 #[true, true, true, true, true, true, true, true, true, true, true, true, true, true, true, false, false, true, false] (fun s_ => [(7, .int .u64 t166), (11, .int .u64 t169), (15, s_.1), (3, .pointer (some ⟨s_.2, 0, none⟩))]) (fun s_ w' => (Kd.R (Kd.int .i64) 3 w' w.heap.size (fun _ => True) s_.1 t172) ∧ (w'.heap[gb165]? = some (.cells #[.int .u64 0, .int .u64 0, .slice none 0 0, .string (⟨#[]⟩ : ByteArray)] 35 (0, 0))) ∧ (w'.heap[s_.2]? = some (.cells #[.int .u64 0, .int .u64 0, .slice none 0 0, .string (⟨#[]⟩ : ByteArray)] 35 (0, 0))) ∧ (w.heap.size ≤ s_.2) ∧ (w0.heap.size ≤ s_.2) ∧ (g ≠ s_.2) ∧ (s_.2 ≠ g) ∧ (gb165 ≠ s_.2) ∧ (s_.2 ≠ gb165) ∧ (IsS87 w0 w' g t175 t176) ∧ (KeepBut w w' g none) ∧ (Below w0.heap.size w0 w')) ?_ ?_
   rotate_left
   ·intro hJ3_7_11_17
    refine join_ (σ := Value) 4 #[true, true, true, true, true, true, true, true, true, true, true, true, true, true, true, false, false, false, false] (fun s_ => [(7, .int .u64 t166), (11, .int .u64 t169), (15, s_)]) (fun s_ w' => (Kd.R (Kd.int .i64) 3 w' w.heap.size (fun _ => True) s_ t172) ∧ (w'.heap[gb165]? = some (.cells #[.int .u64 0, .int .u64 0, .slice none 0 0, .string (⟨#[]⟩ : ByteArray)] 35 (0, 0))) ∧ (IsS87 w0 w' g t175 t176) ∧ (KeepBut w w' g none) ∧ (Below w0.heap.size w0 w')) ?_ ?_
    rotate_left
    ·intro hJ3_7_11
     refine join_ (σ := Nat) 4 #[true, true, true, true, true, true, true, true, true, true, true, false, true, true, true, false, false, true, false] (fun s_ => [(7, .int .u64 t166), (11, .int .u64 t169), (3, .pointer (some ⟨s_, 0, none⟩))]) (fun s_ w' => (w'.heap[gb165]? = some (.cells #[.int .u64 0, .int .u64 0, .slice none 0 0, .string (⟨#[]⟩ : ByteArray)] 35 (0, 0))) ∧ (w'.heap[s_]? = some (.cells #[.int .u64 0, .int .u64 0, .slice none 0 0, .string (⟨#[]⟩ : ByteArray)] 35 (0, 0))) ∧ (w.heap.size ≤ s_) ∧ (w0.heap.size ≤ s_) ∧ (g ≠ s_) ∧ (s_ ≠ g) ∧ (gb165 ≠ s_) ∧ (s_ ≠ gb165) ∧ (IsS87 w0 w' g t170 t171) ∧ (KeepBut w w' g none) ∧ (Below w0.heap.size w0 w')) ?_ ?_
     rotate_left
     ·intro hJ3_7_17
      refine join_ (σ := Unit) 5 #[true, true, true, true, true, true, true, true, true, true, true, false, true, true, true, false, false, false, false] (fun s_ => [(7, .int .u64 t166), (11, .int .u64 t169)]) (fun s_ w' => (w'.heap[gb165]? = some (.cells #[.int .u64 0, .int .u64 0, .slice none 0 0, .string (⟨#[]⟩ : ByteArray)] 35 (0, 0))) ∧ (IsS87 w0 w' g t170 t171) ∧ (KeepBut w w' g none) ∧ (Below w0.heap.size w0 w')) ?_ ?_
      rotate_left
      ·intro hJ3_7
       refine join_ (σ := Nat) 5 #[true, true, true, true, true, true, true, false, true, true, true, false, true, true, true, false, false, true, false] (fun s_ => [(7, .int .u64 t166), (3, .pointer (some ⟨s_, 0, none⟩))]) (fun s_ w' => (w'.heap[gb165]? = some (.cells #[.int .u64 0, .int .u64 0, .slice none 0 0, .string (⟨#[]⟩ : ByteArray)] 35 (0, 0))) ∧ (w'.heap[s_]? = some (.cells #[.int .u64 0, .int .u64 0, .slice none 0 0, .string (⟨#[]⟩ : ByteArray)] 35 (0, 0))) ∧ (w.heap.size ≤ s_) ∧ (w0.heap.size ≤ s_) ∧ (g ≠ s_) ∧ (s_ ≠ g) ∧ (gb165 ≠ s_) ∧ (s_ ≠ gb165) ∧ (IsS87 w0 w' g t167 t168) ∧ (KeepBut w w' g none) ∧ (Below w0.heap.size w0 w')) ?_ ?_
       rotate_left
       ·intro hJ3_17
        refine join_ (σ := Unit) 6 #[true, true, true, true, true, true, true, false, true, true, true, false, true, true, true, false, false, false, false] (fun s_ => [(7, .int .u64 t166)]) (fun s_ w' => (w'.heap[gb165]? = some (.cells #[.int .u64 0, .int .u64 0, .slice none 0 0, .string (⟨#[]⟩ : ByteArray)] 35 (0, 0))) ∧ (IsS87 w0 w' g t167 t168) ∧ (KeepBut w w' g none) ∧ (Below w0.heap.size w0 w')) ?_ ?_
        rotate_left
        ·intro hJ3
         refine join_ (σ := Nat) 6 #[true, true, true, false, true, true, true, false, true, true, true, false, true, true, true, false, false, true, false] (fun s_ => [(3, .pointer (some ⟨s_, 0, none⟩))]) (fun s_ w' => (w'.heap[gb165]? = some (.cells #[.int .u64 0, .int .u64 0, .slice none 0 0, .string (⟨#[]⟩ : ByteArray)] 35 (0, 0))) ∧ (w'.heap[s_]? = some (.cells #[.int .u64 0, .int .u64 0, .slice none 0 0, .string (⟨#[]⟩ : ByteArray)] 35 (0, 0))) ∧ (w.heap.size ≤ s_) ∧ (w0.heap.size ≤ s_) ∧ (g ≠ s_) ∧ (s_ ≠ g) ∧ (gb165 ≠ s_) ∧ (s_ ≠ gb165) ∧ (IsS87 w0 w' g s0_0 s0_1) ∧ (KeepBut w w' g none) ∧ (Below w0.heap.size w0 w')) ?_ ?_
         rotate_left
         ·intro hJ17
          refine two_ (i := 3) (j := 17) (Ni := some 7) (Nj := some 3) #[true, true, true, true, true, true, true, false, true, true, true, false, true, true, true, false, false, false, false] #[true, true, true, false, true, true, true, false, true, true, true, false, true, true, true, false, false, true, false] rfl rfl rfl rfl (two_of HT_.out (by kernel_rfl)) (by decide) (by decide) (fun K hK => ?_) (fun K hK => ?_)
          ·skip
           refine goes_ Try.func53 (by kernel_rfl) rfl #[.pointer (some ⟨g, 0, none⟩)] (by rfl) rfl rfl (ar_) ?_
           with_reducible refine (wal_Taker_Number.calls k g s0_0 s0_1 t166 t167 t168 w0 _ ?side1 ?side2 A2.out).mono ?_
           (case side1 => repeat (first | (with_reducible first | exact HI0.out | apply IsS87.alloc | apply IsS87.drewN | apply IsS87.drew | apply IsS87.set_0 | apply IsS87.set_1 | apply IsS87.far (hne := NB0_165.out)) | exact HI0.out))
           (case side2 => repeat (first | (with_reducible first | exact HB.out | apply below_alloc | apply pw_below_drewN | apply below_drew1 | refine below_set ?_ (IsS87.ge HI0.out) | refine below_set ?_ GE165.out) | exact HB.out))
           rintro e w30 ⟨rfl, hi, hb, hk⟩
           refine ⟨_, rfl, ?_⟩
           have n0_ := a_ (KeepBut.blk hk (g' := gb165) (o := .cells #[.int .u64 0, .int .u64 0, .slice none 0 0, .string (⟨#[]⟩ : ByteArray)] 35 (0, 0)) (bk_ BK165) NB165_0.out (by simp))
           have n1_ := a_ (KeepBut.trans (by repeat (first | (with_reducible first | exact HK.out | apply KeepBut.set_ | apply keep_drewN | apply keep_drew | apply keep_alloc | refine keep_far ?_ GW165.out _) | exact HK.out)) hk (.inl rfl))
           have n2_ := a_ (hb)
           have n3_ := a_ (hi)
           clear BK165
           clear HK
           clear HB
           clear HI0
           have BK165 := n0_
           have HK := n1_
           have HB := n2_
           have HI0 := n3_
           clear n0_ n1_ n2_ n3_
           (try clear hb)
           (try clear hb2)
           (try clear hk)
           (try clear hi)
           refine hK.out _ _ trivial (fun hHeld => ?_)
           clear hK K
           refine norm_ (a' := ?_) ?_ ?_
           rotate_left
           ·show Act.put _ (some 7) _ = _
            simp only [Act.put, List.setIfInBounds_toArray, List.set_cons_zero, List.set_cons_succ, i64_w, i32_w]
            rfl
           exact norm_ (by first | (simp only [putAll, Act.put, List.setIfInBounds_toArray, List.set_cons_zero, List.set_cons_succ]; done) | (simp only [putAll, Act.put, List.setIfInBounds_toArray, List.set_cons_zero, List.set_cons_succ]; rfl)) (hJ3 () _ ⟨(bk_ BK165), (by repeat (first | (with_reducible first | exact HI0.out | apply IsS87.alloc | apply IsS87.drewN | apply IsS87.drew | apply IsS87.set_0 | apply IsS87.set_1 | apply IsS87.far (hne := NB0_165.out)) | exact HI0.out)), (by repeat (first | (with_reducible first | exact HK.out | apply KeepBut.set_ | apply keep_drewN | apply keep_drew | apply keep_alloc | refine keep_far ?_ GW165.out _) | exact HK.out)), (by repeat (first | (with_reducible first | exact HB.out | apply below_alloc | apply pw_below_drewN | apply below_drew1 | refine below_set ?_ (IsS87.ge HI0.out) | refine below_set ?_ GE165.out) | exact HB.out))⟩)
          ·skip
           refine box_step ?hg (N := 3) ?hd (cs := #[.int .u64 0, .int .u64 0, .slice none 0 0, .string (⟨#[]⟩ : ByteArray)]) (t := 35) ?hr ?_; (case hd => rfl); (case hg => rfl); (case hr => first | (go_simp; done) | (go_simp; rfl))
           intro gb180 hg w30 hbox hb
           have n0_ := a_ (IsS87.below (by repeat (first | (with_reducible first | exact HI0.out | apply IsS87.alloc | apply IsS87.drewN | apply IsS87.drew | apply IsS87.set_0 | apply IsS87.set_1 | apply IsS87.far (hne := NB0_165.out)) | exact HI0.out)) hb)
           have n1_ := bB_ BK165 hb
           have n2_ := a_ (KeepBut.trans (by repeat (first | (with_reducible first | exact HK.out | apply KeepBut.set_ | apply keep_drewN | apply keep_drew | apply keep_alloc | refine keep_far ?_ GW165.out _) | exact HK.out)) (KeepBut.of_below hb g none) (.inl rfl))
           have n3_ := a_ (below_step (by repeat (first | (with_reducible first | exact HB.out | apply below_alloc | apply pw_below_drewN | apply below_drew1 | refine below_set ?_ (IsS87.ge HI0.out) | refine below_set ?_ GE165.out) | exact HB.out)) hb)
           have n4_ := a_ (hbox)
           have n5_ := a_ ((by rw [hg]; exact (keep_size (w := w) (g := g) (row := none) (by repeat (first | (with_reducible first | exact HK.out | apply KeepBut.set_ | apply keep_drewN | apply keep_drew | apply keep_alloc | refine keep_far ?_ GW165.out _) | exact HK.out))) : w.heap.size ≤ gb180))
           have n6_ := a_ ((Nat.le_trans HW0.out (by rw [hg]; exact (keep_size (w := w) (g := g) (row := none) (by repeat (first | (with_reducible first | exact HK.out | apply KeepBut.set_ | apply keep_drewN | apply keep_drew | apply keep_alloc | refine keep_far ?_ GW165.out _) | exact HK.out))) : w.heap.size ≤ gb180) : w0.heap.size ≤ gb180))
           have n7_ := nB_ hg BK165
           have n8_ := nC_ hg BK165
           have n9_ := a_ ((by rw [hg]; exact Nat.ne_of_lt (IsS87.lt (show IsS87 w0 _ g s0_0 s0_1 from by repeat (first | (with_reducible first | exact HI0.out | apply IsS87.alloc | apply IsS87.drewN | apply IsS87.drew | apply IsS87.set_0 | apply IsS87.set_1 | apply IsS87.far (hne := NB0_165.out)) | exact HI0.out))) : g ≠ gb180))
           have n10_ := a_ ((by rw [hg]; exact Nat.ne_of_gt (IsS87.lt (show IsS87 w0 _ g s0_0 s0_1 from by repeat (first | (with_reducible first | exact HI0.out | apply IsS87.alloc | apply IsS87.drewN | apply IsS87.drew | apply IsS87.set_0 | apply IsS87.set_1 | apply IsS87.far (hne := NB0_165.out)) | exact HI0.out))) : gb180 ≠ g))
           clear HI0
           clear BK165
           clear HK
           clear HB
           have HI0 := n0_
           have BK165 := n1_
           have HK := n2_
           have HB := n3_
           have BK180 := n4_
           have GW180 := n5_
           have GE180 := n6_
           have NB165_180 := n7_
           have NB180_165 := n8_
           have NB0_180 := n9_
           have NB180_0 := n10_
           clear n0_ n1_ n2_ n3_ n4_ n5_ n6_ n7_ n8_ n9_ n10_
           clear hb hbox hg
           refine hK.out _ _ trivial (fun hHeld => ?_)
           clear hK K
           refine norm_ (a' := ?_) ?_ ?_
           rotate_left
           ·show Act.put _ (some 3) _ = _
            simp only [Act.put, List.setIfInBounds_toArray, List.set_cons_zero, List.set_cons_succ, i64_w, i32_w]
            rfl
           exact norm_ (by first | (simp only [putAll, Act.put, List.setIfInBounds_toArray, List.set_cons_zero, List.set_cons_succ]; done) | (simp only [putAll, Act.put, List.setIfInBounds_toArray, List.set_cons_zero, List.set_cons_succ]; rfl)) (hJ17 (gb180) _ ⟨(bk_ BK165), (bk_ BK180), GW180.out, GE180.out, NB0_180.out, NB180_0.out, NB165_180.out, NB180_165.out, (by repeat (first | (with_reducible first | exact HI0.out | apply IsS87.alloc | apply IsS87.drewN | apply IsS87.drew | apply IsS87.set_0 | apply IsS87.set_1 | apply IsS87.far (hne := NB0_165.out) | apply IsS87.far (hne := NB0_180.out)) | exact HI0.out)), (by repeat (first | (with_reducible first | exact HK.out | apply KeepBut.set_ | apply keep_drewN | apply keep_drew | apply keep_alloc | refine keep_far ?_ GW165.out _ | refine keep_far ?_ GW180.out _) | exact HK.out)), (by repeat (first | (with_reducible first | exact HB.out | apply below_alloc | apply pw_below_drewN | apply below_drew1 | refine below_set ?_ (IsS87.ge HI0.out) | refine below_set ?_ GE165.out | refine below_set ?_ GE180.out) | exact HB.out))⟩)
         ·skip
          rintro gb180 w31 ⟨h0_, h1_, h2_, h3_, h4_, h5_, h6_, h7_, h8_, h9_, h10_⟩
          have n0_ : Aside0 (w31.heap[gb165]? = some (.cells #[.int .u64 0, .int .u64 0, .slice none 0 0, .string (⟨#[]⟩ : ByteArray)] 35 (0, 0))) := ⟨h0_⟩
          have n1_ : Aside0 (w31.heap[gb180]? = some (.cells #[.int .u64 0, .int .u64 0, .slice none 0 0, .string (⟨#[]⟩ : ByteArray)] 35 (0, 0))) := ⟨h1_⟩
          have n2_ : Aside0 (w.heap.size ≤ gb180) := ⟨h2_⟩
          have n3_ : Aside0 (w0.heap.size ≤ gb180) := ⟨h3_⟩
          have n4_ : Aside0 (g ≠ gb180) := ⟨h4_⟩
          have n5_ : Aside0 (gb180 ≠ g) := ⟨h5_⟩
          have n6_ : Aside0 (gb165 ≠ gb180) := ⟨h6_⟩
          have n7_ : Aside0 (gb180 ≠ gb165) := ⟨h7_⟩
          have n8_ : Aside0 (IsS87 w0 w31 g s0_0 s0_1) := ⟨h8_⟩
          have n9_ : Aside0 (KeepBut w w31 g none) := ⟨h9_⟩
          have n10_ : Aside0 (Below w0.heap.size w0 w31) := ⟨h10_⟩
          clear BK165
          clear HI0
          clear HK
          clear HB
          clear h0_ h1_ h2_ h3_ h4_ h5_ h6_ h7_ h8_ h9_ h10_
          have BK165 := n0_
          have BK180 := n1_
          have GW180 := n2_
          have GE180 := n3_
          have NB0_180 := n4_
          have NB180_0 := n5_
          have NB165_180 := n6_
          have NB180_165 := n7_
          have HI0 := n8_
          have HK := n9_
          have HB := n10_
          clear n0_ n1_ n2_ n3_ n4_ n5_ n6_ n7_ n8_ n9_ n10_
          have hHeld := trivial
          refine norm_ (a' := ?_) ?_ ?_
          rotate_left
          ·simp only [putAll, Act.put, List.setIfInBounds_toArray, List.set_cons_zero, List.set_cons_succ]
           rfl
          refine one_ (i := 3) (N := some 7) #[true, true, true, true, true, true, true, false, true, true, true, false, true, true, true, false, false, true, false] rfl rfl (one_of HT_.out (by kernel_rfl)) (by decide) (fun K hK => ?_)
          refine goes_ Try.func53 (by kernel_rfl) rfl #[.pointer (some ⟨g, 0, none⟩)] (by rfl) rfl rfl (ar_) ?_
          with_reducible refine (wal_Taker_Number.calls k g s0_0 s0_1 t166 t167 t168 w0 _ ?side1 ?side2 A2.out).mono ?_
          (case side1 => repeat (first | (with_reducible first | exact HI0.out | apply IsS87.alloc | apply IsS87.drewN | apply IsS87.drew | apply IsS87.set_0 | apply IsS87.set_1 | apply IsS87.far (hne := NB0_165.out) | apply IsS87.far (hne := NB0_180.out)) | exact HI0.out))
          (case side2 => repeat (first | (with_reducible first | exact HB.out | apply below_alloc | apply pw_below_drewN | apply below_drew1 | refine below_set ?_ (IsS87.ge HI0.out) | refine below_set ?_ GE165.out | refine below_set ?_ GE180.out) | exact HB.out))
          rintro e w32 ⟨rfl, hi, hb, hk⟩
          refine ⟨_, rfl, ?_⟩
          have n0_ := a_ (KeepBut.blk hk (g' := gb165) (o := .cells #[.int .u64 0, .int .u64 0, .slice none 0 0, .string (⟨#[]⟩ : ByteArray)] 35 (0, 0)) (bk_ BK165) NB165_0.out (by simp))
          have n1_ := a_ (KeepBut.blk hk (g' := gb180) (o := .cells #[.int .u64 0, .int .u64 0, .slice none 0 0, .string (⟨#[]⟩ : ByteArray)] 35 (0, 0)) (bk_ BK180) NB180_0.out (by simp))
          have n2_ := a_ (KeepBut.trans (by repeat (first | (with_reducible first | exact HK.out | apply KeepBut.set_ | apply keep_drewN | apply keep_drew | apply keep_alloc | refine keep_far ?_ GW165.out _ | refine keep_far ?_ GW180.out _) | exact HK.out)) hk (.inl rfl))
          have n3_ := a_ (hb)
          have n4_ := a_ (hi)
          clear BK165
          clear BK180
          clear HK
          clear HB
          clear HI0
          have BK165 := n0_
          have BK180 := n1_
          have HK := n2_
          have HB := n3_
          have HI0 := n4_
          clear n0_ n1_ n2_ n3_ n4_
          (try clear hb)
          (try clear hb2)
          (try clear hk)
          (try clear hi)
          refine hK.out _ _ trivial (fun hHeld => ?_)
          clear hK K
          refine norm_ (a' := ?_) ?_ ?_
          rotate_left
          ·show Act.put _ (some 7) _ = _
           simp only [Act.put, List.setIfInBounds_toArray, List.set_cons_zero, List.set_cons_succ, i64_w, i32_w]
           rfl
          exact norm_ (by first | (simp only [putAll, Act.put, List.setIfInBounds_toArray, List.set_cons_zero, List.set_cons_succ]; done) | (simp only [putAll, Act.put, List.setIfInBounds_toArray, List.set_cons_zero, List.set_cons_succ]; rfl)) (hJ3_17 (gb180) _ ⟨(bk_ BK165), (bk_ BK180), GW180.out, GE180.out, NB0_180.out, NB180_0.out, NB165_180.out, NB180_165.out, (by repeat (first | (with_reducible first | exact HI0.out | apply IsS87.alloc | apply IsS87.drewN | apply IsS87.drew | apply IsS87.set_0 | apply IsS87.set_1 | apply IsS87.far (hne := NB0_165.out) | apply IsS87.far (hne := NB0_180.out)) | exact HI0.out)), (by repeat (first | (with_reducible first | exact HK.out | apply KeepBut.set_ | apply keep_drewN | apply keep_drew | apply keep_alloc | refine keep_far ?_ GW165.out _ | refine keep_far ?_ GW180.out _) | exact HK.out)), (by repeat (first | (with_reducible first | exact HB.out | apply below_alloc | apply pw_below_drewN | apply below_drew1 | refine below_set ?_ (IsS87.ge HI0.out) | refine below_set ?_ GE165.out | refine below_set ?_ GE180.out) | exact HB.out))⟩)
        ·skip
         rintro _ w31 ⟨h0_, h1_, h2_, h3_⟩
         have n0_ : Aside0 (w31.heap[gb165]? = some (.cells #[.int .u64 0, .int .u64 0, .slice none 0 0, .string (⟨#[]⟩ : ByteArray)] 35 (0, 0))) := ⟨h0_⟩
         have n1_ : Aside0 (IsS87 w0 w31 g t167 t168) := ⟨h1_⟩
         have n2_ : Aside0 (KeepBut w w31 g none) := ⟨h2_⟩
         have n3_ : Aside0 (Below w0.heap.size w0 w31) := ⟨h3_⟩
         clear BK165
         clear HI0
         clear HK
         clear HB
         clear h0_ h1_ h2_ h3_
         have BK165 := n0_
         have HI0 := n1_
         have HK := n2_
         have HB := n3_
         clear n0_ n1_ n2_ n3_
         have hHeld := trivial
         refine norm_ (a' := ?_) ?_ ?_
         rotate_left
         ·simp only [putAll, Act.put, List.setIfInBounds_toArray, List.set_cons_zero, List.set_cons_succ]
          rfl
         refine two_ (i := 7) (j := 17) (Ni := some 11) (Nj := some 3) #[true, true, true, true, true, true, true, true, true, true, true, false, true, true, true, false, false, false, false] #[true, true, true, true, true, true, true, false, true, true, true, false, true, true, true, false, false, true, false] rfl rfl rfl rfl (two_of HT_.out (by kernel_rfl)) (by decide) (by decide) (fun K hK => ?_) (fun K hK => ?_)
         ·skip
          refine goes_ Try.func53 (by kernel_rfl) rfl #[.pointer (some ⟨g, 0, none⟩)] (by rfl) rfl rfl (ar_) ?_
          with_reducible refine (wal_Taker_Number.calls k g t167 t168 t169 t170 t171 w0 _ ?side1 ?side2 A3.out).mono ?_
          (case side1 => repeat (first | (with_reducible first | exact HI0.out | apply IsS87.alloc | apply IsS87.drewN | apply IsS87.drew | apply IsS87.set_0 | apply IsS87.set_1 | apply IsS87.far (hne := NB0_165.out)) | exact HI0.out))
          (case side2 => repeat (first | (with_reducible first | exact HB.out | apply below_alloc | apply pw_below_drewN | apply below_drew1 | refine below_set ?_ (IsS87.ge HI0.out) | refine below_set ?_ GE165.out) | exact HB.out))
          rintro e w32 ⟨rfl, hi, hb, hk⟩
          refine ⟨_, rfl, ?_⟩
          have n0_ := a_ (KeepBut.blk hk (g' := gb165) (o := .cells #[.int .u64 0, .int .u64 0, .slice none 0 0, .string (⟨#[]⟩ : ByteArray)] 35 (0, 0)) (bk_ BK165) NB165_0.out (by simp))
          have n1_ := a_ (KeepBut.trans (by repeat (first | (with_reducible first | exact HK.out | apply KeepBut.set_ | apply keep_drewN | apply keep_drew | apply keep_alloc | refine keep_far ?_ GW165.out _) | exact HK.out)) hk (.inl rfl))
          have n2_ := a_ (hb)
          have n3_ := a_ (hi)
          clear BK165
          clear HK
          clear HB
          clear HI0
          have BK165 := n0_
          have HK := n1_
          have HB := n2_
          have HI0 := n3_
          clear n0_ n1_ n2_ n3_
          (try clear hb)
          (try clear hb2)
          (try clear hk)
          (try clear hi)
          refine hK.out _ _ trivial (fun hHeld => ?_)
          clear hK K
          refine norm_ (a' := ?_) ?_ ?_
          rotate_left
          ·show Act.put _ (some 11) _ = _
           simp only [Act.put, List.setIfInBounds_toArray, List.set_cons_zero, List.set_cons_succ, i64_w, i32_w]
           rfl
          exact norm_ (by first | (simp only [putAll, Act.put, List.setIfInBounds_toArray, List.set_cons_zero, List.set_cons_succ]; done) | (simp only [putAll, Act.put, List.setIfInBounds_toArray, List.set_cons_zero, List.set_cons_succ]; rfl)) (hJ3_7 () _ ⟨(bk_ BK165), (by repeat (first | (with_reducible first | exact HI0.out | apply IsS87.alloc | apply IsS87.drewN | apply IsS87.drew | apply IsS87.set_0 | apply IsS87.set_1 | apply IsS87.far (hne := NB0_165.out)) | exact HI0.out)), (by repeat (first | (with_reducible first | exact HK.out | apply KeepBut.set_ | apply keep_drewN | apply keep_drew | apply keep_alloc | refine keep_far ?_ GW165.out _) | exact HK.out)), (by repeat (first | (with_reducible first | exact HB.out | apply below_alloc | apply pw_below_drewN | apply below_drew1 | refine below_set ?_ (IsS87.ge HI0.out) | refine below_set ?_ GE165.out) | exact HB.out))⟩)
         ·skip
          refine box_step ?hg (N := 3) ?hd (cs := #[.int .u64 0, .int .u64 0, .slice none 0 0, .string (⟨#[]⟩ : ByteArray)]) (t := 35) ?hr ?_; (case hd => rfl); (case hg => rfl); (case hr => first | (go_simp; done) | (go_simp; rfl))
          intro gb180 hg w32 hbox hb
          have n0_ := a_ (IsS87.below (by repeat (first | (with_reducible first | exact HI0.out | apply IsS87.alloc | apply IsS87.drewN | apply IsS87.drew | apply IsS87.set_0 | apply IsS87.set_1 | apply IsS87.far (hne := NB0_165.out)) | exact HI0.out)) hb)
          have n1_ := bB_ BK165 hb
          have n2_ := a_ (KeepBut.trans (by repeat (first | (with_reducible first | exact HK.out | apply KeepBut.set_ | apply keep_drewN | apply keep_drew | apply keep_alloc | refine keep_far ?_ GW165.out _) | exact HK.out)) (KeepBut.of_below hb g none) (.inl rfl))
          have n3_ := a_ (below_step (by repeat (first | (with_reducible first | exact HB.out | apply below_alloc | apply pw_below_drewN | apply below_drew1 | refine below_set ?_ (IsS87.ge HI0.out) | refine below_set ?_ GE165.out) | exact HB.out)) hb)
          have n4_ := a_ (hbox)
          have n5_ := a_ ((by rw [hg]; exact (keep_size (w := w) (g := g) (row := none) (by repeat (first | (with_reducible first | exact HK.out | apply KeepBut.set_ | apply keep_drewN | apply keep_drew | apply keep_alloc | refine keep_far ?_ GW165.out _) | exact HK.out))) : w.heap.size ≤ gb180))
          have n6_ := a_ ((Nat.le_trans HW0.out (by rw [hg]; exact (keep_size (w := w) (g := g) (row := none) (by repeat (first | (with_reducible first | exact HK.out | apply KeepBut.set_ | apply keep_drewN | apply keep_drew | apply keep_alloc | refine keep_far ?_ GW165.out _) | exact HK.out))) : w.heap.size ≤ gb180) : w0.heap.size ≤ gb180))
          have n7_ := nB_ hg BK165
          have n8_ := nC_ hg BK165
          have n9_ := a_ ((by rw [hg]; exact Nat.ne_of_lt (IsS87.lt (show IsS87 w0 _ g t167 t168 from by repeat (first | (with_reducible first | exact HI0.out | apply IsS87.alloc | apply IsS87.drewN | apply IsS87.drew | apply IsS87.set_0 | apply IsS87.set_1 | apply IsS87.far (hne := NB0_165.out)) | exact HI0.out))) : g ≠ gb180))
          have n10_ := a_ ((by rw [hg]; exact Nat.ne_of_gt (IsS87.lt (show IsS87 w0 _ g t167 t168 from by repeat (first | (with_reducible first | exact HI0.out | apply IsS87.alloc | apply IsS87.drewN | apply IsS87.drew | apply IsS87.set_0 | apply IsS87.set_1 | apply IsS87.far (hne := NB0_165.out)) | exact HI0.out))) : gb180 ≠ g))
          clear HI0
          clear BK165
          clear HK
          clear HB
          have HI0 := n0_
          have BK165 := n1_
          have HK := n2_
          have HB := n3_
          have BK180 := n4_
          have GW180 := n5_
          have GE180 := n6_
          have NB165_180 := n7_
          have NB180_165 := n8_
          have NB0_180 := n9_
          have NB180_0 := n10_
          clear n0_ n1_ n2_ n3_ n4_ n5_ n6_ n7_ n8_ n9_ n10_
          clear hb hbox hg
          refine hK.out _ _ trivial (fun hHeld => ?_)
          clear hK K
          refine norm_ (a' := ?_) ?_ ?_
          rotate_left
          ·show Act.put _ (some 3) _ = _
           simp only [Act.put, List.setIfInBounds_toArray, List.set_cons_zero, List.set_cons_succ, i64_w, i32_w]
           rfl
          exact norm_ (by first | (simp only [putAll, Act.put, List.setIfInBounds_toArray, List.set_cons_zero, List.set_cons_succ]; done) | (simp only [putAll, Act.put, List.setIfInBounds_toArray, List.set_cons_zero, List.set_cons_succ]; rfl)) (hJ3_17 (gb180) _ ⟨(bk_ BK165), (bk_ BK180), GW180.out, GE180.out, NB0_180.out, NB180_0.out, NB165_180.out, NB180_165.out, (by repeat (first | (with_reducible first | exact HI0.out | apply IsS87.alloc | apply IsS87.drewN | apply IsS87.drew | apply IsS87.set_0 | apply IsS87.set_1 | apply IsS87.far (hne := NB0_165.out) | apply IsS87.far (hne := NB0_180.out)) | exact HI0.out)), (by repeat (first | (with_reducible first | exact HK.out | apply KeepBut.set_ | apply keep_drewN | apply keep_drew | apply keep_alloc | refine keep_far ?_ GW165.out _ | refine keep_far ?_ GW180.out _) | exact HK.out)), (by repeat (first | (with_reducible first | exact HB.out | apply below_alloc | apply pw_below_drewN | apply below_drew1 | refine below_set ?_ (IsS87.ge HI0.out) | refine below_set ?_ GE165.out | refine below_set ?_ GE180.out) | exact HB.out))⟩)
       ·skip
        rintro gb180 w32 ⟨h0_, h1_, h2_, h3_, h4_, h5_, h6_, h7_, h8_, h9_, h10_⟩
        have n0_ : Aside0 (w32.heap[gb165]? = some (.cells #[.int .u64 0, .int .u64 0, .slice none 0 0, .string (⟨#[]⟩ : ByteArray)] 35 (0, 0))) := ⟨h0_⟩
        have n1_ : Aside0 (w32.heap[gb180]? = some (.cells #[.int .u64 0, .int .u64 0, .slice none 0 0, .string (⟨#[]⟩ : ByteArray)] 35 (0, 0))) := ⟨h1_⟩
        have n2_ : Aside0 (w.heap.size ≤ gb180) := ⟨h2_⟩
        have n3_ : Aside0 (w0.heap.size ≤ gb180) := ⟨h3_⟩
        have n4_ : Aside0 (g ≠ gb180) := ⟨h4_⟩
        have n5_ : Aside0 (gb180 ≠ g) := ⟨h5_⟩
        have n6_ : Aside0 (gb165 ≠ gb180) := ⟨h6_⟩
        have n7_ : Aside0 (gb180 ≠ gb165) := ⟨h7_⟩
        have n8_ : Aside0 (IsS87 w0 w32 g t167 t168) := ⟨h8_⟩
        have n9_ : Aside0 (KeepBut w w32 g none) := ⟨h9_⟩
        have n10_ : Aside0 (Below w0.heap.size w0 w32) := ⟨h10_⟩
        clear BK165
        clear HI0
        clear HK
        clear HB
        clear h0_ h1_ h2_ h3_ h4_ h5_ h6_ h7_ h8_ h9_ h10_
        have BK165 := n0_
        have BK180 := n1_
        have GW180 := n2_
        have GE180 := n3_
        have NB0_180 := n4_
        have NB180_0 := n5_
        have NB165_180 := n6_
        have NB180_165 := n7_
        have HI0 := n8_
        have HK := n9_
        have HB := n10_
        clear n0_ n1_ n2_ n3_ n4_ n5_ n6_ n7_ n8_ n9_ n10_
        have hHeld := trivial
        refine norm_ (a' := ?_) ?_ ?_
        rotate_left
        ·simp only [putAll, Act.put, List.setIfInBounds_toArray, List.set_cons_zero, List.set_cons_succ]
         rfl
        refine one_ (i := 7) (N := some 11) #[true, true, true, true, true, true, true, true, true, true, true, false, true, true, true, false, false, true, false] rfl rfl (one_of HT_.out (by kernel_rfl)) (by decide) (fun K hK => ?_)
        refine goes_ Try.func53 (by kernel_rfl) rfl #[.pointer (some ⟨g, 0, none⟩)] (by rfl) rfl rfl (ar_) ?_
        with_reducible refine (wal_Taker_Number.calls k g t167 t168 t169 t170 t171 w0 _ ?side1 ?side2 A3.out).mono ?_
        (case side1 => repeat (first | (with_reducible first | exact HI0.out | apply IsS87.alloc | apply IsS87.drewN | apply IsS87.drew | apply IsS87.set_0 | apply IsS87.set_1 | apply IsS87.far (hne := NB0_165.out) | apply IsS87.far (hne := NB0_180.out)) | exact HI0.out))
        (case side2 => repeat (first | (with_reducible first | exact HB.out | apply below_alloc | apply pw_below_drewN | apply below_drew1 | refine below_set ?_ (IsS87.ge HI0.out) | refine below_set ?_ GE165.out | refine below_set ?_ GE180.out) | exact HB.out))
        rintro e w33 ⟨rfl, hi, hb, hk⟩
        refine ⟨_, rfl, ?_⟩
        have n0_ := a_ (KeepBut.blk hk (g' := gb165) (o := .cells #[.int .u64 0, .int .u64 0, .slice none 0 0, .string (⟨#[]⟩ : ByteArray)] 35 (0, 0)) (bk_ BK165) NB165_0.out (by simp))
        have n1_ := a_ (KeepBut.blk hk (g' := gb180) (o := .cells #[.int .u64 0, .int .u64 0, .slice none 0 0, .string (⟨#[]⟩ : ByteArray)] 35 (0, 0)) (bk_ BK180) NB180_0.out (by simp))
        have n2_ := a_ (KeepBut.trans (by repeat (first | (with_reducible first | exact HK.out | apply KeepBut.set_ | apply keep_drewN | apply keep_drew | apply keep_alloc | refine keep_far ?_ GW165.out _ | refine keep_far ?_ GW180.out _) | exact HK.out)) hk (.inl rfl))
        have n3_ := a_ (hb)
        have n4_ := a_ (hi)
        clear BK165
        clear BK180
        clear HK
        clear HB
        clear HI0
        have BK165 := n0_
        have BK180 := n1_
        have HK := n2_
        have HB := n3_
        have HI0 := n4_
        clear n0_ n1_ n2_ n3_ n4_
        (try clear hb)
        (try clear hb2)
        (try clear hk)
        (try clear hi)
        refine hK.out _ _ trivial (fun hHeld => ?_)
        clear hK K
        refine norm_ (a' := ?_) ?_ ?_
        rotate_left
        ·show Act.put _ (some 11) _ = _
         simp only [Act.put, List.setIfInBounds_toArray, List.set_cons_zero, List.set_cons_succ, i64_w, i32_w]
         rfl
        exact norm_ (by first | (simp only [putAll, Act.put, List.setIfInBounds_toArray, List.set_cons_zero, List.set_cons_succ]; done) | (simp only [putAll, Act.put, List.setIfInBounds_toArray, List.set_cons_zero, List.set_cons_succ]; rfl)) (hJ3_7_17 (gb180) _ ⟨(bk_ BK165), (bk_ BK180), GW180.out, GE180.out, NB0_180.out, NB180_0.out, NB165_180.out, NB180_165.out, (by repeat (first | (with_reducible first | exact HI0.out | apply IsS87.alloc | apply IsS87.drewN | apply IsS87.drew | apply IsS87.set_0 | apply IsS87.set_1 | apply IsS87.far (hne := NB0_165.out) | apply IsS87.far (hne := NB0_180.out)) | exact HI0.out)), (by repeat (first | (with_reducible first | exact HK.out | apply KeepBut.set_ | apply keep_drewN | apply keep_drew | apply keep_alloc | refine keep_far ?_ GW165.out _ | refine keep_far ?_ GW180.out _) | exact HK.out)), (by repeat (first | (with_reducible first | exact HB.out | apply below_alloc | apply pw_below_drewN | apply below_drew1 | refine below_set ?_ (IsS87.ge HI0.out) | refine below_set ?_ GE165.out | refine below_set ?_ GE180.out) | exact HB.out))⟩)
      ·skip
       rintro _ w32 ⟨h0_, h1_, h2_, h3_⟩
       have n0_ : Aside0 (w32.heap[gb165]? = some (.cells #[.int .u64 0, .int .u64 0, .slice none 0 0, .string (⟨#[]⟩ : ByteArray)] 35 (0, 0))) := ⟨h0_⟩
       have n1_ : Aside0 (IsS87 w0 w32 g t170 t171) := ⟨h1_⟩
       have n2_ : Aside0 (KeepBut w w32 g none) := ⟨h2_⟩
       have n3_ : Aside0 (Below w0.heap.size w0 w32) := ⟨h3_⟩
       clear BK165
       clear HI0
       clear HK
       clear HB
       clear h0_ h1_ h2_ h3_
       have BK165 := n0_
       have HI0 := n1_
       have HK := n2_
       have HB := n3_
       clear n0_ n1_ n2_ n3_
       have hHeld := trivial
       refine norm_ (a' := ?_) ?_ ?_
       rotate_left
       ·simp only [putAll, Act.put, List.setIfInBounds_toArray, List.set_cons_zero, List.set_cons_succ]
        rfl
       refine two_ (i := 11) (j := 17) (Ni := some 15) (Nj := some 3) #[true, true, true, true, true, true, true, true, true, true, true, true, true, true, true, false, false, false, false] #[true, true, true, true, true, true, true, true, true, true, true, false, true, true, true, false, false, true, false] rfl rfl rfl rfl (two_of HT_.out (by kernel_rfl)) (by decide) (by decide) (fun K hK => ?_) (fun K hK => ?_)
       ·skip
        refine goes_ Try.func88 (by kernel_rfl) rfl #[.pointer (some ⟨g, 0, none⟩)] (by rfl) rfl rfl (ar_) ?_
        with_reducible refine (wal_Taker_Ints.calls k g t170 t171 t172 t175 t176 w0 _ ?side1 ?side2 A4.out).mono ?_
        (case side1 => repeat (first | (with_reducible first | exact HI0.out | apply IsS87.alloc | apply IsS87.drewN | apply IsS87.drew | apply IsS87.set_0 | apply IsS87.set_1 | apply IsS87.far (hne := NB0_165.out)) | exact HI0.out))
        (case side2 => repeat (first | (with_reducible first | exact HB.out | apply below_alloc | apply pw_below_drewN | apply below_drew1 | refine below_set ?_ (IsS87.ge HI0.out) | refine below_set ?_ GE165.out) | exact HB.out))
        rintro e w33 ⟨v173, rfl, ho0, hi, hb, hk⟩
        refine ⟨_, rfl, ?_⟩
        have n0_ := a_ (KeepBut.blk hk (g' := gb165) (o := .cells #[.int .u64 0, .int .u64 0, .slice none 0 0, .string (⟨#[]⟩ : ByteArray)] 35 (0, 0)) (bk_ BK165) NB165_0.out (by simp))
        have n1_ := a_ (Kd.R_lower ho0 (keep_size (w := w) (g := g) (row := none) (by repeat (first | (with_reducible first | exact HK.out | apply KeepBut.set_ | apply keep_drewN | apply keep_drew | apply keep_alloc | refine keep_far ?_ GW165.out _) | exact HK.out))))
        have n2_ := a_ (KeepBut.trans (by repeat (first | (with_reducible first | exact HK.out | apply KeepBut.set_ | apply keep_drewN | apply keep_drew | apply keep_alloc | refine keep_far ?_ GW165.out _) | exact HK.out)) hk (.inl rfl))
        have n3_ := a_ (hb)
        have n4_ := a_ (hi)
        clear BK165
        clear HK
        clear HB
        clear HI0
        have BK165 := n0_
        have HO174 := n1_
        have HK := n2_
        have HB := n3_
        have HI0 := n4_
        clear n0_ n1_ n2_ n3_ n4_
        (try clear hb)
        (try clear hb2)
        (try clear hk)
        (try clear hi)
        (try clear ho0)
        refine hK.out _ _ trivial (fun hHeld => ?_)
        clear hK K
        refine norm_ (a' := ?_) ?_ ?_
        rotate_left
        ·show Act.put _ (some 15) _ = _
         simp only [Act.put, List.setIfInBounds_toArray, List.set_cons_zero, List.set_cons_succ, i64_w, i32_w]
         rfl
        exact norm_ (by first | (simp only [putAll, Act.put, List.setIfInBounds_toArray, List.set_cons_zero, List.set_cons_succ]; done) | (simp only [putAll, Act.put, List.setIfInBounds_toArray, List.set_cons_zero, List.set_cons_succ]; rfl)) (hJ3_7_11 (v173) _ ⟨(by refine rq_ ?_; exact HO174.out), (bk_ BK165), (by repeat (first | (with_reducible first | exact HI0.out | apply IsS87.alloc | apply IsS87.drewN | apply IsS87.drew | apply IsS87.set_0 | apply IsS87.set_1 | apply IsS87.far (hne := NB0_165.out)) | exact HI0.out)), (by repeat (first | (with_reducible first | exact HK.out | apply KeepBut.set_ | apply keep_drewN | apply keep_drew | apply keep_alloc | refine keep_far ?_ GW165.out _) | exact HK.out)), (by repeat (first | (with_reducible first | exact HB.out | apply below_alloc | apply pw_below_drewN | apply below_drew1 | refine below_set ?_ (IsS87.ge HI0.out) | refine below_set ?_ GE165.out) | exact HB.out))⟩)
       ·skip
        refine box_step ?hg (N := 3) ?hd (cs := #[.int .u64 0, .int .u64 0, .slice none 0 0, .string (⟨#[]⟩ : ByteArray)]) (t := 35) ?hr ?_; (case hd => rfl); (case hg => rfl); (case hr => first | (go_simp; done) | (go_simp; rfl))
        intro gb180 hg w33 hbox hb
        have n0_ := a_ (IsS87.below (by repeat (first | (with_reducible first | exact HI0.out | apply IsS87.alloc | apply IsS87.drewN | apply IsS87.drew | apply IsS87.set_0 | apply IsS87.set_1 | apply IsS87.far (hne := NB0_165.out)) | exact HI0.out)) hb)
        have n1_ := bB_ BK165 hb
        have n2_ := a_ (KeepBut.trans (by repeat (first | (with_reducible first | exact HK.out | apply KeepBut.set_ | apply keep_drewN | apply keep_drew | apply keep_alloc | refine keep_far ?_ GW165.out _) | exact HK.out)) (KeepBut.of_below hb g none) (.inl rfl))
        have n3_ := a_ (below_step (by repeat (first | (with_reducible first | exact HB.out | apply below_alloc | apply pw_below_drewN | apply below_drew1 | refine below_set ?_ (IsS87.ge HI0.out) | refine below_set ?_ GE165.out) | exact HB.out)) hb)
        have n4_ := a_ (hbox)
        have n5_ := a_ ((by rw [hg]; exact (keep_size (w := w) (g := g) (row := none) (by repeat (first | (with_reducible first | exact HK.out | apply KeepBut.set_ | apply keep_drewN | apply keep_drew | apply keep_alloc | refine keep_far ?_ GW165.out _) | exact HK.out))) : w.heap.size ≤ gb180))
        have n6_ := a_ ((Nat.le_trans HW0.out (by rw [hg]; exact (keep_size (w := w) (g := g) (row := none) (by repeat (first | (with_reducible first | exact HK.out | apply KeepBut.set_ | apply keep_drewN | apply keep_drew | apply keep_alloc | refine keep_far ?_ GW165.out _) | exact HK.out))) : w.heap.size ≤ gb180) : w0.heap.size ≤ gb180))
        have n7_ := nB_ hg BK165
        have n8_ := nC_ hg BK165
        have n9_ := a_ ((by rw [hg]; exact Nat.ne_of_lt (IsS87.lt (show IsS87 w0 _ g t170 t171 from by repeat (first | (with_reducible first | exact HI0.out | apply IsS87.alloc | apply IsS87.drewN | apply IsS87.drew | apply IsS87.set_0 | apply IsS87.set_1 | apply IsS87.far (hne := NB0_165.out)) | exact HI0.out))) : g ≠ gb180))
        have n10_ := a_ ((by rw [hg]; exact Nat.ne_of_gt (IsS87.lt (show IsS87 w0 _ g t170 t171 from by repeat (first | (with_reducible first | exact HI0.out | apply IsS87.alloc | apply IsS87.drewN | apply IsS87.drew | apply IsS87.set_0 | apply IsS87.set_1 | apply IsS87.far (hne := NB0_165.out)) | exact HI0.out))) : gb180 ≠ g))
        clear HI0
        clear BK165
        clear HK
        clear HB
        have HI0 := n0_
        have BK165 := n1_
        have HK := n2_
        have HB := n3_
        have BK180 := n4_
        have GW180 := n5_
        have GE180 := n6_
        have NB165_180 := n7_
        have NB180_165 := n8_
        have NB0_180 := n9_
        have NB180_0 := n10_
        clear n0_ n1_ n2_ n3_ n4_ n5_ n6_ n7_ n8_ n9_ n10_
        clear hb hbox hg
        refine hK.out _ _ trivial (fun hHeld => ?_)
        clear hK K
        refine norm_ (a' := ?_) ?_ ?_
        rotate_left
        ·show Act.put _ (some 3) _ = _
         simp only [Act.put, List.setIfInBounds_toArray, List.set_cons_zero, List.set_cons_succ, i64_w, i32_w]
         rfl
        exact norm_ (by first | (simp only [putAll, Act.put, List.setIfInBounds_toArray, List.set_cons_zero, List.set_cons_succ]; done) | (simp only [putAll, Act.put, List.setIfInBounds_toArray, List.set_cons_zero, List.set_cons_succ]; rfl)) (hJ3_7_17 (gb180) _ ⟨(bk_ BK165), (bk_ BK180), GW180.out, GE180.out, NB0_180.out, NB180_0.out, NB165_180.out, NB180_165.out, (by repeat (first | (with_reducible first | exact HI0.out | apply IsS87.alloc | apply IsS87.drewN | apply IsS87.drew | apply IsS87.set_0 | apply IsS87.set_1 | apply IsS87.far (hne := NB0_165.out) | apply IsS87.far (hne := NB0_180.out)) | exact HI0.out)), (by repeat (first | (with_reducible first | exact HK.out | apply KeepBut.set_ | apply keep_drewN | apply keep_drew | apply keep_alloc | refine keep_far ?_ GW165.out _ | refine keep_far ?_ GW180.out _) | exact HK.out)), (by repeat (first | (with_reducible first | exact HB.out | apply below_alloc | apply pw_below_drewN | apply below_drew1 | refine below_set ?_ (IsS87.ge HI0.out) | refine below_set ?_ GE165.out | refine below_set ?_ GE180.out) | exact HB.out))⟩)
     ·skip
      rintro gb180 w33 ⟨h0_, h1_, h2_, h3_, h4_, h5_, h6_, h7_, h8_, h9_, h10_⟩
      have n0_ : Aside0 (w33.heap[gb165]? = some (.cells #[.int .u64 0, .int .u64 0, .slice none 0 0, .string (⟨#[]⟩ : ByteArray)] 35 (0, 0))) := ⟨h0_⟩
      have n1_ : Aside0 (w33.heap[gb180]? = some (.cells #[.int .u64 0, .int .u64 0, .slice none 0 0, .string (⟨#[]⟩ : ByteArray)] 35 (0, 0))) := ⟨h1_⟩
      have n2_ : Aside0 (w.heap.size ≤ gb180) := ⟨h2_⟩
      have n3_ : Aside0 (w0.heap.size ≤ gb180) := ⟨h3_⟩
      have n4_ : Aside0 (g ≠ gb180) := ⟨h4_⟩
      have n5_ : Aside0 (gb180 ≠ g) := ⟨h5_⟩
      have n6_ : Aside0 (gb165 ≠ gb180) := ⟨h6_⟩
      have n7_ : Aside0 (gb180 ≠ gb165) := ⟨h7_⟩
      have n8_ : Aside0 (IsS87 w0 w33 g t170 t171) := ⟨h8_⟩
      have n9_ : Aside0 (KeepBut w w33 g none) := ⟨h9_⟩
      have n10_ : Aside0 (Below w0.heap.size w0 w33) := ⟨h10_⟩
      clear BK165
      clear HI0
      clear HK
      clear HB
      clear h0_ h1_ h2_ h3_ h4_ h5_ h6_ h7_ h8_ h9_ h10_
      have BK165 := n0_
      have BK180 := n1_
      have GW180 := n2_
      have GE180 := n3_
      have NB0_180 := n4_
      have NB180_0 := n5_
      have NB165_180 := n6_
      have NB180_165 := n7_
      have HI0 := n8_
      have HK := n9_
      have HB := n10_
      clear n0_ n1_ n2_ n3_ n4_ n5_ n6_ n7_ n8_ n9_ n10_
      have hHeld := trivial
      refine norm_ (a' := ?_) ?_ ?_
      rotate_left
      ·simp only [putAll, Act.put, List.setIfInBounds_toArray, List.set_cons_zero, List.set_cons_succ]
       rfl
      refine one_ (i := 11) (N := some 15) #[true, true, true, true, true, true, true, true, true, true, true, true, true, true, true, false, false, true, false] rfl rfl (one_of HT_.out (by kernel_rfl)) (by decide) (fun K hK => ?_)
      refine goes_ Try.func88 (by kernel_rfl) rfl #[.pointer (some ⟨g, 0, none⟩)] (by rfl) rfl rfl (ar_) ?_
      with_reducible refine (wal_Taker_Ints.calls k g t170 t171 t172 t175 t176 w0 _ ?side1 ?side2 A4.out).mono ?_
      (case side1 => repeat (first | (with_reducible first | exact HI0.out | apply IsS87.alloc | apply IsS87.drewN | apply IsS87.drew | apply IsS87.set_0 | apply IsS87.set_1 | apply IsS87.far (hne := NB0_165.out) | apply IsS87.far (hne := NB0_180.out)) | exact HI0.out))
      (case side2 => repeat (first | (with_reducible first | exact HB.out | apply below_alloc | apply pw_below_drewN | apply below_drew1 | refine below_set ?_ (IsS87.ge HI0.out) | refine below_set ?_ GE165.out | refine below_set ?_ GE180.out) | exact HB.out))
      rintro e w34 ⟨v173, rfl, ho0, hi, hb, hk⟩
      refine ⟨_, rfl, ?_⟩
      have n0_ := a_ (KeepBut.blk hk (g' := gb165) (o := .cells #[.int .u64 0, .int .u64 0, .slice none 0 0, .string (⟨#[]⟩ : ByteArray)] 35 (0, 0)) (bk_ BK165) NB165_0.out (by simp))
      have n1_ := a_ (KeepBut.blk hk (g' := gb180) (o := .cells #[.int .u64 0, .int .u64 0, .slice none 0 0, .string (⟨#[]⟩ : ByteArray)] 35 (0, 0)) (bk_ BK180) NB180_0.out (by simp))
      have n2_ := a_ (Kd.R_lower ho0 (keep_size (w := w) (g := g) (row := none) (by repeat (first | (with_reducible first | exact HK.out | apply KeepBut.set_ | apply keep_drewN | apply keep_drew | apply keep_alloc | refine keep_far ?_ GW165.out _ | refine keep_far ?_ GW180.out _) | exact HK.out))))
      have n3_ := a_ (KeepBut.trans (by repeat (first | (with_reducible first | exact HK.out | apply KeepBut.set_ | apply keep_drewN | apply keep_drew | apply keep_alloc | refine keep_far ?_ GW165.out _ | refine keep_far ?_ GW180.out _) | exact HK.out)) hk (.inl rfl))
      have n4_ := a_ (hb)
      have n5_ := a_ (hi)
      clear BK165
      clear BK180
      clear HK
      clear HB
      clear HI0
      have BK165 := n0_
      have BK180 := n1_
      have HO174 := n2_
      have HK := n3_
      have HB := n4_
      have HI0 := n5_
      clear n0_ n1_ n2_ n3_ n4_ n5_
      (try clear hb)
      (try clear hb2)
      (try clear hk)
      (try clear hi)
      (try clear ho0)
      refine hK.out _ _ trivial (fun hHeld => ?_)
      clear hK K
      refine norm_ (a' := ?_) ?_ ?_
      rotate_left
      ·show Act.put _ (some 15) _ = _
       simp only [Act.put, List.setIfInBounds_toArray, List.set_cons_zero, List.set_cons_succ, i64_w, i32_w]
       rfl
      exact norm_ (by first | (simp only [putAll, Act.put, List.setIfInBounds_toArray, List.set_cons_zero, List.set_cons_succ]; done) | (simp only [putAll, Act.put, List.setIfInBounds_toArray, List.set_cons_zero, List.set_cons_succ]; rfl)) (hJ3_7_11_17 (v173, gb180) _ ⟨(by refine rq_ ?_; exact HO174.out), (bk_ BK165), (bk_ BK180), GW180.out, GE180.out, NB0_180.out, NB180_0.out, NB165_180.out, NB180_165.out, (by repeat (first | (with_reducible first | exact HI0.out | apply IsS87.alloc | apply IsS87.drewN | apply IsS87.drew | apply IsS87.set_0 | apply IsS87.set_1 | apply IsS87.far (hne := NB0_165.out) | apply IsS87.far (hne := NB0_180.out)) | exact HI0.out)), (by repeat (first | (with_reducible first | exact HK.out | apply KeepBut.set_ | apply keep_drewN | apply keep_drew | apply keep_alloc | refine keep_far ?_ GW165.out _ | refine keep_far ?_ GW180.out _) | exact HK.out)), (by repeat (first | (with_reducible first | exact HB.out | apply below_alloc | apply pw_below_drewN | apply below_drew1 | refine below_set ?_ (IsS87.ge HI0.out) | refine below_set ?_ GE165.out | refine below_set ?_ GE180.out) | exact HB.out))⟩)
    ·skip
     rintro v173 w33 ⟨h0_, h1_, h2_, h3_, h4_⟩
     have n0_ : Aside0 (Kd.R (Kd.int .i64) 3 w33 w.heap.size (fun _ => True) v173 t172) := ⟨h0_⟩
     have n1_ : Aside0 (w33.heap[gb165]? = some (.cells #[.int .u64 0, .int .u64 0, .slice none 0 0, .string (⟨#[]⟩ : ByteArray)] 35 (0, 0))) := ⟨h1_⟩
     have n2_ : Aside0 (IsS87 w0 w33 g t175 t176) := ⟨h2_⟩
     have n3_ : Aside0 (KeepBut w w33 g none) := ⟨h3_⟩
     have n4_ : Aside0 (Below w0.heap.size w0 w33) := ⟨h4_⟩
     clear BK165
     clear HI0
     clear HK
     clear HB
     clear h0_ h1_ h2_ h3_ h4_
     have HO174 := n0_
     have BK165 := n1_
     have HI0 := n2_
     have HK := n3_
     have HB := n4_
     clear n0_ n1_ n2_ n3_ n4_
     have hHeld := trivial
     refine norm_ (a' := ?_) ?_ ?_
     rotate_left
     ·simp only [putAll, Act.put, List.setIfInBounds_toArray, List.set_cons_zero, List.set_cons_succ]
      rfl
     refine two_ (i := 15) (j := 17) (Ni := some 19) (Nj := some 3) #[true, true, true, true, true, true, true, true, true, true, true, true, true, true, true, true, false, false, false] #[true, true, true, true, true, true, true, true, true, true, true, true, true, true, true, false, false, true, false] rfl rfl rfl rfl (two_of HT_.out (by kernel_rfl)) (by decide) (by decide) (fun K hK => ?_) (fun K hK => ?_)
     ·skip
      refine goes_ Try.func59 (by kernel_rfl) rfl #[.pointer (some ⟨g, 0, none⟩)] (by rfl) rfl rfl (ar_) ?_
      with_reducible refine (wal_Taker_Text.calls k g t175 t176 t177 t178 false w0 _ ?side1 ?side2 A5.out).mono ?_
      (case side1 => repeat (first | (with_reducible first | exact HI0.out | apply IsS87.alloc | apply IsS87.drewN | apply IsS87.drew | apply IsS87.set_0 | apply IsS87.set_1 | apply IsS87.far (hne := NB0_165.out)) | exact HI0.out))
      (case side2 => repeat (first | (with_reducible first | exact HB.out | apply below_alloc | apply pw_below_drewN | apply below_drew1 | refine below_set ?_ (IsS87.ge HI0.out) | refine below_set ?_ GE165.out) | exact HB.out))
      rintro e w34 ⟨rfl, hi, hb, hk⟩
      refine ⟨_, rfl, ?_⟩
      have n0_ := a_ (KeepBut.blk hk (g' := gb165) (o := .cells #[.int .u64 0, .int .u64 0, .slice none 0 0, .string (⟨#[]⟩ : ByteArray)] 35 (0, 0)) (bk_ BK165) NB165_0.out (by simp))
      have n1_ := a_ (Kd.R_mono (Kd.R_keep (IsS87.apart (show IsS87 w0 _ g t175 t176 from by repeat (first | (with_reducible first | exact HI0.out | apply IsS87.alloc | apply IsS87.drewN | apply IsS87.drew | apply IsS87.set_0 | apply IsS87.set_1 | apply IsS87.far (hne := NB0_165.out)) | exact HI0.out)) (by refine rq_ ?_; exact HO174.out) (by decide)) hk (fun _ h => h.2)) (fun _ h => h.1))
      have n2_ := a_ (KeepBut.trans (by repeat (first | (with_reducible first | exact HK.out | apply KeepBut.set_ | apply keep_drewN | apply keep_drew | apply keep_alloc | refine keep_far ?_ GW165.out _) | exact HK.out)) hk (.inl rfl))
      have n3_ := a_ (hb)
      have n4_ := a_ (hi)
      clear BK165
      clear HO174
      clear HK
      clear HB
      clear HI0
      have BK165 := n0_
      have HO174 := n1_
      have HK := n2_
      have HB := n3_
      have HI0 := n4_
      clear n0_ n1_ n2_ n3_ n4_
      (try clear hb)
      (try clear hb2)
      (try clear hk)
      (try clear hi)
      obtain ⟨Ao35, co35, eo35⟩ := Kd.R_slice HO174.out
      (first | subst eo35 | (injection eo35 with f1_ f2_ f3_; have f4_ := f1_.symm; have f5_ := f3_.symm; clear f1_ f2_ f3_; subst f4_; subst f5_))
      refine hK.out _ _ trivial (fun hHeld => ?_)
      clear hK K
      refine norm_ (a' := ?_) ?_ ?_
      rotate_left
      ·show Act.put _ (some 19) _ = _
       simp only [Act.put, List.setIfInBounds_toArray, List.set_cons_zero, List.set_cons_succ, i64_w, i32_w]
       rfl
      refine pu_ HT_ 16 (some 20) ?_
      exact norm_ (by first | (simp only [putAll, Act.put, List.setIfInBounds_toArray, List.set_cons_zero, List.set_cons_succ]; done) | (simp only [putAll, Act.put, List.setIfInBounds_toArray, List.set_cons_zero, List.set_cons_succ]; rfl)) (hJ3_7_11_15 (.slice Ao35 t172.length co35) _ ⟨(by refine rq_ ?_; exact HO174.out), (bk_ BK165), (by repeat (first | (with_reducible first | exact HI0.out | apply IsS87.alloc | apply IsS87.drewN | apply IsS87.drew | apply IsS87.set_0 | apply IsS87.set_1 | apply IsS87.far (hne := NB0_165.out)) | exact HI0.out)), (by repeat (first | (with_reducible first | exact HK.out | apply KeepBut.set_ | apply keep_drewN | apply keep_drew | apply keep_alloc | refine keep_far ?_ GW165.out _) | exact HK.out)), (by repeat (first | (with_reducible first | exact HB.out | apply below_alloc | apply pw_below_drewN | apply below_drew1 | refine below_set ?_ (IsS87.ge HI0.out) | refine below_set ?_ GE165.out) | exact HB.out))⟩)
     ·skip
      refine box_step ?hg (N := 3) ?hd (cs := #[.int .u64 0, .int .u64 0, .slice none 0 0, .string (⟨#[]⟩ : ByteArray)]) (t := 35) ?hr ?_; (case hd => rfl); (case hg => rfl); (case hr => first | (go_simp; done) | (go_simp; rfl))
      intro gb180 hg w34 hbox hb
      have n0_ := a_ (Kd.R_below (by refine rq_ ?_; exact HO174.out) hb)
      have n1_ := a_ (IsS87.below (by repeat (first | (with_reducible first | exact HI0.out | apply IsS87.alloc | apply IsS87.drewN | apply IsS87.drew | apply IsS87.set_0 | apply IsS87.set_1 | apply IsS87.far (hne := NB0_165.out)) | exact HI0.out)) hb)
      have n2_ := bB_ BK165 hb
      have n3_ := a_ (KeepBut.trans (by repeat (first | (with_reducible first | exact HK.out | apply KeepBut.set_ | apply keep_drewN | apply keep_drew | apply keep_alloc | refine keep_far ?_ GW165.out _) | exact HK.out)) (KeepBut.of_below hb g none) (.inl rfl))
      have n4_ := a_ (below_step (by repeat (first | (with_reducible first | exact HB.out | apply below_alloc | apply pw_below_drewN | apply below_drew1 | refine below_set ?_ (IsS87.ge HI0.out) | refine below_set ?_ GE165.out) | exact HB.out)) hb)
      have n5_ := a_ (hbox)
      have n6_ := a_ ((by rw [hg]; exact (keep_size (w := w) (g := g) (row := none) (by repeat (first | (with_reducible first | exact HK.out | apply KeepBut.set_ | apply keep_drewN | apply keep_drew | apply keep_alloc | refine keep_far ?_ GW165.out _) | exact HK.out))) : w.heap.size ≤ gb180))
      have n7_ := a_ ((Nat.le_trans HW0.out (by rw [hg]; exact (keep_size (w := w) (g := g) (row := none) (by repeat (first | (with_reducible first | exact HK.out | apply KeepBut.set_ | apply keep_drewN | apply keep_drew | apply keep_alloc | refine keep_far ?_ GW165.out _) | exact HK.out))) : w.heap.size ≤ gb180) : w0.heap.size ≤ gb180))
      have n8_ := nB_ hg BK165
      have n9_ := nC_ hg BK165
      have n10_ := a_ ((by rw [hg]; exact Nat.ne_of_lt (IsS87.lt (show IsS87 w0 _ g t175 t176 from by repeat (first | (with_reducible first | exact HI0.out | apply IsS87.alloc | apply IsS87.drewN | apply IsS87.drew | apply IsS87.set_0 | apply IsS87.set_1 | apply IsS87.far (hne := NB0_165.out)) | exact HI0.out))) : g ≠ gb180))
      have n11_ := a_ ((by rw [hg]; exact Nat.ne_of_gt (IsS87.lt (show IsS87 w0 _ g t175 t176 from by repeat (first | (with_reducible first | exact HI0.out | apply IsS87.alloc | apply IsS87.drewN | apply IsS87.drew | apply IsS87.set_0 | apply IsS87.set_1 | apply IsS87.far (hne := NB0_165.out)) | exact HI0.out))) : gb180 ≠ g))
      clear HO174
      clear HI0
      clear BK165
      clear HK
      clear HB
      have HO174 := n0_
      have HI0 := n1_
      have BK165 := n2_
      have HK := n3_
      have HB := n4_
      have BK180 := n5_
      have GW180 := n6_
      have GE180 := n7_
      have NB165_180 := n8_
      have NB180_165 := n9_
      have NB0_180 := n10_
      have NB180_0 := n11_
      clear n0_ n1_ n2_ n3_ n4_ n5_ n6_ n7_ n8_ n9_ n10_ n11_
      clear hb hbox hg
      refine hK.out _ _ trivial (fun hHeld => ?_)
      clear hK K
      refine norm_ (a' := ?_) ?_ ?_
      rotate_left
      ·show Act.put _ (some 3) _ = _
       simp only [Act.put, List.setIfInBounds_toArray, List.set_cons_zero, List.set_cons_succ, i64_w, i32_w]
       rfl
      exact norm_ (by first | (simp only [putAll, Act.put, List.setIfInBounds_toArray, List.set_cons_zero, List.set_cons_succ]; done) | (simp only [putAll, Act.put, List.setIfInBounds_toArray, List.set_cons_zero, List.set_cons_succ]; rfl)) (hJ3_7_11_17 (v173, gb180) _ ⟨(by refine rq_ ?_; exact HO174.out), (bk_ BK165), (bk_ BK180), GW180.out, GE180.out, NB0_180.out, NB180_0.out, NB165_180.out, NB180_165.out, (by repeat (first | (with_reducible first | exact HI0.out | apply IsS87.alloc | apply IsS87.drewN | apply IsS87.drew | apply IsS87.set_0 | apply IsS87.set_1 | apply IsS87.far (hne := NB0_165.out) | apply IsS87.far (hne := NB0_180.out)) | exact HI0.out)), (by repeat (first | (with_reducible first | exact HK.out | apply KeepBut.set_ | apply keep_drewN | apply keep_drew | apply keep_alloc | refine keep_far ?_ GW165.out _ | refine keep_far ?_ GW180.out _) | exact HK.out)), (by repeat (first | (with_reducible first | exact HB.out | apply below_alloc | apply pw_below_drewN | apply below_drew1 | refine below_set ?_ (IsS87.ge HI0.out) | refine below_set ?_ GE165.out | refine below_set ?_ GE180.out) | exact HB.out))⟩)
   ·skip
    rintro ⟨v173, gb180⟩ w34 ⟨h0_, h1_, h2_, h3_, h4_, h5_, h6_, h7_, h8_, h9_, h10_, h11_⟩
    have n0_ : Aside0 (Kd.R (Kd.int .i64) 3 w34 w.heap.size (fun _ => True) v173 t172) := ⟨h0_⟩
    have n1_ : Aside0 (w34.heap[gb165]? = some (.cells #[.int .u64 0, .int .u64 0, .slice none 0 0, .string (⟨#[]⟩ : ByteArray)] 35 (0, 0))) := ⟨h1_⟩
    have n2_ : Aside0 (w34.heap[gb180]? = some (.cells #[.int .u64 0, .int .u64 0, .slice none 0 0, .string (⟨#[]⟩ : ByteArray)] 35 (0, 0))) := ⟨h2_⟩
    have n3_ : Aside0 (w.heap.size ≤ gb180) := ⟨h3_⟩
    have n4_ : Aside0 (w0.heap.size ≤ gb180) := ⟨h4_⟩
    have n5_ : Aside0 (g ≠ gb180) := ⟨h5_⟩
    have n6_ : Aside0 (gb180 ≠ g) := ⟨h6_⟩
    have n7_ : Aside0 (gb165 ≠ gb180) := ⟨h7_⟩
    have n8_ : Aside0 (gb180 ≠ gb165) := ⟨h8_⟩
    have n9_ : Aside0 (IsS87 w0 w34 g t175 t176) := ⟨h9_⟩
    have n10_ : Aside0 (KeepBut w w34 g none) := ⟨h10_⟩
    have n11_ : Aside0 (Below w0.heap.size w0 w34) := ⟨h11_⟩
    clear BK165
    clear HI0
    clear HK
    clear HB
    clear h0_ h1_ h2_ h3_ h4_ h5_ h6_ h7_ h8_ h9_ h10_ h11_
    have HO174 := n0_
    have BK165 := n1_
    have BK180 := n2_
    have GW180 := n3_
    have GE180 := n4_
    have NB0_180 := n5_
    have NB180_0 := n6_
    have NB165_180 := n7_
    have NB180_165 := n8_
    have HI0 := n9_
    have HK := n10_
    have HB := n11_
    clear n0_ n1_ n2_ n3_ n4_ n5_ n6_ n7_ n8_ n9_ n10_ n11_
    have hHeld := trivial
    refine norm_ (a' := ?_) ?_ ?_
    rotate_left
    ·simp only [putAll, Act.put, List.setIfInBounds_toArray, List.set_cons_zero, List.set_cons_succ]
     rfl
    refine one_ (i := 15) (N := some 19) #[true, true, true, true, true, true, true, true, true, true, true, true, true, true, true, true, false, true, false] rfl rfl (one_of HT_.out (by kernel_rfl)) (by decide) (fun K hK => ?_)
    refine goes_ Try.func59 (by kernel_rfl) rfl #[.pointer (some ⟨g, 0, none⟩)] (by rfl) rfl rfl (ar_) ?_
    with_reducible refine (wal_Taker_Text.calls k g t175 t176 t177 t178 false w0 _ ?side1 ?side2 A5.out).mono ?_
    (case side1 => repeat (first | (with_reducible first | exact HI0.out | apply IsS87.alloc | apply IsS87.drewN | apply IsS87.drew | apply IsS87.set_0 | apply IsS87.set_1 | apply IsS87.far (hne := NB0_165.out) | apply IsS87.far (hne := NB0_180.out)) | exact HI0.out))
    (case side2 => repeat (first | (with_reducible first | exact HB.out | apply below_alloc | apply pw_below_drewN | apply below_drew1 | refine below_set ?_ (IsS87.ge HI0.out) | refine below_set ?_ GE165.out | refine below_set ?_ GE180.out) | exact HB.out))
    rintro e w35 ⟨rfl, hi, hb, hk⟩
    refine ⟨_, rfl, ?_⟩
    have n0_ := a_ (KeepBut.blk hk (g' := gb165) (o := .cells #[.int .u64 0, .int .u64 0, .slice none 0 0, .string (⟨#[]⟩ : ByteArray)] 35 (0, 0)) (bk_ BK165) NB165_0.out (by simp))
    have n1_ := a_ (Kd.R_mono (Kd.R_keep (IsS87.apart (show IsS87 w0 _ g t175 t176 from by repeat (first | (with_reducible first | exact HI0.out | apply IsS87.alloc | apply IsS87.drewN | apply IsS87.drew | apply IsS87.set_0 | apply IsS87.set_1 | apply IsS87.far (hne := NB0_165.out) | apply IsS87.far (hne := NB0_180.out)) | exact HI0.out)) (by refine rq_ ?_; exact HO174.out) (by decide)) hk (fun _ h => h.2)) (fun _ h => h.1))
    have n2_ := a_ (KeepBut.blk hk (g' := gb180) (o := .cells #[.int .u64 0, .int .u64 0, .slice none 0 0, .string (⟨#[]⟩ : ByteArray)] 35 (0, 0)) (bk_ BK180) NB180_0.out (by simp))
    have n3_ := a_ (KeepBut.trans (by repeat (first | (with_reducible first | exact HK.out | apply KeepBut.set_ | apply keep_drewN | apply keep_drew | apply keep_alloc | refine keep_far ?_ GW165.out _ | refine keep_far ?_ GW180.out _) | exact HK.out)) hk (.inl rfl))
    have n4_ := a_ (hb)
    have n5_ := a_ (hi)
    clear BK165
    clear HO174
    clear BK180
    clear HK
    clear HB
    clear HI0
    have BK165 := n0_
    have HO174 := n1_
    have BK180 := n2_
    have HK := n3_
    have HB := n4_
    have HI0 := n5_
    clear n0_ n1_ n2_ n3_ n4_ n5_
    (try clear hb)
    (try clear hb2)
    (try clear hk)
    (try clear hi)
    obtain ⟨Ao36, co36, eo36⟩ := Kd.R_slice HO174.out
    (first | subst eo36 | (injection eo36 with f1_ f2_ f3_; have f4_ := f1_.symm; have f5_ := f3_.symm; clear f1_ f2_ f3_; subst f4_; subst f5_))
    refine hK.out _ _ trivial (fun hHeld => ?_)
    clear hK K
    refine norm_ (a' := ?_) ?_ ?_
    rotate_left
    ·show Act.put _ (some 19) _ = _
     simp only [Act.put, List.setIfInBounds_toArray, List.set_cons_zero, List.set_cons_succ, i64_w, i32_w]
     rfl
    refine pu_ HT_ 16 (some 20) ?_
    exact norm_ (by first | (simp only [putAll, Act.put, List.setIfInBounds_toArray, List.set_cons_zero, List.set_cons_succ]; done) | (simp only [putAll, Act.put, List.setIfInBounds_toArray, List.set_cons_zero, List.set_cons_succ]; rfl)) (hJ3_7_11_15_17 (.slice Ao36 t172.length co36, gb180) _ ⟨(by refine rq_ ?_; exact HO174.out), (bk_ BK165), (bk_ BK180), GW180.out, GE180.out, NB0_180.out, NB180_0.out, NB165_180.out, NB180_165.out, (by repeat (first | (with_reducible first | exact HI0.out | apply IsS87.alloc | apply IsS87.drewN | apply IsS87.drew | apply IsS87.set_0 | apply IsS87.set_1 | apply IsS87.far (hne := NB0_165.out) | apply IsS87.far (hne := NB0_180.out)) | exact HI0.out)), (by repeat (first | (with_reducible first | exact HK.out | apply KeepBut.set_ | apply keep_drewN | apply keep_drew | apply keep_alloc | refine keep_far ?_ GW165.out _ | refine keep_far ?_ GW180.out _) | exact HK.out)), (by repeat (first | (with_reducible first | exact HB.out | apply below_alloc | apply pw_below_drewN | apply below_drew1 | refine below_set ?_ (IsS87.ge HI0.out) | refine below_set ?_ GE165.out | refine below_set ?_ GE180.out) | exact HB.out))⟩)
  ·skip
   rintro v173 w35 ⟨h0_, h1_, h2_, h3_, h4_⟩
   have n0_ : Aside0 (Kd.R (Kd.int .i64) 3 w35 w.heap.size (fun _ => True) v173 t172) := ⟨h0_⟩
   have n1_ : Aside0 (w35.heap[gb165]? = some (.cells #[.int .u64 0, .int .u64 0, .slice none 0 0, .string (⟨#[]⟩ : ByteArray)] 35 (0, 0))) := ⟨h1_⟩
   have n2_ : Aside0 (IsS87 w0 w35 g t178 false) := ⟨h2_⟩
   have n3_ : Aside0 (KeepBut w w35 g none) := ⟨h3_⟩
   have n4_ : Aside0 (Below w0.heap.size w0 w35) := ⟨h4_⟩
   clear BK165
   clear HI0
   clear HK
   clear HB
   clear h0_ h1_ h2_ h3_ h4_
   have HO174 := n0_
   have BK165 := n1_
   have HI0 := n2_
   have HK := n3_
   have HB := n4_
   clear n0_ n1_ n2_ n3_ n4_
   have hHeld := trivial
   obtain ⟨Ao36, co36, eo36⟩ := Kd.R_slice HO174.out
   (first | subst eo36 | (injection eo36 with f1_ f2_ f3_; have f4_ := f1_.symm; have f5_ := f3_.symm; clear f1_ f2_ f3_; subst f4_; subst f5_))
   refine norm_ (a' := ?_) ?_ ?_
   rotate_left
   ·simp only [putAll, Act.put, List.setIfInBounds_toArray, List.set_cons_zero, List.set_cons_succ]
    rfl
   refine one_ (i := 17) (N := some 3) #[true, true, true, true, true, true, true, true, true, true, true, true, true, true, true, true, true, true, false] rfl rfl (one_of HT_.out (by kernel_rfl)) (by decide) (fun K hK => ?_)
   refine box_step ?hg (N := 3) ?hd (cs := #[.int .u64 0, .int .u64 0, .slice none 0 0, .string (⟨#[]⟩ : ByteArray)]) (t := 35) ?hr ?_; (case hd => rfl); (case hg => rfl); (case hr => first | (go_simp; done) | (go_simp; rfl))
   intro gb180 hg w37 hbox hb
   have n0_ := a_ (Kd.R_below (by refine rq_ ?_; exact HO174.out) hb)
   have n1_ := a_ (IsS87.below (by repeat (first | (with_reducible first | exact HI0.out | apply IsS87.alloc | apply IsS87.drewN | apply IsS87.drew | apply IsS87.set_0 | apply IsS87.set_1 | apply IsS87.far (hne := NB0_165.out)) | exact HI0.out)) hb)
   have n2_ := bB_ BK165 hb
   have n3_ := a_ (KeepBut.trans (by repeat (first | (with_reducible first | exact HK.out | apply KeepBut.set_ | apply keep_drewN | apply keep_drew | apply keep_alloc | refine keep_far ?_ GW165.out _) | exact HK.out)) (KeepBut.of_below hb g none) (.inl rfl))
   have n4_ := a_ (below_step (by repeat (first | (with_reducible first | exact HB.out | apply below_alloc | apply pw_below_drewN | apply below_drew1 | refine below_set ?_ (IsS87.ge HI0.out) | refine below_set ?_ GE165.out) | exact HB.out)) hb)
   have n5_ := a_ (hbox)
   have n6_ := a_ ((by rw [hg]; exact (keep_size (w := w) (g := g) (row := none) (by repeat (first | (with_reducible first | exact HK.out | apply KeepBut.set_ | apply keep_drewN | apply keep_drew | apply keep_alloc | refine keep_far ?_ GW165.out _) | exact HK.out))) : w.heap.size ≤ gb180))
   have n7_ := a_ ((Nat.le_trans HW0.out (by rw [hg]; exact (keep_size (w := w) (g := g) (row := none) (by repeat (first | (with_reducible first | exact HK.out | apply KeepBut.set_ | apply keep_drewN | apply keep_drew | apply keep_alloc | refine keep_far ?_ GW165.out _) | exact HK.out))) : w.heap.size ≤ gb180) : w0.heap.size ≤ gb180))
   have n8_ := nB_ hg BK165
   have n9_ := nC_ hg BK165
   have n10_ := a_ ((by rw [hg]; exact Nat.ne_of_lt (IsS87.lt (show IsS87 w0 _ g t178 false from by repeat (first | (with_reducible first | exact HI0.out | apply IsS87.alloc | apply IsS87.drewN | apply IsS87.drew | apply IsS87.set_0 | apply IsS87.set_1 | apply IsS87.far (hne := NB0_165.out)) | exact HI0.out))) : g ≠ gb180))
   have n11_ := a_ ((by rw [hg]; exact Nat.ne_of_gt (IsS87.lt (show IsS87 w0 _ g t178 false from by repeat (first | (with_reducible first | exact HI0.out | apply IsS87.alloc | apply IsS87.drewN | apply IsS87.drew | apply IsS87.set_0 | apply IsS87.set_1 | apply IsS87.far (hne := NB0_165.out)) | exact HI0.out))) : gb180 ≠ g))
   clear HO174
   clear HI0
   clear BK165
   clear HK
   clear HB
   have HO174 := n0_
   have HI0 := n1_
   have BK165 := n2_
   have HK := n3_
   have HB := n4_
   have BK180 := n5_
   have GW180 := n6_
   have GE180 := n7_
   have NB165_180 := n8_
   have NB180_165 := n9_
   have NB0_180 := n10_
   have NB180_0 := n11_
   clear n0_ n1_ n2_ n3_ n4_ n5_ n6_ n7_ n8_ n9_ n10_ n11_
   clear hb hbox hg
   refine hK.out _ _ trivial (fun hHeld => ?_)
   clear hK K
   refine norm_ (a' := ?_) ?_ ?_
   rotate_left
   ·show Act.put _ (some 3) _ = _
    simp only [Act.put, List.setIfInBounds_toArray, List.set_cons_zero, List.set_cons_succ, i64_w, i32_w]
    rfl
   exact norm_ (by first | (simp only [putAll, Act.put, List.setIfInBounds_toArray, List.set_cons_zero, List.set_cons_succ]; done) | (simp only [putAll, Act.put, List.setIfInBounds_toArray, List.set_cons_zero, List.set_cons_succ]; rfl)) (hJ3_7_11_15_17 (.slice Ao36 t172.length co36, gb180) _ ⟨(by refine rq_ ?_; exact HO174.out), (bk_ BK165), (bk_ BK180), GW180.out, GE180.out, NB0_180.out, NB180_0.out, NB165_180.out, NB180_165.out, (by repeat (first | (with_reducible first | exact HI0.out | apply IsS87.alloc | apply IsS87.drewN | apply IsS87.drew | apply IsS87.set_0 | apply IsS87.set_1 | apply IsS87.far (hne := NB0_165.out) | apply IsS87.far (hne := NB0_180.out)) | exact HI0.out)), (by repeat (first | (with_reducible first | exact HK.out | apply KeepBut.set_ | apply keep_drewN | apply keep_drew | apply keep_alloc | refine keep_far ?_ GW165.out _ | refine keep_far ?_ GW180.out _) | exact HK.out)), (by repeat (first | (with_reducible first | exact HB.out | apply below_alloc | apply pw_below_drewN | apply below_drew1 | refine below_set ?_ (IsS87.ge HI0.out) | refine below_set ?_ GE165.out | refine below_set ?_ GE180.out) | exact HB.out))⟩)
 rintro ⟨v173, gb180⟩ w36 ⟨h0_, h1_, h2_, h3_, h4_, h5_, h6_, h7_, h8_, h9_, h10_, h11_⟩
 have n0_ : Aside0 (Kd.R (Kd.int .i64) 3 w36 w.heap.size (fun _ => True) v173 t172) := ⟨h0_⟩
 have n1_ : Aside0 (w36.heap[gb165]? = some (.cells #[.int .u64 0, .int .u64 0, .slice none 0 0, .string (⟨#[]⟩ : ByteArray)] 35 (0, 0))) := ⟨h1_⟩
 have n2_ : Aside0 (w36.heap[gb180]? = some (.cells #[.int .u64 0, .int .u64 0, .slice none 0 0, .string (⟨#[]⟩ : ByteArray)] 35 (0, 0))) := ⟨h2_⟩
 have n3_ : Aside0 (w.heap.size ≤ gb180) := ⟨h3_⟩
 have n4_ : Aside0 (w0.heap.size ≤ gb180) := ⟨h4_⟩
 have n5_ : Aside0 (g ≠ gb180) := ⟨h5_⟩
 have n6_ : Aside0 (gb180 ≠ g) := ⟨h6_⟩
 have n7_ : Aside0 (gb165 ≠ gb180) := ⟨h7_⟩
 have n8_ : Aside0 (gb180 ≠ gb165) := ⟨h8_⟩
 have n9_ : Aside0 (IsS87 w0 w36 g t178 false) := ⟨h9_⟩
 have n10_ : Aside0 (KeepBut w w36 g none) := ⟨h10_⟩
 have n11_ : Aside0 (Below w0.heap.size w0 w36) := ⟨h11_⟩
 clear BK165
 clear HI0
 clear HK
 clear HB
 clear h0_ h1_ h2_ h3_ h4_ h5_ h6_ h7_ h8_ h9_ h10_ h11_
 have HO174 := n0_
 have BK165 := n1_
 have BK180 := n2_
 have GW180 := n3_
 have GE180 := n4_
 have NB0_180 := n5_
 have NB180_0 := n6_
 have NB165_180 := n7_
 have NB180_165 := n8_
 have HI0 := n9_
 have HK := n10_
 have HB := n11_
 clear n0_ n1_ n2_ n3_ n4_ n5_ n6_ n7_ n8_ n9_ n10_ n11_
 have hHeld := trivial
 obtain ⟨Ao37, co37, eo37⟩ := Kd.R_slice HO174.out
 (first | subst eo37 | (injection eo37 with f1_ f2_ f3_; have f4_ := f1_.symm; have f5_ := f3_.symm; clear f1_ f2_ f3_; subst f4_; subst f5_))
 refine norm_ (a' := ?_) ?_ ?_
 rotate_left
 ·simp only [putAll, Act.put, List.setIfInBounds_toArray, List.set_cons_zero, List.set_cons_succ]
  rfl
 refine one_ (i := 18) (N := none) #[true, true, true, true, true, true, true, true, true, true, true, true, true, true, true, true, true, true, true] rfl rfl (one_of HT_.out (by kernel_rfl)) (by decide) (fun K hK => ?_)
 have hs38 : w36.cell? ⟨gb180, 0, none⟩ = some (.int .u64 0) := (blk_cell BK180.out 0).trans rfl
 have hfs38 := blk_frozen BK180.out 0
 have hns38_0 := NB165_180.out
 have hms38_0 := NB180_165.out
 have hs39 : w36.cell? ⟨gb180, 1, none⟩ = some (.int .u64 0) := (blk_cell BK180.out 1).trans rfl
 have hfs39 := blk_frozen BK180.out 1
 have hns39_0 := NB165_180.out
 have hms39_0 := NB180_165.out
 have hs40 : w36.cell? ⟨gb180, 2, none⟩ = some (.slice none 0 0) := (blk_cell BK180.out 2).trans rfl
 have hfs40 := blk_frozen BK180.out 2
 have hns40_0 := NB165_180.out
 have hms40_0 := NB180_165.out
 have hs41 : w36.cell? ⟨gb180, 3, none⟩ = some (.string (⟨#[]⟩ : ByteArray)) := (blk_cell BK180.out 3).trans rfl
 have hfs41 := blk_frozen BK180.out 3
 have hns41_0 := NB165_180.out
 have hms41_0 := NB180_165.out
 refine skip_ (w1 := ?_) (by rfl) rfl ?_ ?_
 rotate_left
 ·go_simp
  rfl
 refine hK.out _ _ trivial (fun hHeld => ?_)
 clear hK K
 refine done_ (done_of HT_.out (by kernel_rfl)) ?_
 obtain ⟨Tz42_, hTz42_, HGz42, hgz42⟩ := HI0.out
 have hcz42_0 := cellS87_0 HGz42
 have hcz42_1 := cellS87_1 HGz42
 have hfz42_0 := blk_frozen HGz42 0
 have hfz42_1 := blk_frozen HGz42 1
 clear HGz42 hgz42
 have hnb43 := NB180_165.out
 have hnc43 := NB165_180.out
 have hnb44 := NB180_0.out
 have hnc44 := NB0_180.out
 obtain ⟨hcz45_0, hcz45_1, hcz45_2, hcz45_3, hfz45_0, hfz45_1, hfz45_2, hfz45_3⟩ := c4_ BK180
 try go_wp2_with (first | (go_at_call 36; (with_reducible refine (snap_Check.calls k t166 t169 _ _ t172 t177 t181 _ ?side1 ?side2 A27.out).mono ?_); (case side1 => refine (Kd.R_reads' (e := 3) (base := w.heap.size) (ok := fun k_ => True) (n := t172.length) (c := co37) ?_).2.2; exact (by refine rq_ ?_; exact (Kd.R_mono (Kd.R_far (p := ⟨gb180, 3, none⟩) (Kd.R_far (p := ⟨gb180, 2, none⟩) (Kd.R_far (p := ⟨gb180, 1, none⟩) (Kd.R_far (p := ⟨gb180, 0, none⟩) (Kd.R_types HO174.out BK180.out (by decide)) (fun _ hk => hk.2) (.int .u64 t166)) (fun _ hk => hk.2) (.int .u64 t169)) (fun _ hk => hk.2) (.slice Ao37 t172.length co37)) (fun _ hk => hk.2) (.string t177)) (fun _ h_ => h_.1)))); (case side2 => exact (Kd.R_reads' HO174.out).2.1); rintro e w46 ⟨rfl, hb⟩; replace HO174 := a_ (Kd.R_below (by refine rq_ ?_; exact (Kd.R_mono (Kd.R_far (p := ⟨gb180, 3, none⟩) (Kd.R_far (p := ⟨gb180, 2, none⟩) (Kd.R_far (p := ⟨gb180, 1, none⟩) (Kd.R_far (p := ⟨gb180, 0, none⟩) (Kd.R_types HO174.out BK180.out (by decide)) (fun _ hk => hk.2) (.int .u64 t166)) (fun _ hk => hk.2) (.int .u64 t169)) (fun _ hk => hk.2) (.slice Ao37 t172.length co37)) (fun _ hk => hk.2) (.string t177)) (fun _ h_ => h_.1))) hb); replace BK165 := a_ (blk_below (g := gb165) (o := .cells #[.int .u64 0, .int .u64 0, .slice none 0 0, .string (⟨#[]⟩ : ByteArray)] 35 (0, 0)) (bp_1 BK165 NB165_180) hb); replace BK180 := a_ (blk_below (g := gb180) (o := .cells #[.int .u64 t166, .int .u64 t169, .slice Ao37 t172.length co37, .string t177] 35 (0, 0)) (bp_0 BK180) hb); replace HK := a_ (KeepBut.trans (by repeat (first | (with_reducible first | exact HK.out | apply KeepBut.set_ | apply keep_drewN | apply keep_drew | apply keep_alloc | refine keep_far ?_ GW165.out _ | refine keep_far ?_ GW180.out _) | exact HK.out)) (KeepBut.of_below hb g none) (.inl rfl)); replace HB := a_ (below_step (by repeat (first | (with_reducible first | exact HB.out | apply below_alloc | apply pw_below_drewN | apply below_drew1 | refine below_set ?_ (IsS87.ge HI0.out) | refine below_set ?_ GE165.out | refine below_set ?_ GE180.out) | exact HB.out)) hb); replace HI0 := a_ (IsS87.below (show IsS87 w0 ((((w36.setCell ⟨gb180, 0, none⟩ (.int .u64 t166)).setCell ⟨gb180, 1, none⟩ (.int .u64 t169)).setCell ⟨gb180, 2, none⟩ (.slice Ao37 t172.length co37)).setCell ⟨gb180, 3, none⟩ (.string t177)) g t178 false from by repeat (first | (with_reducible first | exact HI0.out | apply IsS87.alloc | apply IsS87.drewN | apply IsS87.drew | apply IsS87.set_0 | apply IsS87.set_1 | apply IsS87.far (hne := NB0_165.out) | apply IsS87.far (hne := NB0_180.out)) | exact HI0.out)) hb); (try clear hb); obtain ⟨Tz47_, hTz47_, HGz47, hgz47⟩ := HI0.out; have hcz47_0 := cellS87_0 HGz47; have hcz47_1 := cellS87_1 HGz47; have hfz47_0 := blk_frozen HGz47 0; have hfz47_1 := blk_frozen HGz47 1; clear HGz47 hgz47; obtain ⟨hcz48_0, hcz48_1, hcz48_2, hcz48_3, hfz48_0, hfz48_1, hfz48_2, hfz48_3⟩ := c4_ BK180; have hnb49 := NB165_0.out; have hnc49 := NB0_165.out; obtain ⟨hcz50_0, hcz50_1, hcz50_2, hcz50_3, hfz50_0, hfz50_1, hfz50_2, hfz50_3⟩ := c4_ BK165))
 refine bodyPost_ret (results_cell_row rfl _ _ gb165 35 #[.int .u64 t166, .int .u64 t169, .slice Ao37 t172.length co37, .string t177] (0, 0) _ rfl (bp_1 BK165 NB165_0) Try.underlying35 rfl (by kernel_rfl)) rfl ?_
 exact ⟨_, fz_, by refine rq_ ?_; exact Kd.R_mono (Kd.R_far (p := ⟨gb165, 3, none⟩) (Kd.R_far (p := ⟨gb165, 2, none⟩) (Kd.R_far (p := ⟨gb165, 1, none⟩) (Kd.R_far (p := ⟨gb165, 0, none⟩) (Kd.R_far (p := ⟨g, 1, none⟩) (Kd.R_types (IsS87.apart HI0.out HO174.out (by decide)) BK165.out (by decide)) (fun _ hk => hk.1.2) (.bool (t181 != 0))) (fun _ hk => hk.2) (.int .u64 t166)) (fun _ hk => hk.2) (.int .u64 t169)) (fun _ hk => hk.2) (.slice Ao37 t172.length co37)) (fun _ hk => hk.2) (.string t177)) (fun _ hk => trivial), by repeat (first | (with_reducible first | exact HI0.out | apply IsS87.alloc | apply IsS87.drewN | apply IsS87.drew | apply IsS87.set_0 | apply IsS87.set_1 | apply IsS87.far (hne := NB0_165.out) | apply IsS87.far (hne := NB0_180.out)) | exact HI0.out), by repeat (first | (with_reducible first | exact HB.out | apply below_alloc | apply pw_below_drewN | apply below_drew1 | refine below_set ?_ (IsS87.ge HI0.out) | refine below_set ?_ GE165.out | refine below_set ?_ GE180.out) | exact HB.out), by repeat (first | (with_reducible first | exact HK.out | apply KeepBut.set_ | apply keep_drewN | apply keep_drew | apply keep_alloc | refine keep_far ?_ GW165.out _ | refine keep_far ?_ GW180.out _) | exact HK.out)⟩

end Go.Proofs.Ytcdibodjkdoknaa.PM
