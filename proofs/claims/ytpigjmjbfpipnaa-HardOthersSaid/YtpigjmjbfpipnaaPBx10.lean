-- Written for this claim by a program of this session. Lean checks it.
import Derived.Test.YtpigjmjbfpipnaaPBx0
import Derived.Test.YtpigjmjbfpipnaaPBx3
import Derived.Test.YtpigjmjbfpipnaaPBx6
import Derived.Test.YtpigjmjbfpipnaaPBx9
namespace Go.Proofs.Ytpigjmjbfpipnaa.PB
open Go.RowKit Go.Proofs.YtpigjmjbfpipnaaW.PrintWords Go.Proofs.YtpigjmjbfpipnaaW.PrintLast Go.Proofs.YtpigjmjbfpipnaaW.PrintMore Go.Proofs.Ytpigjmjbfpipnaa.Sh Go.Proofs.Ytpigjmjbfpipnaa.Op
attribute [local go_sem] max2_int min2_int max_two min_two max_three min_three max_four min_four   -- for this text's walks alone
set_option linter.unusedVariables false
set_option linter.unusedSimpArgs false

/-! ### disk_Drop: function 67 -/
def disk_Drop.f (k : Nat) (l0_0 : List (S71)) (a0_1 : Bool) (a0_2 : Int) (a1 : ByteArray) : Option ((List (S71)) × Bool × Int × Int) := (disk_done.f k l0_0 a0_1 a0_2 4 a1 (⟨#[]⟩ : ByteArray) (⟨#[]⟩ : ByteArray) 0).bind fun bt224 => (some (bt224.1, bt224.2.1, bt224.2.2.1, bt224.2.2.2))
theorem disk_Drop.mono : ∀ a0 a1 a2 a3 k, LeO (disk_Drop.f k a0 a1 a2 a3) (disk_Drop.f (k + 1) a0 a1 a2 a3) := by
 intro a0 a1 a2 a3 k
 unfold disk_Drop.f
 repeat' first | (with_reducible first | exact disk_done.mono _ _ _ _ _ _ _ _ _ | exact LeO.refl _ | exact LeO.none _ | refine LeO.ite ?_ ?_ | refine LeO.bind ?_ (fun _ => ?_)) | exact disk_done.mono _ _ _ _ _ _ _ _ _ | exact LeO.none _ | refine LeO.ite ?_ ?_ | refine LeO.bind ?_ (fun _ => ?_)
set_option maxHeartbeats 80000000 in
set_option maxRecDepth 100000 in
theorem disk_Drop.calls (k : Nat) (A0_0 : Option Addr) (c0_0 : Nat) (l0_0 : List (S71)) (a0_1 : Bool) (a0_2 : Int) (a1 : ByteArray) (r1 : List (S71)) (r2 : Bool) (r3 : Int) (r4 : Int) (w : World) (hr0_0 : Kd.C k71 w A0_0 l0_0.length l0_0) (hc0_0 : l0_0.length ≤ c0_0) (h : disk_Drop.f k l0_0 a0_1 a0_2 a1 = some (r1, r2, r3, r4)) :
  Calls Try.prog 67 #[.agg #[.slice A0_0 l0_0.length c0_0, .bool a0_1, .int .i64 a0_2], .string a1] w fun e w' => ∃ v0_ : Value, e = .returned (.tuple #[.agg #[v0_, .bool r2, .int .i64 r3], .int .i64 r4]) ∧ Kd.R k71 71 w' w.heap.size (fun _ => True) v0_ r1 ∧ Below w.heap.size w w' := by
 have hu24 := Try.underlying24
 have hu115 := Try.underlying115
 have HR0_0 := Aside0.mk hr0_0
 have HC0_0 := Aside0.mk hc0_0
 clear hr0_0 hc0_0
 have HB := Aside0.mk (Below.refl w.heap.size w)
 have H : ((disk_done.f k l0_0 a0_1 a0_2 4 a1 (⟨#[]⟩ : ByteArray) (⟨#[]⟩ : ByteArray) 0).bind fun bt224 => (some (bt224.1, bt224.2.1, bt224.2.2.1, bt224.2.2.2))) = some (r1, r2, r3, r4) := h
 clear h
 obtain ⟨⟨t224, t227, t228, t229⟩, A30, H⟩ := Option.bind_eq_some_iff.mp H
 try dsimp only at H
 have A3 := Aside0.mk A30
 clear A30
 simp only [Option.some.injEq, Prod.mk.injEq] at H
 obtain ⟨rfl, rfl, rfl, rfl⟩ := H
 go_enter Try.func67, Try.ntmps67
 go_wp2_with (first | ((with_reducible refine gate_dst (N := 2) rfl ?_); refine bx_ 2 #[.slice A0_0 l0_0.length c0_0, .bool a0_1, .int .i64 a0_2] 24 ?_; intro gb222 hg w4 hbox hb; have BK222 := Aside0.mk (hbox); have GE222 := Aside0.mk (bs_0 hg HB); replace HB := Aside0.mk (below_step (bl_ HB) hb); clear hb hbox hg) | ((with_reducible refine gate_dst (N := 4) rfl ?_); refine bx_ 4 #[.slice none 0 0, .bool false, .int .i64 0] 24 ?_; intro gb223 hg w5 hbox hb; have BK223 := Aside0.mk (hbox); have GE223 := Aside0.mk (bs_1 hg HB GE222); replace HB := Aside0.mk (below_step (bl_1 HB GE222) hb); have NB222_223 := Aside0.mk (nb_ hg BK222); have NB223_222 := Aside0.mk (nc_ hg BK222); replace BK222 := Aside0.mk (bb_ BK222 hb); clear hb hbox hg; have hnb6 := NB222_223.out; have hnc6 := NB223_222.out; obtain ⟨hcz7_0, hcz7_1, hcz7_2, hfz7_0, hfz7_1, hfz7_2⟩ := c3_ BK222) | ((with_reducible refine gate_callee (f := 96) rfl ?_); refine goesL_ (some 9) rfl rfl Try.func96 (by kernel_rfl) rfl #[.agg #[.slice A0_0 l0_0.length c0_0, .bool a0_1, .int .i64 a0_2], .agg #[.int .u8 4, .string a1, .string (⟨#[]⟩ : ByteArray), .string (⟨#[]⟩ : ByteArray), .int .i64 0]] rfl (ar_) ?_; (with_reducible refine (disk_done.calls k _ _ l0_0 a0_1 a0_2 4 a1 (⟨#[]⟩ : ByteArray) (⟨#[]⟩ : ByteArray) 0 t224 t227 t228 t229 _ ?side1 ?side2 A3.out).mono ?_); (case side1 => exact cl_ (Kd.C_below HR0_0.out HB.out)); (case side2 => exact HC0_0.out); rintro e w8 ⟨v225, rfl, ho0, hb⟩; refine ⟨_, rfl, ?_⟩; have HO226 := Aside0.mk (Kd.R_lower ho0 (below_size (bl_2 HB GE222 GE223))); replace BK222 := Aside0.mk (bb_ BK222 hb); replace BK223 := Aside0.mk (bb_ BK223 hb); replace HB := Aside0.mk (below_step (bl_2 HB GE222 GE223) hb); (try clear hb); (try clear ho0); obtain ⟨Ao9, co9, eo9⟩ := Kd.R_slice HO226.out; subst eo9; obtain ⟨hcz10_0, hcz10_1, hcz10_2, hfz10_0, hfz10_1, hfz10_2⟩ := c3_ BK223))
 refine bodyPost_ret (results_ct rfl _ _ gb223 24 #[.slice Ao9 t224.length co9, .bool t227, .int .i64 t228] (0, 0) _ rfl (bp_0 BK223) Try.underlying24 rfl (by kernel_rfl)) rfl ?_
 exact ⟨_, by first | rfl | (simp; done) | (simp [*]; done), by (with_reducible repeat (first | apply Kd.R_alloc | apply Kd.R_drewN | apply Kd.R_drew)); exact Kd.R_mono (Kd.R_far (p := ⟨gb223, 2, none⟩) (Kd.R_far (p := ⟨gb223, 1, none⟩) (Kd.R_far (p := ⟨gb223, 0, none⟩) (Kd.R_types HO226.out BK223.out (by decide)) (fun _ hk => hk.2) (.slice Ao9 t224.length co9)) (fun _ hk => hk.2) (.bool t227)) (fun _ hk => hk.2) (.int .i64 t228)) (fun _ hk => trivial), bl_2 HB GE222 GE223⟩

/-! ### disk_Add: function 70 -/
def disk_Add.f (k : Nat) (l0_0 : List (S71)) (a0_1 : Bool) (a0_2 : Int) (a1 : ByteArray) (a2 : ByteArray) : Option ((List (S71)) × Bool × Int × Int) := (disk_done.f k l0_0 a0_1 a0_2 0 a1 (⟨#[]⟩ : ByteArray) a2 0).bind fun bt232 => (some (bt232.1, bt232.2.1, bt232.2.2.1, bt232.2.2.2))
theorem disk_Add.mono : ∀ a0 a1 a2 a3 a4 k, LeO (disk_Add.f k a0 a1 a2 a3 a4) (disk_Add.f (k + 1) a0 a1 a2 a3 a4) := by
 intro a0 a1 a2 a3 a4 k
 unfold disk_Add.f
 repeat' first | (with_reducible first | exact disk_done.mono _ _ _ _ _ _ _ _ _ | exact LeO.refl _ | exact LeO.none _ | refine LeO.ite ?_ ?_ | refine LeO.bind ?_ (fun _ => ?_)) | exact disk_done.mono _ _ _ _ _ _ _ _ _ | exact LeO.none _ | refine LeO.ite ?_ ?_ | refine LeO.bind ?_ (fun _ => ?_)
set_option maxHeartbeats 80000000 in
set_option maxRecDepth 100000 in
theorem disk_Add.calls (k : Nat) (A0_0 : Option Addr) (c0_0 : Nat) (l0_0 : List (S71)) (a0_1 : Bool) (a0_2 : Int) (a1 : ByteArray) (a2 : ByteArray) (r1 : List (S71)) (r2 : Bool) (r3 : Int) (r4 : Int) (w : World) (hr0_0 : Kd.C k71 w A0_0 l0_0.length l0_0) (hc0_0 : l0_0.length ≤ c0_0) (h : disk_Add.f k l0_0 a0_1 a0_2 a1 a2 = some (r1, r2, r3, r4)) :
  Calls Try.prog 70 #[.agg #[.slice A0_0 l0_0.length c0_0, .bool a0_1, .int .i64 a0_2], .string a1, .string a2] w fun e w' => ∃ v0_ : Value, e = .returned (.tuple #[.agg #[v0_, .bool r2, .int .i64 r3], .int .i64 r4]) ∧ Kd.R k71 71 w' w.heap.size (fun _ => True) v0_ r1 ∧ Below w.heap.size w w' := by
 have hu24 := Try.underlying24
 have hu115 := Try.underlying115
 have HR0_0 := Aside0.mk hr0_0
 have HC0_0 := Aside0.mk hc0_0
 clear hr0_0 hc0_0
 have HB := Aside0.mk (Below.refl w.heap.size w)
 have H : ((disk_done.f k l0_0 a0_1 a0_2 0 a1 (⟨#[]⟩ : ByteArray) a2 0).bind fun bt232 => (some (bt232.1, bt232.2.1, bt232.2.2.1, bt232.2.2.2))) = some (r1, r2, r3, r4) := h
 clear h
 obtain ⟨⟨t232, t235, t236, t237⟩, A40, H⟩ := Option.bind_eq_some_iff.mp H
 try dsimp only at H
 have A4 := Aside0.mk A40
 clear A40
 simp only [Option.some.injEq, Prod.mk.injEq] at H
 obtain ⟨rfl, rfl, rfl, rfl⟩ := H
 go_enter Try.func70, Try.ntmps70
 go_wp2_with (first | ((with_reducible refine gate_dst (N := 3) rfl ?_); refine bx_ 3 #[.slice A0_0 l0_0.length c0_0, .bool a0_1, .int .i64 a0_2] 24 ?_; intro gb230 hg w5 hbox hb; have BK230 := Aside0.mk (hbox); have GE230 := Aside0.mk (bs_0 hg HB); replace HB := Aside0.mk (below_step (bl_ HB) hb); clear hb hbox hg) | ((with_reducible refine gate_dst (N := 6) rfl ?_); refine bx_ 6 #[.slice none 0 0, .bool false, .int .i64 0] 24 ?_; intro gb231 hg w6 hbox hb; have BK231 := Aside0.mk (hbox); have GE231 := Aside0.mk (bs_1 hg HB GE230); replace HB := Aside0.mk (below_step (bl_1 HB GE230) hb); have NB230_231 := Aside0.mk (nb_ hg BK230); have NB231_230 := Aside0.mk (nc_ hg BK230); replace BK230 := Aside0.mk (bb_ BK230 hb); clear hb hbox hg; have hnb7 := NB230_231.out; have hnc7 := NB231_230.out; obtain ⟨hcz8_0, hcz8_1, hcz8_2, hfz8_0, hfz8_1, hfz8_2⟩ := c3_ BK230) | ((with_reducible refine gate_callee (f := 96) rfl ?_); refine goesL_ (some 12) rfl rfl Try.func96 (by kernel_rfl) rfl #[.agg #[.slice A0_0 l0_0.length c0_0, .bool a0_1, .int .i64 a0_2], .agg #[.int .u8 0, .string a1, .string (⟨#[]⟩ : ByteArray), .string a2, .int .i64 0]] rfl (ar_) ?_; (with_reducible refine (disk_done.calls k _ _ l0_0 a0_1 a0_2 0 a1 (⟨#[]⟩ : ByteArray) a2 0 t232 t235 t236 t237 _ ?side1 ?side2 A4.out).mono ?_); (case side1 => exact cl_ (Kd.C_below HR0_0.out HB.out)); (case side2 => exact HC0_0.out); rintro e w9 ⟨v233, rfl, ho0, hb⟩; refine ⟨_, rfl, ?_⟩; have HO234 := Aside0.mk (Kd.R_lower ho0 (below_size (bl_2 HB GE230 GE231))); replace BK230 := Aside0.mk (bb_ BK230 hb); replace BK231 := Aside0.mk (bb_ BK231 hb); replace HB := Aside0.mk (below_step (bl_2 HB GE230 GE231) hb); (try clear hb); (try clear ho0); obtain ⟨Ao10, co10, eo10⟩ := Kd.R_slice HO234.out; subst eo10; obtain ⟨hcz11_0, hcz11_1, hcz11_2, hfz11_0, hfz11_1, hfz11_2⟩ := c3_ BK231))
 refine bodyPost_ret (results_ct rfl _ _ gb231 24 #[.slice Ao10 t232.length co10, .bool t235, .int .i64 t236] (0, 0) _ rfl (bp_0 BK231) Try.underlying24 rfl (by kernel_rfl)) rfl ?_
 exact ⟨_, by first | rfl | (simp; done) | (simp [*]; done), by (with_reducible repeat (first | apply Kd.R_alloc | apply Kd.R_drewN | apply Kd.R_drew)); exact Kd.R_mono (Kd.R_far (p := ⟨gb231, 2, none⟩) (Kd.R_far (p := ⟨gb231, 1, none⟩) (Kd.R_far (p := ⟨gb231, 0, none⟩) (Kd.R_types HO234.out BK231.out (by decide)) (fun _ hk => hk.2) (.slice Ao10 t232.length co10)) (fun _ hk => hk.2) (.bool t235)) (fun _ hk => hk.2) (.int .i64 t236)) (fun _ hk => trivial), bl_2 HB GE230 GE231⟩

-- NOT PRINTED: function 69 (hard_Put_1)

/-! ### disk_Sync: function 72 -/
def disk_Sync.f (k : Nat) (l0_0 : List (S71)) (a0_1 : Bool) (a0_2 : Int) (a1 : ByteArray) : Option ((List (S71)) × Bool × Int × Int) := (disk_done.f k l0_0 a0_1 a0_2 1 a1 (⟨#[]⟩ : ByteArray) (⟨#[]⟩ : ByteArray) 0).bind fun bt242 => (some (bt242.1, bt242.2.1, bt242.2.2.1, bt242.2.2.2))
theorem disk_Sync.mono : ∀ a0 a1 a2 a3 k, LeO (disk_Sync.f k a0 a1 a2 a3) (disk_Sync.f (k + 1) a0 a1 a2 a3) := by
 intro a0 a1 a2 a3 k
 unfold disk_Sync.f
 repeat' first | (with_reducible first | exact disk_done.mono _ _ _ _ _ _ _ _ _ | exact LeO.refl _ | exact LeO.none _ | refine LeO.ite ?_ ?_ | refine LeO.bind ?_ (fun _ => ?_)) | exact disk_done.mono _ _ _ _ _ _ _ _ _ | exact LeO.none _ | refine LeO.ite ?_ ?_ | refine LeO.bind ?_ (fun _ => ?_)
set_option maxHeartbeats 80000000 in
set_option maxRecDepth 100000 in
theorem disk_Sync.calls (k : Nat) (A0_0 : Option Addr) (c0_0 : Nat) (l0_0 : List (S71)) (a0_1 : Bool) (a0_2 : Int) (a1 : ByteArray) (r1 : List (S71)) (r2 : Bool) (r3 : Int) (r4 : Int) (w : World) (hr0_0 : Kd.C k71 w A0_0 l0_0.length l0_0) (hc0_0 : l0_0.length ≤ c0_0) (h : disk_Sync.f k l0_0 a0_1 a0_2 a1 = some (r1, r2, r3, r4)) :
  Calls Try.prog 72 #[.agg #[.slice A0_0 l0_0.length c0_0, .bool a0_1, .int .i64 a0_2], .string a1] w fun e w' => ∃ v0_ : Value, e = .returned (.tuple #[.agg #[v0_, .bool r2, .int .i64 r3], .int .i64 r4]) ∧ Kd.R k71 71 w' w.heap.size (fun _ => True) v0_ r1 ∧ Below w.heap.size w w' := by
 have hu24 := Try.underlying24
 have hu115 := Try.underlying115
 have HR0_0 := Aside0.mk hr0_0
 have HC0_0 := Aside0.mk hc0_0
 clear hr0_0 hc0_0
 have HB := Aside0.mk (Below.refl w.heap.size w)
 have H : ((disk_done.f k l0_0 a0_1 a0_2 1 a1 (⟨#[]⟩ : ByteArray) (⟨#[]⟩ : ByteArray) 0).bind fun bt242 => (some (bt242.1, bt242.2.1, bt242.2.2.1, bt242.2.2.2))) = some (r1, r2, r3, r4) := h
 clear h
 obtain ⟨⟨t242, t245, t246, t247⟩, A30, H⟩ := Option.bind_eq_some_iff.mp H
 try dsimp only at H
 have A3 := Aside0.mk A30
 clear A30
 simp only [Option.some.injEq, Prod.mk.injEq] at H
 obtain ⟨rfl, rfl, rfl, rfl⟩ := H
 go_enter Try.func72, Try.ntmps72
 go_wp2_with (first | ((with_reducible refine gate_dst (N := 2) rfl ?_); refine bx_ 2 #[.slice A0_0 l0_0.length c0_0, .bool a0_1, .int .i64 a0_2] 24 ?_; intro gb240 hg w4 hbox hb; have BK240 := Aside0.mk (hbox); have GE240 := Aside0.mk (bs_0 hg HB); replace HB := Aside0.mk (below_step (bl_ HB) hb); clear hb hbox hg) | ((with_reducible refine gate_dst (N := 4) rfl ?_); refine bx_ 4 #[.slice none 0 0, .bool false, .int .i64 0] 24 ?_; intro gb241 hg w5 hbox hb; have BK241 := Aside0.mk (hbox); have GE241 := Aside0.mk (bs_1 hg HB GE240); replace HB := Aside0.mk (below_step (bl_1 HB GE240) hb); have NB240_241 := Aside0.mk (nb_ hg BK240); have NB241_240 := Aside0.mk (nc_ hg BK240); replace BK240 := Aside0.mk (bb_ BK240 hb); clear hb hbox hg; have hnb6 := NB240_241.out; have hnc6 := NB241_240.out; obtain ⟨hcz7_0, hcz7_1, hcz7_2, hfz7_0, hfz7_1, hfz7_2⟩ := c3_ BK240) | ((with_reducible refine gate_callee (f := 96) rfl ?_); refine goesL_ (some 9) rfl rfl Try.func96 (by kernel_rfl) rfl #[.agg #[.slice A0_0 l0_0.length c0_0, .bool a0_1, .int .i64 a0_2], .agg #[.int .u8 1, .string a1, .string (⟨#[]⟩ : ByteArray), .string (⟨#[]⟩ : ByteArray), .int .i64 0]] rfl (ar_) ?_; (with_reducible refine (disk_done.calls k _ _ l0_0 a0_1 a0_2 1 a1 (⟨#[]⟩ : ByteArray) (⟨#[]⟩ : ByteArray) 0 t242 t245 t246 t247 _ ?side1 ?side2 A3.out).mono ?_); (case side1 => exact cl_ (Kd.C_below HR0_0.out HB.out)); (case side2 => exact HC0_0.out); rintro e w8 ⟨v243, rfl, ho0, hb⟩; refine ⟨_, rfl, ?_⟩; have HO244 := Aside0.mk (Kd.R_lower ho0 (below_size (bl_2 HB GE240 GE241))); replace BK240 := Aside0.mk (bb_ BK240 hb); replace BK241 := Aside0.mk (bb_ BK241 hb); replace HB := Aside0.mk (below_step (bl_2 HB GE240 GE241) hb); (try clear hb); (try clear ho0); obtain ⟨Ao9, co9, eo9⟩ := Kd.R_slice HO244.out; subst eo9; obtain ⟨hcz10_0, hcz10_1, hcz10_2, hfz10_0, hfz10_1, hfz10_2⟩ := c3_ BK241))
 refine bodyPost_ret (results_ct rfl _ _ gb241 24 #[.slice Ao9 t242.length co9, .bool t245, .int .i64 t246] (0, 0) _ rfl (bp_0 BK241) Try.underlying24 rfl (by kernel_rfl)) rfl ?_
 exact ⟨_, by first | rfl | (simp; done) | (simp [*]; done), by (with_reducible repeat (first | apply Kd.R_alloc | apply Kd.R_drewN | apply Kd.R_drew)); exact Kd.R_mono (Kd.R_far (p := ⟨gb241, 2, none⟩) (Kd.R_far (p := ⟨gb241, 1, none⟩) (Kd.R_far (p := ⟨gb241, 0, none⟩) (Kd.R_types HO244.out BK241.out (by decide)) (fun _ hk => hk.2) (.slice Ao9 t242.length co9)) (fun _ hk => hk.2) (.bool t245)) (fun _ hk => hk.2) (.int .i64 t246)) (fun _ hk => trivial), bl_2 HB GE240 GE241⟩

-- NOT PRINTED: function 71 (hard_Put_2)

/-! ### disk_Swap: function 74 -/
def disk_Swap.f (k : Nat) (l0_0 : List (S71)) (a0_1 : Bool) (a0_2 : Int) (a1 : ByteArray) (a2 : ByteArray) : Option ((List (S71)) × Bool × Int × Int) := (disk_done.f k l0_0 a0_1 a0_2 3 a1 a2 (⟨#[]⟩ : ByteArray) 0).bind fun bt252 => (some (bt252.1, bt252.2.1, bt252.2.2.1, bt252.2.2.2))
theorem disk_Swap.mono : ∀ a0 a1 a2 a3 a4 k, LeO (disk_Swap.f k a0 a1 a2 a3 a4) (disk_Swap.f (k + 1) a0 a1 a2 a3 a4) := by
 intro a0 a1 a2 a3 a4 k
 unfold disk_Swap.f
 repeat' first | (with_reducible first | exact disk_done.mono _ _ _ _ _ _ _ _ _ | exact LeO.refl _ | exact LeO.none _ | refine LeO.ite ?_ ?_ | refine LeO.bind ?_ (fun _ => ?_)) | exact disk_done.mono _ _ _ _ _ _ _ _ _ | exact LeO.none _ | refine LeO.ite ?_ ?_ | refine LeO.bind ?_ (fun _ => ?_)
set_option maxHeartbeats 80000000 in
set_option maxRecDepth 100000 in
theorem disk_Swap.calls (k : Nat) (A0_0 : Option Addr) (c0_0 : Nat) (l0_0 : List (S71)) (a0_1 : Bool) (a0_2 : Int) (a1 : ByteArray) (a2 : ByteArray) (r1 : List (S71)) (r2 : Bool) (r3 : Int) (r4 : Int) (w : World) (hr0_0 : Kd.C k71 w A0_0 l0_0.length l0_0) (hc0_0 : l0_0.length ≤ c0_0) (h : disk_Swap.f k l0_0 a0_1 a0_2 a1 a2 = some (r1, r2, r3, r4)) :
  Calls Try.prog 74 #[.agg #[.slice A0_0 l0_0.length c0_0, .bool a0_1, .int .i64 a0_2], .string a1, .string a2] w fun e w' => ∃ v0_ : Value, e = .returned (.tuple #[.agg #[v0_, .bool r2, .int .i64 r3], .int .i64 r4]) ∧ Kd.R k71 71 w' w.heap.size (fun _ => True) v0_ r1 ∧ Below w.heap.size w w' := by
 have hu24 := Try.underlying24
 have hu115 := Try.underlying115
 have HR0_0 := Aside0.mk hr0_0
 have HC0_0 := Aside0.mk hc0_0
 clear hr0_0 hc0_0
 have HB := Aside0.mk (Below.refl w.heap.size w)
 have H : ((disk_done.f k l0_0 a0_1 a0_2 3 a1 a2 (⟨#[]⟩ : ByteArray) 0).bind fun bt252 => (some (bt252.1, bt252.2.1, bt252.2.2.1, bt252.2.2.2))) = some (r1, r2, r3, r4) := h
 clear h
 obtain ⟨⟨t252, t255, t256, t257⟩, A40, H⟩ := Option.bind_eq_some_iff.mp H
 try dsimp only at H
 have A4 := Aside0.mk A40
 clear A40
 simp only [Option.some.injEq, Prod.mk.injEq] at H
 obtain ⟨rfl, rfl, rfl, rfl⟩ := H
 go_enter Try.func74, Try.ntmps74
 go_wp2_with (first | ((with_reducible refine gate_dst (N := 3) rfl ?_); refine bx_ 3 #[.slice A0_0 l0_0.length c0_0, .bool a0_1, .int .i64 a0_2] 24 ?_; intro gb250 hg w5 hbox hb; have BK250 := Aside0.mk (hbox); have GE250 := Aside0.mk (bs_0 hg HB); replace HB := Aside0.mk (below_step (bl_ HB) hb); clear hb hbox hg) | ((with_reducible refine gate_dst (N := 6) rfl ?_); refine bx_ 6 #[.slice none 0 0, .bool false, .int .i64 0] 24 ?_; intro gb251 hg w6 hbox hb; have BK251 := Aside0.mk (hbox); have GE251 := Aside0.mk (bs_1 hg HB GE250); replace HB := Aside0.mk (below_step (bl_1 HB GE250) hb); have NB250_251 := Aside0.mk (nb_ hg BK250); have NB251_250 := Aside0.mk (nc_ hg BK250); replace BK250 := Aside0.mk (bb_ BK250 hb); clear hb hbox hg; have hnb7 := NB250_251.out; have hnc7 := NB251_250.out; obtain ⟨hcz8_0, hcz8_1, hcz8_2, hfz8_0, hfz8_1, hfz8_2⟩ := c3_ BK250) | ((with_reducible refine gate_callee (f := 96) rfl ?_); refine goesL_ (some 12) rfl rfl Try.func96 (by kernel_rfl) rfl #[.agg #[.slice A0_0 l0_0.length c0_0, .bool a0_1, .int .i64 a0_2], .agg #[.int .u8 3, .string a1, .string a2, .string (⟨#[]⟩ : ByteArray), .int .i64 0]] rfl (ar_) ?_; (with_reducible refine (disk_done.calls k _ _ l0_0 a0_1 a0_2 3 a1 a2 (⟨#[]⟩ : ByteArray) 0 t252 t255 t256 t257 _ ?side1 ?side2 A4.out).mono ?_); (case side1 => exact cl_ (Kd.C_below HR0_0.out HB.out)); (case side2 => exact HC0_0.out); rintro e w9 ⟨v253, rfl, ho0, hb⟩; refine ⟨_, rfl, ?_⟩; have HO254 := Aside0.mk (Kd.R_lower ho0 (below_size (bl_2 HB GE250 GE251))); replace BK250 := Aside0.mk (bb_ BK250 hb); replace BK251 := Aside0.mk (bb_ BK251 hb); replace HB := Aside0.mk (below_step (bl_2 HB GE250 GE251) hb); (try clear hb); (try clear ho0); obtain ⟨Ao10, co10, eo10⟩ := Kd.R_slice HO254.out; subst eo10; obtain ⟨hcz11_0, hcz11_1, hcz11_2, hfz11_0, hfz11_1, hfz11_2⟩ := c3_ BK251))
 refine bodyPost_ret (results_ct rfl _ _ gb251 24 #[.slice Ao10 t252.length co10, .bool t255, .int .i64 t256] (0, 0) _ rfl (bp_0 BK251) Try.underlying24 rfl (by kernel_rfl)) rfl ?_
 exact ⟨_, by first | rfl | (simp; done) | (simp [*]; done), by (with_reducible repeat (first | apply Kd.R_alloc | apply Kd.R_drewN | apply Kd.R_drew)); exact Kd.R_mono (Kd.R_far (p := ⟨gb251, 2, none⟩) (Kd.R_far (p := ⟨gb251, 1, none⟩) (Kd.R_far (p := ⟨gb251, 0, none⟩) (Kd.R_types HO254.out BK251.out (by decide)) (fun _ hk => hk.2) (.slice Ao10 t252.length co10)) (fun _ hk => hk.2) (.bool t255)) (fun _ hk => hk.2) (.int .i64 t256)) (fun _ hk => trivial), bl_2 HB GE250 GE251⟩

-- NOT PRINTED: function 73 (hard_Put_3)

-- NOT PRINTED: function 68 (hard_all)

/-! ### hard_Put: function 45 -/
theorem c1_ {w : World} {g : Nat} {t : TypeId} {a0 : Value} (h : Aside0 (w.heap[g]? = some (.cells #[a0] t (0, 0)))) : w.cell? ⟨g, 0, none⟩ = some a0 ∧ w.frozen? ⟨g, 0, none⟩ = false := ⟨(blk_cell h.out 0).trans rfl, blk_frozen h.out 0⟩
set_option maxHeartbeats 80000000 in
set_option maxRecDepth 100000 in
theorem hard_Put_1.calls (k gx gy : Nat) (A0_0 : Option Addr) (c0_0 : Nat) (l0_0 : List (S71)) (a0_1 : Bool) (a0_2 : Int) (sx sy : ByteArray) (r1 : List (S71)) (r2 : Bool) (r3 : Int) (r4 : Int) (w : World) (hx : w.heap[gx]? = some (.cells #[.string sx] 9 (0, 0))) (hy : w.heap[gy]? = some (.cells #[.string sy] 9 (0, 0))) (hr0_0 : Kd.C k71 w A0_0 l0_0.length l0_0) (hc0_0 : l0_0.length ≤ c0_0) (h : disk_Add.f k l0_0 a0_1 a0_2 sx sy = some (r1, r2, r3, r4)) :
  Calls Try.prog 69 #[.agg #[.slice A0_0 l0_0.length c0_0, .bool a0_1, .int .i64 a0_2], .pointer (some ⟨gx, 0, none⟩), .pointer (some ⟨gy, 0, none⟩)] w fun e w' => ∃ v0_ : Value, e = .returned (.tuple #[.agg #[v0_, .bool r2, .int .i64 r3], .int .i64 r4]) ∧ Kd.R k71 71 w' w.heap.size (fun _ => True) v0_ r1 ∧ Below w.heap.size w w' := by
 have hu24 := Try.underlying24
 have HR0_0 := Aside0.mk hr0_0
 have HC0_0 := Aside0.mk hc0_0
 clear hr0_0 hc0_0
 have BX := Aside0.mk hx
 clear hx
 have BY := Aside0.mk hy
 clear hy
 have HB := Aside0.mk (Below.refl w.heap.size w)
 have A4 := Aside0.mk h
 clear h
 go_enter Try.func69, Try.ntmps69
 go_wp2_with (first | ((with_reducible refine gate_dst (N := 3) rfl ?_); refine bx_ 3 #[.slice A0_0 l0_0.length c0_0, .bool a0_1, .int .i64 a0_2] 24 ?_; intro ga hg w_ hbox hb; have BKa := Aside0.mk (hbox); have GEa := Aside0.mk (bs_0 hg HB ); replace BX := Aside0.mk (bb_ BX hb); replace BY := Aside0.mk (bb_ BY hb); replace HB := Aside0.mk (below_step (bl_ HB) hb); clear hb hbox hg) | ((with_reducible refine gate_dst (N := 4) rfl ?_); refine bx_ 4 #[.slice none 0 0, .bool false, .int .i64 0] 24 ?_; intro gb hg w_ hbox hb; have BKb := Aside0.mk (hbox); have GEb := Aside0.mk (bs_1 hg HB GEa); have NBa_b := Aside0.mk (nb_ hg BKa); have NBb_a := Aside0.mk (nc_ hg BKa); replace BX := Aside0.mk (bb_ BX hb); replace BY := Aside0.mk (bb_ BY hb); replace BKa := Aside0.mk (bb_ BKa hb); replace HB := Aside0.mk (below_step (bl_1 HB GEa) hb); clear hb hbox hg; have hne := NBa_b.out; have hne2 := NBb_a.out; obtain ⟨hcza_0, hcza_1, hcza_2, hfza_0, hfza_1, hfza_2⟩ := c3_ BKa; obtain ⟨hczx, hfzx⟩ := c1_ BX; obtain ⟨hczy, hfzy⟩ := c1_ BY) | ((with_reducible refine gate_callee (f := 70) rfl ?_); refine goesL_ (some 9) rfl rfl Try.func70 (by kernel_rfl) rfl #[.agg #[.slice A0_0 l0_0.length c0_0, .bool a0_1, .int .i64 a0_2], .string sx, .string sy] rfl (ar_) ?_; (with_reducible refine (disk_Add.calls k _ _ l0_0 a0_1 a0_2 sx sy r1 r2 r3 r4 _ ?side1 ?side2 A4.out).mono ?_); (case side1 => exact cl_ (Kd.C_below HR0_0.out HB.out)); (case side2 => exact HC0_0.out); rintro e w9 ⟨v9, rfl, ho0, hb⟩; refine ⟨_, rfl, ?_⟩; have HO := Aside0.mk (Kd.R_lower ho0 (below_size (bl_2 HB GEa GEb))); replace BKb := Aside0.mk (bb_ BKb hb); replace HB := Aside0.mk (below_step (bl_2 HB GEa GEb) hb); clear hb ho0; obtain ⟨Ao, co, eo⟩ := Kd.R_slice HO.out; subst eo; obtain ⟨hczb_0, hczb_1, hczb_2, hfzb_0, hfzb_1, hfzb_2⟩ := c3_ BKb))
 refine bodyPost_ret (results_ct rfl _ _ gb 24 #[.slice Ao r1.length co, .bool r2, .int .i64 r3] (0, 0) _ rfl (bp_0 BKb) Try.underlying24 rfl (by kernel_rfl)) rfl ?_
 exact ⟨_, by first | rfl | (simp; done) | (simp [*]; done), by (with_reducible repeat (first | apply Kd.R_alloc | apply Kd.R_drewN | apply Kd.R_drew)); exact Kd.R_mono (Kd.R_far (p := ⟨gb, 2, none⟩) (Kd.R_far (p := ⟨gb, 1, none⟩) (Kd.R_far (p := ⟨gb, 0, none⟩) (Kd.R_types HO.out BKb.out (by decide)) (fun _ hk => hk.2) _) (fun _ hk => hk.2) _) (fun _ hk => hk.2) _) (fun _ hk => trivial), bl_2 HB GEa GEb⟩

set_option maxHeartbeats 80000000 in
set_option maxRecDepth 100000 in
theorem hard_Put_2.calls (k gx : Nat) (A0_0 : Option Addr) (c0_0 : Nat) (l0_0 : List (S71)) (a0_1 : Bool) (a0_2 : Int) (sx : ByteArray) (r1 : List (S71)) (r2 : Bool) (r3 : Int) (r4 : Int) (w : World) (hx : w.heap[gx]? = some (.cells #[.string sx] 9 (0, 0))) (hr0_0 : Kd.C k71 w A0_0 l0_0.length l0_0) (hc0_0 : l0_0.length ≤ c0_0) (h : disk_Sync.f k l0_0 a0_1 a0_2 sx = some (r1, r2, r3, r4)) :
  Calls Try.prog 71 #[.agg #[.slice A0_0 l0_0.length c0_0, .bool a0_1, .int .i64 a0_2], .pointer (some ⟨gx, 0, none⟩)] w fun e w' => ∃ v0_ : Value, e = .returned (.tuple #[.agg #[v0_, .bool r2, .int .i64 r3], .int .i64 r4]) ∧ Kd.R k71 71 w' w.heap.size (fun _ => True) v0_ r1 ∧ Below w.heap.size w w' := by
 have hu24 := Try.underlying24
 have HR0_0 := Aside0.mk hr0_0
 have HC0_0 := Aside0.mk hc0_0
 clear hr0_0 hc0_0
 have BX := Aside0.mk hx
 clear hx
 have HB := Aside0.mk (Below.refl w.heap.size w)
 have A4 := Aside0.mk h
 clear h
 go_enter Try.func71, Try.ntmps71
 go_wp2_with (first | ((with_reducible refine gate_dst (N := 2) rfl ?_); refine bx_ 2 #[.slice A0_0 l0_0.length c0_0, .bool a0_1, .int .i64 a0_2] 24 ?_; intro ga hg w_ hbox hb; have BKa := Aside0.mk (hbox); have GEa := Aside0.mk (bs_0 hg HB ); replace BX := Aside0.mk (bb_ BX hb); replace HB := Aside0.mk (below_step (bl_ HB) hb); clear hb hbox hg) | ((with_reducible refine gate_dst (N := 3) rfl ?_); refine bx_ 3 #[.slice none 0 0, .bool false, .int .i64 0] 24 ?_; intro gb hg w_ hbox hb; have BKb := Aside0.mk (hbox); have GEb := Aside0.mk (bs_1 hg HB GEa); have NBa_b := Aside0.mk (nb_ hg BKa); have NBb_a := Aside0.mk (nc_ hg BKa); replace BX := Aside0.mk (bb_ BX hb); replace BKa := Aside0.mk (bb_ BKa hb); replace HB := Aside0.mk (below_step (bl_1 HB GEa) hb); clear hb hbox hg; have hne := NBa_b.out; have hne2 := NBb_a.out; obtain ⟨hcza_0, hcza_1, hcza_2, hfza_0, hfza_1, hfza_2⟩ := c3_ BKa; obtain ⟨hczx, hfzx⟩ := c1_ BX) | ((with_reducible refine gate_callee (f := 72) rfl ?_); refine goesL_ (some 7) rfl rfl Try.func72 (by kernel_rfl) rfl #[.agg #[.slice A0_0 l0_0.length c0_0, .bool a0_1, .int .i64 a0_2], .string sx] rfl (ar_) ?_; (with_reducible refine (disk_Sync.calls k _ _ l0_0 a0_1 a0_2 sx r1 r2 r3 r4 _ ?side1 ?side2 A4.out).mono ?_); (case side1 => exact cl_ (Kd.C_below HR0_0.out HB.out)); (case side2 => exact HC0_0.out); rintro e w9 ⟨v9, rfl, ho0, hb⟩; refine ⟨_, rfl, ?_⟩; have HO := Aside0.mk (Kd.R_lower ho0 (below_size (bl_2 HB GEa GEb))); replace BKb := Aside0.mk (bb_ BKb hb); replace HB := Aside0.mk (below_step (bl_2 HB GEa GEb) hb); clear hb ho0; obtain ⟨Ao, co, eo⟩ := Kd.R_slice HO.out; subst eo; obtain ⟨hczb_0, hczb_1, hczb_2, hfzb_0, hfzb_1, hfzb_2⟩ := c3_ BKb))
 refine bodyPost_ret (results_ct rfl _ _ gb 24 #[.slice Ao r1.length co, .bool r2, .int .i64 r3] (0, 0) _ rfl (bp_0 BKb) Try.underlying24 rfl (by kernel_rfl)) rfl ?_
 exact ⟨_, by first | rfl | (simp; done) | (simp [*]; done), by (with_reducible repeat (first | apply Kd.R_alloc | apply Kd.R_drewN | apply Kd.R_drew)); exact Kd.R_mono (Kd.R_far (p := ⟨gb, 2, none⟩) (Kd.R_far (p := ⟨gb, 1, none⟩) (Kd.R_far (p := ⟨gb, 0, none⟩) (Kd.R_types HO.out BKb.out (by decide)) (fun _ hk => hk.2) _) (fun _ hk => hk.2) _) (fun _ hk => hk.2) _) (fun _ hk => trivial), bl_2 HB GEa GEb⟩

set_option maxHeartbeats 80000000 in
set_option maxRecDepth 100000 in
theorem hard_Put_3.calls (k gx gy : Nat) (A0_0 : Option Addr) (c0_0 : Nat) (l0_0 : List (S71)) (a0_1 : Bool) (a0_2 : Int) (sx sy : ByteArray) (r1 : List (S71)) (r2 : Bool) (r3 : Int) (r4 : Int) (w : World) (hx : w.heap[gx]? = some (.cells #[.string sx] 9 (0, 0))) (hy : w.heap[gy]? = some (.cells #[.string sy] 9 (0, 0))) (hr0_0 : Kd.C k71 w A0_0 l0_0.length l0_0) (hc0_0 : l0_0.length ≤ c0_0) (h : disk_Swap.f k l0_0 a0_1 a0_2 sx sy = some (r1, r2, r3, r4)) :
  Calls Try.prog 73 #[.agg #[.slice A0_0 l0_0.length c0_0, .bool a0_1, .int .i64 a0_2], .pointer (some ⟨gx, 0, none⟩), .pointer (some ⟨gy, 0, none⟩)] w fun e w' => ∃ v0_ : Value, e = .returned (.tuple #[.agg #[v0_, .bool r2, .int .i64 r3], .int .i64 r4]) ∧ Kd.R k71 71 w' w.heap.size (fun _ => True) v0_ r1 ∧ Below w.heap.size w w' := by
 have hu24 := Try.underlying24
 have HR0_0 := Aside0.mk hr0_0
 have HC0_0 := Aside0.mk hc0_0
 clear hr0_0 hc0_0
 have BX := Aside0.mk hx
 clear hx
 have BY := Aside0.mk hy
 clear hy
 have HB := Aside0.mk (Below.refl w.heap.size w)
 have A4 := Aside0.mk h
 clear h
 go_enter Try.func73, Try.ntmps73
 go_wp2_with (first | ((with_reducible refine gate_dst (N := 3) rfl ?_); refine bx_ 3 #[.slice A0_0 l0_0.length c0_0, .bool a0_1, .int .i64 a0_2] 24 ?_; intro ga hg w_ hbox hb; have BKa := Aside0.mk (hbox); have GEa := Aside0.mk (bs_0 hg HB ); replace BX := Aside0.mk (bb_ BX hb); replace BY := Aside0.mk (bb_ BY hb); replace HB := Aside0.mk (below_step (bl_ HB) hb); clear hb hbox hg) | ((with_reducible refine gate_dst (N := 4) rfl ?_); refine bx_ 4 #[.slice none 0 0, .bool false, .int .i64 0] 24 ?_; intro gb hg w_ hbox hb; have BKb := Aside0.mk (hbox); have GEb := Aside0.mk (bs_1 hg HB GEa); have NBa_b := Aside0.mk (nb_ hg BKa); have NBb_a := Aside0.mk (nc_ hg BKa); replace BX := Aside0.mk (bb_ BX hb); replace BY := Aside0.mk (bb_ BY hb); replace BKa := Aside0.mk (bb_ BKa hb); replace HB := Aside0.mk (below_step (bl_1 HB GEa) hb); clear hb hbox hg; have hne := NBa_b.out; have hne2 := NBb_a.out; obtain ⟨hcza_0, hcza_1, hcza_2, hfza_0, hfza_1, hfza_2⟩ := c3_ BKa; obtain ⟨hczx, hfzx⟩ := c1_ BX; obtain ⟨hczy, hfzy⟩ := c1_ BY) | ((with_reducible refine gate_callee (f := 74) rfl ?_); refine goesL_ (some 9) rfl rfl Try.func74 (by kernel_rfl) rfl #[.agg #[.slice A0_0 l0_0.length c0_0, .bool a0_1, .int .i64 a0_2], .string sx, .string sy] rfl (ar_) ?_; (with_reducible refine (disk_Swap.calls k _ _ l0_0 a0_1 a0_2 sx sy r1 r2 r3 r4 _ ?side1 ?side2 A4.out).mono ?_); (case side1 => exact cl_ (Kd.C_below HR0_0.out HB.out)); (case side2 => exact HC0_0.out); rintro e w9 ⟨v9, rfl, ho0, hb⟩; refine ⟨_, rfl, ?_⟩; have HO := Aside0.mk (Kd.R_lower ho0 (below_size (bl_2 HB GEa GEb))); replace BKb := Aside0.mk (bb_ BKb hb); replace HB := Aside0.mk (below_step (bl_2 HB GEa GEb) hb); clear hb ho0; obtain ⟨Ao, co, eo⟩ := Kd.R_slice HO.out; subst eo; obtain ⟨hczb_0, hczb_1, hczb_2, hfzb_0, hfzb_1, hfzb_2⟩ := c3_ BKb))
 refine bodyPost_ret (results_ct rfl _ _ gb 24 #[.slice Ao r1.length co, .bool r2, .int .i64 r3] (0, 0) _ rfl (bp_0 BKb) Try.underlying24 rfl (by kernel_rfl)) rfl ?_
 exact ⟨_, by first | rfl | (simp; done) | (simp [*]; done), by (with_reducible repeat (first | apply Kd.R_alloc | apply Kd.R_drewN | apply Kd.R_drew)); exact Kd.R_mono (Kd.R_far (p := ⟨gb, 2, none⟩) (Kd.R_far (p := ⟨gb, 1, none⟩) (Kd.R_far (p := ⟨gb, 0, none⟩) (Kd.R_types HO.out BKb.out (by decide)) (fun _ hk => hk.2) _) (fun _ hk => hk.2) _) (fun _ hk => hk.2) _) (fun _ hk => trivial), bl_2 HB GEa GEb⟩

def hard_all.s2 (k : Nat) (tm nm : ByteArray) (l : List (S71)) (b : Bool) (i : Int) : Option ((List (S71)) × Bool × Int × Int) := (disk_Swap.f k l b i tm nm).bind fun x => if x.2.2.2 = 0 then some (x.1, x.2.1, x.2.2.1, 0) else some (x.1, x.2.1, x.2.2.1, x.2.2.2)
def hard_all.s1 (k : Nat) (tm nm : ByteArray) (l : List (S71)) (b : Bool) (i : Int) : Option ((List (S71)) × Bool × Int × Int) := (disk_Sync.f k l b i tm).bind fun x => if x.2.2.2 = 0 then hard_all.s2 k tm nm x.1 x.2.1 x.2.2.1 else some (x.1, x.2.1, x.2.2.1, x.2.2.2)
def hard_all.f (k : Nat) (tm nm dt : ByteArray) (l : List (S71)) (b : Bool) (i : Int) : Option ((List (S71)) × Bool × Int × Int) := (disk_Add.f k l b i tm dt).bind fun x => if x.2.2.2 = 0 then hard_all.s1 k tm nm x.1 x.2.1 x.2.2.1 else some (x.1, x.2.1, x.2.2.1, x.2.2.2)
theorem hard_all.mono : ∀ a0 a1 a2 a3 a4 a5 k, LeO (hard_all.f k a0 a1 a2 a3 a4 a5) (hard_all.f (k + 1) a0 a1 a2 a3 a4 a5) := fun a0 a1 a2 a3 a4 a5 k => LeO.bind (disk_Add.mono _ _ _ _ _ k) (fun _ => LeO.ite (LeO.bind (disk_Sync.mono _ _ _ _ k) (fun _ => LeO.ite (LeO.bind (disk_Swap.mono _ _ _ _ _ k) (fun _ => LeO.refl _)) (LeO.refl _))) (LeO.refl _))
set_option maxHeartbeats 80000000 in
set_option maxRecDepth 100000 in
theorem hard_all.calls (k gr gt gd gn : Nat) (A0_0 : Option Addr) (c0_0 : Nat) (l0_0 : List (S71)) (a0_1 : Bool) (a0_2 : Int) (tm nm dt : ByteArray) (r1 : List (S71)) (r2 : Bool) (r3 : Int) (r4 : Int) (w : World) (hrow : w.heap[gr]? = some (.cells #[.func (.func 69) #[] #[.pointer (some ⟨gt, 0, none⟩), .pointer (some ⟨gd, 0, none⟩)], .func (.func 71) #[] #[.pointer (some ⟨gt, 0, none⟩)], .func (.func 73) #[] #[.pointer (some ⟨gt, 0, none⟩), .pointer (some ⟨gn, 0, none⟩)]] 95 (0, 0))) (ht : w.heap[gt]? = some (.cells #[.string tm] 9 (0, 0))) (hd : w.heap[gd]? = some (.cells #[.string dt] 9 (0, 0))) (hn : w.heap[gn]? = some (.cells #[.string nm] 9 (0, 0))) (hr0_0 : Kd.C k71 w A0_0 l0_0.length l0_0) (hc0_0 : l0_0.length ≤ c0_0) (h : hard_all.f k tm nm dt l0_0 a0_1 a0_2 = some (r1, r2, r3, r4)) :
  Calls Try.prog 68 #[.agg #[.slice A0_0 l0_0.length c0_0, .bool a0_1, .int .i64 a0_2], .slice (some ⟨gr, 0, none⟩) 3 3] w fun e w' => ∃ v0_ : Value, e = .returned (.tuple #[.agg #[v0_, .bool r2, .int .i64 r3], .int .i64 r4]) ∧ Kd.R k71 71 w' w.heap.size (fun _ => True) v0_ r1 ∧ Below w.heap.size w w' := by
 have hu24 := Try.underlying24
 have HR0_0 := Aside0.mk hr0_0
 have HC0_0 := Aside0.mk hc0_0
 clear hr0_0 hc0_0
 have BR := Aside0.mk hrow
 have BT := Aside0.mk ht
 have BD := Aside0.mk hd
 have BN := Aside0.mk hn
 clear hrow ht hd hn
 have HB := Aside0.mk (Below.refl w.heap.size w)
 have H' := Aside0.mk h
 clear h
 go_enter Try.func68, Try.ntmps68
 go_wp2_with (first | ((with_reducible refine gate_dst (N := 2) rfl ?_); refine bx_ 2 #[.slice A0_0 l0_0.length c0_0, .bool a0_1, .int .i64 a0_2] 24 ?_; intro ga hg w_ hbox hb; have BKa := Aside0.mk (hbox); have GEa := Aside0.mk (bs_0 hg HB ); have NBr_a := Aside0.mk (nb_ hg BR); have NBt_a := Aside0.mk (nb_ hg BT); have NBd_a := Aside0.mk (nb_ hg BD); have NBn_a := Aside0.mk (nb_ hg BN); replace BR := Aside0.mk (bb_ BR hb); replace BT := Aside0.mk (bb_ BT hb); replace BD := Aside0.mk (bb_ BD hb); replace BN := Aside0.mk (bb_ BN hb); replace HB := Aside0.mk (below_step (bl_ HB) hb); clear hb hbox hg) | ((with_reducible refine gate_dst (N := 4) rfl ?_); refine bx_ 4 #[.slice none 0 0, .bool false, .int .i64 0] 24 ?_; intro gb hg w_ hbox hb; have BKb := Aside0.mk (hbox); have GEb := Aside0.mk (bs_1 hg HB GEa); have NBa_b := Aside0.mk (nb_ hg BKa); have NBb_a := Aside0.mk (nc_ hg BKa); replace BR := Aside0.mk (bb_ BR hb); replace BT := Aside0.mk (bb_ BT hb); replace BD := Aside0.mk (bb_ BD hb); replace BN := Aside0.mk (bb_ BN hb); replace BKa := Aside0.mk (bb_ BKa hb); replace HB := Aside0.mk (below_step (bl_1 HB GEa) hb); clear hb hbox hg))
 go_loopg [12] 4 (fun kq v12 w' => Aside0 (w'.heap[gr]? = some (.cells #[.func (.func 69) #[] #[.pointer (some ⟨gt, 0, none⟩), .pointer (some ⟨gd, 0, none⟩)], .func (.func 71) #[] #[.pointer (some ⟨gt, 0, none⟩)], .func (.func 73) #[] #[.pointer (some ⟨gt, 0, none⟩), .pointer (some ⟨gn, 0, none⟩)]] 95 (0, 0))) ∧ Aside0 (w'.heap[gt]? = some (.cells #[.string tm] 9 (0, 0))) ∧ Aside0 (w'.heap[gd]? = some (.cells #[.string dt] 9 (0, 0))) ∧ Aside0 (w'.heap[gn]? = some (.cells #[.string nm] 9 (0, 0))) ∧ Aside0 (w'.heap[gb]? = some (.cells #[.slice none 0 0, .bool false, .int .i64 0] 24 (0, 0))) ∧ Aside0 (Below w.heap.size w w') ∧ ((kq = 4 ∧ v12 = .int .i64 0 ∧ Aside0 (w'.heap[ga]? = some (.cells #[.slice A0_0 l0_0.length c0_0, .bool a0_1, .int .i64 a0_2] 24 (0, 0)))) ∨ (kq = 3 ∧ v12 = .int .i64 1 ∧ ∃ (v_ : Value) (l_ : List (S71)) (b_ : Bool) (i_ : Int), Aside0 (w'.heap[ga]? = some (.cells #[v_, .bool b_, .int .i64 i_] 24 (0, 0))) ∧ Aside0 (Kd.R k71 71 w' w.heap.size (fun _ => True) v_ l_) ∧ Aside0 (hard_all.s1 k tm nm l_ b_ i_ = some (r1, r2, r3, r4))) ∨ (kq = 2 ∧ v12 = .int .i64 2 ∧ ∃ (v_ : Value) (l_ : List (S71)) (b_ : Bool) (i_ : Int), Aside0 (w'.heap[ga]? = some (.cells #[v_, .bool b_, .int .i64 i_] 24 (0, 0))) ∧ Aside0 (Kd.R k71 71 w' w.heap.size (fun _ => True) v_ l_) ∧ Aside0 (hard_all.s2 k tm nm l_ b_ i_ = some (r1, r2, r3, r4))) ∨ (kq = 1 ∧ v12 = .int .i64 3 ∧ ∃ (v_ : Value) (l_ : List (S71)) (b_ : Bool) (i_ : Int), Aside0 (w'.heap[ga]? = some (.cells #[v_, .bool b_, .int .i64 i_] 24 (0, 0))) ∧ Aside0 (Kd.R k71 71 w' w.heap.size (fun _ => True) v_ l_) ∧ Aside0 (some (l_, b_, i_, 0) = some (r1, r2, r3, r4)))))
 case atStart => exact ⟨⟨bk_ BR⟩, ⟨bk_ BT⟩, ⟨bk_ BD⟩, ⟨bk_ BN⟩, ⟨bk_ BKb⟩, ⟨bl_2 HB GEa GEb⟩, .inl ⟨rfl, by first | rfl | (simp; done), ⟨bk_ BKa⟩⟩⟩
 case round =>
  clear HB BR BT BD BN BKa BKb
  obtain ⟨BR, BT, BD, BN, BKb, HB, hst⟩ := hrel
  rcases hst with ⟨rfl, rfl, BKa⟩ | ⟨rfl, rfl, v_, l_, b_, i_, BKa, HO, H1⟩ | ⟨rfl, rfl, v_, l_, b_, i_, BKa, HO, H1⟩ | ⟨rfl, rfl, v_, l_, b_, i_, BKa, HO, H1⟩
  · obtain ⟨⟨x1, x2, x3, x4⟩, A10, H⟩ := Option.bind_eq_some_iff.mp (show (disk_Add.f k l0_0 a0_1 a0_2 tm dt).bind _ = some _ from H'.out)
    have A1 := Aside0.mk A10
    clear A10 H'
    try dsimp only at H
    obtain ⟨hca_0, hca_1, hca_2, hfa_0, hfa_1, hfa_2⟩ := c3_ BKa
    have hcr := (blk_cell BR.out 0).trans rfl
    by_cases c4 : x4 = 0
    ·rw [if_pos c4] at H
     have c4b0 : (x4 == 0) = true := beq_iff_eq.mpr c4
     have c4b1 : (x4 != 0) = false := bne_eq_false_iff_eq.mpr c4
     clear c4
     have H2 := Aside0.mk H
     clear H
     go_wp2_with (first | (go_at_call 69; (with_reducible refine (hard_Put_1.calls k gt gd A0_0 c0_0 l0_0 a0_1 a0_2 tm dt x1 x2 x3 x4 _ ?bx ?bz ?s1 ?s2 A1.out).mono ?_); (case bx => exact bk_ BT); (case bz => exact bk_ BD); (case s1 => exact cl_ (Kd.C_below HR0_0.out HB.out)); (case s2 => exact HC0_0.out); rintro e w9 ⟨v9, rfl, ho0, hb⟩; have HO9 := Aside0.mk (Kd.R_lower ho0 (below_size (bl_2 HB GEa GEb))); replace BR := Aside0.mk (bb_ BR hb); replace BT := Aside0.mk (bb_ BT hb); replace BD := Aside0.mk (bb_ BD hb); replace BN := Aside0.mk (bb_ BN hb); replace BKa := Aside0.mk (bb_ BKa hb); replace BKb := Aside0.mk (bb_ BKb hb); replace HB := Aside0.mk (below_step (bl_2 HB GEa GEb) hb); clear hb ho0; obtain ⟨A9, c9, e9⟩ := Kd.R_slice HO9.out; subst e9) | ((with_reducible refine gate_dst (N := 8) rfl ?_); refine bx_ 8 #[.slice none 0 0, .bool false, .int .i64 0] 24 ?_; intro gc hg w_ hbox hb; have BKc := Aside0.mk (hbox); have GEc := Aside0.mk (bs_2 hg HB GEa GEb); have NBa_c := Aside0.mk (nb_ hg BKa); have NBc_a := Aside0.mk (nc_ hg BKa); have NBb_c := Aside0.mk (nb_ hg BKb); have NBc_b := Aside0.mk (nc_ hg BKb); have NBr_c := Aside0.mk (nb_ hg BR); have NBt_c := Aside0.mk (nb_ hg BT); have NBd_c := Aside0.mk (nb_ hg BD); have NBn_c := Aside0.mk (nb_ hg BN); replace BR := Aside0.mk (bb_ BR hb); replace BT := Aside0.mk (bb_ BT hb); replace BD := Aside0.mk (bb_ BD hb); replace BN := Aside0.mk (bb_ BN hb); replace BKa := Aside0.mk (bb_ BKa hb); replace BKb := Aside0.mk (bb_ BKb hb); replace HO9 := Aside0.mk (Kd.R_below (by (with_reducible repeat (first | apply Kd.R_alloc | apply Kd.R_drewN | apply Kd.R_drew)); exact HO9.out) hb); replace HB := Aside0.mk (below_step (bl_2 HB GEa GEb) hb); clear hb hbox hg; have hn1 := NBa_c.out; have hn2 := NBc_a.out; have hn3 := NBb_c.out; have hn4 := NBc_b.out; have hn5 := NBa_b.out; have hn6 := NBb_a.out; clear hca_0 hca_1 hca_2 hfa_0 hfa_1 hfa_2 hcr; obtain ⟨hcza_0, hcza_1, hcza_2, hfza_0, hfza_1, hfza_2⟩ := c3_ BKa; obtain ⟨hczb_0, hczb_1, hczb_2, hfzb_0, hfzb_1, hfzb_2⟩ := c3_ BKb; obtain ⟨hczc_0, hczc_1, hczc_2, hfzc_0, hfzc_1, hfzc_2⟩ := c3_ BKc))
     go_roundg 3
     case measure => omega
     case rel => exact ⟨⟨bp_2 BR NBr_a NBr_c⟩, ⟨bp_2 BT NBt_a NBt_c⟩, ⟨bp_2 BD NBd_a NBd_c⟩, ⟨bp_2 BN NBn_a NBn_c⟩, ⟨bp_2 BKb NBb_a NBb_c⟩, ⟨bl_3 HB GEa GEb GEc⟩, .inr (.inl ⟨rfl, by first | rfl | (simp; done), _, x1, x2, x3, ⟨bp_1 BKa NBa_c⟩, ⟨by (with_reducible repeat (first | apply Kd.R_alloc | apply Kd.R_drewN | apply Kd.R_drew)); exact Kd.R_mono (Kd.R_far (p := ⟨ga, 2, none⟩) (Kd.R_far (p := ⟨ga, 1, none⟩) (Kd.R_far (p := ⟨ga, 0, none⟩) (Kd.R_far (p := ⟨gc, 2, none⟩) (Kd.R_far (p := ⟨gc, 1, none⟩) (Kd.R_far (p := ⟨gc, 0, none⟩) (Kd.R_types (Kd.R_types HO9.out BKa.out (by decide)) BKc.out (by decide)) (fun _ hk => hk.2) _) (fun _ hk => hk.2) _) (fun _ hk => hk.2) _) (fun _ hk => hk.1.2) _) (fun _ hk => hk.1.2) _) (fun _ hk => hk.1.2) _) (fun _ hk => trivial)⟩, H2⟩)⟩
    rw [if_neg c4] at H
    have c4b0 : (x4 == 0) = false := beq_eq_false_iff_ne.mpr c4
    have c4b1 : (x4 != 0) = true := bne_iff_ne.mpr c4
    clear c4
    simp only [Option.some.injEq, Prod.mk.injEq] at H
    obtain ⟨rfl, rfl, rfl, rfl⟩ := H
    go_wp2_with (first | (go_at_call 69; (with_reducible refine (hard_Put_1.calls k gt gd A0_0 c0_0 l0_0 a0_1 a0_2 tm dt x1 x2 x3 x4 _ ?bx ?bz ?s1 ?s2 A1.out).mono ?_); (case bx => exact bk_ BT); (case bz => exact bk_ BD); (case s1 => exact cl_ (Kd.C_below HR0_0.out HB.out)); (case s2 => exact HC0_0.out); rintro e w9 ⟨v9, rfl, ho0, hb⟩; have HO9 := Aside0.mk (Kd.R_lower ho0 (below_size (bl_2 HB GEa GEb))); replace BR := Aside0.mk (bb_ BR hb); replace BT := Aside0.mk (bb_ BT hb); replace BD := Aside0.mk (bb_ BD hb); replace BN := Aside0.mk (bb_ BN hb); replace BKa := Aside0.mk (bb_ BKa hb); replace BKb := Aside0.mk (bb_ BKb hb); replace HB := Aside0.mk (below_step (bl_2 HB GEa GEb) hb); clear hb ho0; obtain ⟨A9, c9, e9⟩ := Kd.R_slice HO9.out; subst e9) | ((with_reducible refine gate_dst (N := 8) rfl ?_); refine bx_ 8 #[.slice none 0 0, .bool false, .int .i64 0] 24 ?_; intro gc hg w_ hbox hb; have BKc := Aside0.mk (hbox); have GEc := Aside0.mk (bs_2 hg HB GEa GEb); have NBa_c := Aside0.mk (nb_ hg BKa); have NBc_a := Aside0.mk (nc_ hg BKa); have NBb_c := Aside0.mk (nb_ hg BKb); have NBc_b := Aside0.mk (nc_ hg BKb); have NBr_c := Aside0.mk (nb_ hg BR); have NBt_c := Aside0.mk (nb_ hg BT); have NBd_c := Aside0.mk (nb_ hg BD); have NBn_c := Aside0.mk (nb_ hg BN); replace BR := Aside0.mk (bb_ BR hb); replace BT := Aside0.mk (bb_ BT hb); replace BD := Aside0.mk (bb_ BD hb); replace BN := Aside0.mk (bb_ BN hb); replace BKa := Aside0.mk (bb_ BKa hb); replace BKb := Aside0.mk (bb_ BKb hb); replace HO9 := Aside0.mk (Kd.R_below (by (with_reducible repeat (first | apply Kd.R_alloc | apply Kd.R_drewN | apply Kd.R_drew)); exact HO9.out) hb); replace HB := Aside0.mk (below_step (bl_2 HB GEa GEb) hb); clear hb hbox hg; have hn1 := NBa_c.out; have hn2 := NBc_a.out; have hn3 := NBb_c.out; have hn4 := NBc_b.out; have hn5 := NBa_b.out; have hn6 := NBb_a.out; clear hca_0 hca_1 hca_2 hfa_0 hfa_1 hfa_2 hcr; obtain ⟨hcza_0, hcza_1, hcza_2, hfza_0, hfza_1, hfza_2⟩ := c3_ BKa; obtain ⟨hczb_0, hczb_1, hczb_2, hfzb_0, hfzb_1, hfzb_2⟩ := c3_ BKb; obtain ⟨hczc_0, hczc_1, hczc_2, hfzc_0, hfzc_1, hfzc_2⟩ := c3_ BKc))
    refine bodyPost_ret (results_ct rfl _ _ gb 24 #[.slice A9 x1.length c9, .bool x2, .int .i64 x3] (0, 0) _ rfl (bp_1 BKb NBb_c) Try.underlying24 rfl (by kernel_rfl)) rfl ?_
    exact ⟨_, by first | rfl | (simp; done) | (simp [*]; done), by (with_reducible repeat (first | apply Kd.R_alloc | apply Kd.R_drewN | apply Kd.R_drew)); exact Kd.R_mono (Kd.R_far (p := ⟨gb, 2, none⟩) (Kd.R_far (p := ⟨gb, 1, none⟩) (Kd.R_far (p := ⟨gb, 0, none⟩) (Kd.R_far (p := ⟨gc, 2, none⟩) (Kd.R_far (p := ⟨gc, 1, none⟩) (Kd.R_far (p := ⟨gc, 0, none⟩) (Kd.R_types (Kd.R_types HO9.out BKb.out (by decide)) BKc.out (by decide)) (fun _ hk => hk.2) _) (fun _ hk => hk.2) _) (fun _ hk => hk.2) _) (fun _ hk => hk.1.2) _) (fun _ hk => hk.1.2) _) (fun _ hk => hk.1.2) _) (fun _ hk => trivial), bl_3 HB GEa GEb GEc⟩
  · obtain ⟨⟨x1, x2, x3, x4⟩, A10, H⟩ := Option.bind_eq_some_iff.mp (show (disk_Sync.f k l_ b_ i_ tm).bind _ = some _ from H1.out)
    have A1 := Aside0.mk A10
    clear A10 H' H1
    try dsimp only at H
    obtain ⟨Ao, co, eo⟩ := Kd.R_slice HO.out
    subst eo
    obtain ⟨hca_0, hca_1, hca_2, hfa_0, hfa_1, hfa_2⟩ := c3_ BKa
    have hcr := (blk_cell BR.out 1).trans rfl
    by_cases c4 : x4 = 0
    ·rw [if_pos c4] at H
     have c4b0 : (x4 == 0) = true := beq_iff_eq.mpr c4
     have c4b1 : (x4 != 0) = false := bne_eq_false_iff_eq.mpr c4
     clear c4
     have H2 := Aside0.mk H
     clear H
     go_wp2_with (first | (go_at_call 71; (with_reducible refine (hard_Put_2.calls k gt Ao co l_ b_ i_ tm x1 x2 x3 x4 _ ?bx ?s1 ?s2 A1.out).mono ?_); (case bx => exact bk_ BT); (case s1 => exact cl_ ((Kd.R_reads' HO.out).2.2)); (case s2 => exact (Kd.R_reads' HO.out).2.1); rintro e w9 ⟨v9, rfl, ho0, hb⟩; have HO9 := Aside0.mk (Kd.R_lower ho0 (below_size (bl_2 HB GEa GEb))); replace BR := Aside0.mk (bb_ BR hb); replace BT := Aside0.mk (bb_ BT hb); replace BD := Aside0.mk (bb_ BD hb); replace BN := Aside0.mk (bb_ BN hb); replace BKa := Aside0.mk (bb_ BKa hb); replace BKb := Aside0.mk (bb_ BKb hb); replace HB := Aside0.mk (below_step (bl_2 HB GEa GEb) hb); clear hb ho0; obtain ⟨A9, c9, e9⟩ := Kd.R_slice HO9.out; subst e9) | ((with_reducible refine gate_dst (N := 8) rfl ?_); refine bx_ 8 #[.slice none 0 0, .bool false, .int .i64 0] 24 ?_; intro gc hg w_ hbox hb; have BKc := Aside0.mk (hbox); have GEc := Aside0.mk (bs_2 hg HB GEa GEb); have NBa_c := Aside0.mk (nb_ hg BKa); have NBc_a := Aside0.mk (nc_ hg BKa); have NBb_c := Aside0.mk (nb_ hg BKb); have NBc_b := Aside0.mk (nc_ hg BKb); have NBr_c := Aside0.mk (nb_ hg BR); have NBt_c := Aside0.mk (nb_ hg BT); have NBd_c := Aside0.mk (nb_ hg BD); have NBn_c := Aside0.mk (nb_ hg BN); replace BR := Aside0.mk (bb_ BR hb); replace BT := Aside0.mk (bb_ BT hb); replace BD := Aside0.mk (bb_ BD hb); replace BN := Aside0.mk (bb_ BN hb); replace BKa := Aside0.mk (bb_ BKa hb); replace BKb := Aside0.mk (bb_ BKb hb); replace HO9 := Aside0.mk (Kd.R_below (by (with_reducible repeat (first | apply Kd.R_alloc | apply Kd.R_drewN | apply Kd.R_drew)); exact HO9.out) hb); replace HB := Aside0.mk (below_step (bl_2 HB GEa GEb) hb); clear hb hbox hg; have hn1 := NBa_c.out; have hn2 := NBc_a.out; have hn3 := NBb_c.out; have hn4 := NBc_b.out; have hn5 := NBa_b.out; have hn6 := NBb_a.out; clear hca_0 hca_1 hca_2 hfa_0 hfa_1 hfa_2 hcr; obtain ⟨hcza_0, hcza_1, hcza_2, hfza_0, hfza_1, hfza_2⟩ := c3_ BKa; obtain ⟨hczb_0, hczb_1, hczb_2, hfzb_0, hfzb_1, hfzb_2⟩ := c3_ BKb; obtain ⟨hczc_0, hczc_1, hczc_2, hfzc_0, hfzc_1, hfzc_2⟩ := c3_ BKc))
     go_roundg 2
     case measure => omega
     case rel => exact ⟨⟨bp_2 BR NBr_a NBr_c⟩, ⟨bp_2 BT NBt_a NBt_c⟩, ⟨bp_2 BD NBd_a NBd_c⟩, ⟨bp_2 BN NBn_a NBn_c⟩, ⟨bp_2 BKb NBb_a NBb_c⟩, ⟨bl_3 HB GEa GEb GEc⟩, .inr (.inr (.inl ⟨rfl, by first | rfl | (simp; done), _, x1, x2, x3, ⟨bp_1 BKa NBa_c⟩, ⟨by (with_reducible repeat (first | apply Kd.R_alloc | apply Kd.R_drewN | apply Kd.R_drew)); exact Kd.R_mono (Kd.R_far (p := ⟨ga, 2, none⟩) (Kd.R_far (p := ⟨ga, 1, none⟩) (Kd.R_far (p := ⟨ga, 0, none⟩) (Kd.R_far (p := ⟨gc, 2, none⟩) (Kd.R_far (p := ⟨gc, 1, none⟩) (Kd.R_far (p := ⟨gc, 0, none⟩) (Kd.R_types (Kd.R_types HO9.out BKa.out (by decide)) BKc.out (by decide)) (fun _ hk => hk.2) _) (fun _ hk => hk.2) _) (fun _ hk => hk.2) _) (fun _ hk => hk.1.2) _) (fun _ hk => hk.1.2) _) (fun _ hk => hk.1.2) _) (fun _ hk => trivial)⟩, H2⟩))⟩
    rw [if_neg c4] at H
    have c4b0 : (x4 == 0) = false := beq_eq_false_iff_ne.mpr c4
    have c4b1 : (x4 != 0) = true := bne_iff_ne.mpr c4
    clear c4
    simp only [Option.some.injEq, Prod.mk.injEq] at H
    obtain ⟨rfl, rfl, rfl, rfl⟩ := H
    go_wp2_with (first | (go_at_call 71; (with_reducible refine (hard_Put_2.calls k gt Ao co l_ b_ i_ tm x1 x2 x3 x4 _ ?bx ?s1 ?s2 A1.out).mono ?_); (case bx => exact bk_ BT); (case s1 => exact cl_ ((Kd.R_reads' HO.out).2.2)); (case s2 => exact (Kd.R_reads' HO.out).2.1); rintro e w9 ⟨v9, rfl, ho0, hb⟩; have HO9 := Aside0.mk (Kd.R_lower ho0 (below_size (bl_2 HB GEa GEb))); replace BR := Aside0.mk (bb_ BR hb); replace BT := Aside0.mk (bb_ BT hb); replace BD := Aside0.mk (bb_ BD hb); replace BN := Aside0.mk (bb_ BN hb); replace BKa := Aside0.mk (bb_ BKa hb); replace BKb := Aside0.mk (bb_ BKb hb); replace HB := Aside0.mk (below_step (bl_2 HB GEa GEb) hb); clear hb ho0; obtain ⟨A9, c9, e9⟩ := Kd.R_slice HO9.out; subst e9) | ((with_reducible refine gate_dst (N := 8) rfl ?_); refine bx_ 8 #[.slice none 0 0, .bool false, .int .i64 0] 24 ?_; intro gc hg w_ hbox hb; have BKc := Aside0.mk (hbox); have GEc := Aside0.mk (bs_2 hg HB GEa GEb); have NBa_c := Aside0.mk (nb_ hg BKa); have NBc_a := Aside0.mk (nc_ hg BKa); have NBb_c := Aside0.mk (nb_ hg BKb); have NBc_b := Aside0.mk (nc_ hg BKb); have NBr_c := Aside0.mk (nb_ hg BR); have NBt_c := Aside0.mk (nb_ hg BT); have NBd_c := Aside0.mk (nb_ hg BD); have NBn_c := Aside0.mk (nb_ hg BN); replace BR := Aside0.mk (bb_ BR hb); replace BT := Aside0.mk (bb_ BT hb); replace BD := Aside0.mk (bb_ BD hb); replace BN := Aside0.mk (bb_ BN hb); replace BKa := Aside0.mk (bb_ BKa hb); replace BKb := Aside0.mk (bb_ BKb hb); replace HO9 := Aside0.mk (Kd.R_below (by (with_reducible repeat (first | apply Kd.R_alloc | apply Kd.R_drewN | apply Kd.R_drew)); exact HO9.out) hb); replace HB := Aside0.mk (below_step (bl_2 HB GEa GEb) hb); clear hb hbox hg; have hn1 := NBa_c.out; have hn2 := NBc_a.out; have hn3 := NBb_c.out; have hn4 := NBc_b.out; have hn5 := NBa_b.out; have hn6 := NBb_a.out; clear hca_0 hca_1 hca_2 hfa_0 hfa_1 hfa_2 hcr; obtain ⟨hcza_0, hcza_1, hcza_2, hfza_0, hfza_1, hfza_2⟩ := c3_ BKa; obtain ⟨hczb_0, hczb_1, hczb_2, hfzb_0, hfzb_1, hfzb_2⟩ := c3_ BKb; obtain ⟨hczc_0, hczc_1, hczc_2, hfzc_0, hfzc_1, hfzc_2⟩ := c3_ BKc))
    refine bodyPost_ret (results_ct rfl _ _ gb 24 #[.slice A9 x1.length c9, .bool x2, .int .i64 x3] (0, 0) _ rfl (bp_1 BKb NBb_c) Try.underlying24 rfl (by kernel_rfl)) rfl ?_
    exact ⟨_, by first | rfl | (simp; done) | (simp [*]; done), by (with_reducible repeat (first | apply Kd.R_alloc | apply Kd.R_drewN | apply Kd.R_drew)); exact Kd.R_mono (Kd.R_far (p := ⟨gb, 2, none⟩) (Kd.R_far (p := ⟨gb, 1, none⟩) (Kd.R_far (p := ⟨gb, 0, none⟩) (Kd.R_far (p := ⟨gc, 2, none⟩) (Kd.R_far (p := ⟨gc, 1, none⟩) (Kd.R_far (p := ⟨gc, 0, none⟩) (Kd.R_types (Kd.R_types HO9.out BKb.out (by decide)) BKc.out (by decide)) (fun _ hk => hk.2) _) (fun _ hk => hk.2) _) (fun _ hk => hk.2) _) (fun _ hk => hk.1.2) _) (fun _ hk => hk.1.2) _) (fun _ hk => hk.1.2) _) (fun _ hk => trivial), bl_3 HB GEa GEb GEc⟩
  · obtain ⟨⟨x1, x2, x3, x4⟩, A10, H⟩ := Option.bind_eq_some_iff.mp (show (disk_Swap.f k l_ b_ i_ tm nm).bind _ = some _ from H1.out)
    have A1 := Aside0.mk A10
    clear A10 H' H1
    try dsimp only at H
    obtain ⟨Ao, co, eo⟩ := Kd.R_slice HO.out
    subst eo
    obtain ⟨hca_0, hca_1, hca_2, hfa_0, hfa_1, hfa_2⟩ := c3_ BKa
    have hcr := (blk_cell BR.out 2).trans rfl
    by_cases c4 : x4 = 0
    ·rw [if_pos c4] at H
     have c4b0 : (x4 == 0) = true := beq_iff_eq.mpr c4
     have c4b1 : (x4 != 0) = false := bne_eq_false_iff_eq.mpr c4
     clear c4
     have H2 := Aside0.mk H
     clear H
     go_wp2_with (first | (go_at_call 73; (with_reducible refine (hard_Put_3.calls k gt gn Ao co l_ b_ i_ tm nm x1 x2 x3 x4 _ ?bx ?bz ?s1 ?s2 A1.out).mono ?_); (case bx => exact bk_ BT); (case bz => exact bk_ BN); (case s1 => exact cl_ ((Kd.R_reads' HO.out).2.2)); (case s2 => exact (Kd.R_reads' HO.out).2.1); rintro e w9 ⟨v9, rfl, ho0, hb⟩; have HO9 := Aside0.mk (Kd.R_lower ho0 (below_size (bl_2 HB GEa GEb))); replace BR := Aside0.mk (bb_ BR hb); replace BT := Aside0.mk (bb_ BT hb); replace BD := Aside0.mk (bb_ BD hb); replace BN := Aside0.mk (bb_ BN hb); replace BKa := Aside0.mk (bb_ BKa hb); replace BKb := Aside0.mk (bb_ BKb hb); replace HB := Aside0.mk (below_step (bl_2 HB GEa GEb) hb); clear hb ho0; obtain ⟨A9, c9, e9⟩ := Kd.R_slice HO9.out; subst e9) | ((with_reducible refine gate_dst (N := 8) rfl ?_); refine bx_ 8 #[.slice none 0 0, .bool false, .int .i64 0] 24 ?_; intro gc hg w_ hbox hb; have BKc := Aside0.mk (hbox); have GEc := Aside0.mk (bs_2 hg HB GEa GEb); have NBa_c := Aside0.mk (nb_ hg BKa); have NBc_a := Aside0.mk (nc_ hg BKa); have NBb_c := Aside0.mk (nb_ hg BKb); have NBc_b := Aside0.mk (nc_ hg BKb); have NBr_c := Aside0.mk (nb_ hg BR); have NBt_c := Aside0.mk (nb_ hg BT); have NBd_c := Aside0.mk (nb_ hg BD); have NBn_c := Aside0.mk (nb_ hg BN); replace BR := Aside0.mk (bb_ BR hb); replace BT := Aside0.mk (bb_ BT hb); replace BD := Aside0.mk (bb_ BD hb); replace BN := Aside0.mk (bb_ BN hb); replace BKa := Aside0.mk (bb_ BKa hb); replace BKb := Aside0.mk (bb_ BKb hb); replace HO9 := Aside0.mk (Kd.R_below (by (with_reducible repeat (first | apply Kd.R_alloc | apply Kd.R_drewN | apply Kd.R_drew)); exact HO9.out) hb); replace HB := Aside0.mk (below_step (bl_2 HB GEa GEb) hb); clear hb hbox hg; have hn1 := NBa_c.out; have hn2 := NBc_a.out; have hn3 := NBb_c.out; have hn4 := NBc_b.out; have hn5 := NBa_b.out; have hn6 := NBb_a.out; clear hca_0 hca_1 hca_2 hfa_0 hfa_1 hfa_2 hcr; obtain ⟨hcza_0, hcza_1, hcza_2, hfza_0, hfza_1, hfza_2⟩ := c3_ BKa; obtain ⟨hczb_0, hczb_1, hczb_2, hfzb_0, hfzb_1, hfzb_2⟩ := c3_ BKb; obtain ⟨hczc_0, hczc_1, hczc_2, hfzc_0, hfzc_1, hfzc_2⟩ := c3_ BKc))
     go_roundg 1
     case measure => omega
     case rel => exact ⟨⟨bp_2 BR NBr_a NBr_c⟩, ⟨bp_2 BT NBt_a NBt_c⟩, ⟨bp_2 BD NBd_a NBd_c⟩, ⟨bp_2 BN NBn_a NBn_c⟩, ⟨bp_2 BKb NBb_a NBb_c⟩, ⟨bl_3 HB GEa GEb GEc⟩, .inr (.inr (.inr ⟨rfl, by first | rfl | (simp; done), _, x1, x2, x3, ⟨bp_1 BKa NBa_c⟩, ⟨by (with_reducible repeat (first | apply Kd.R_alloc | apply Kd.R_drewN | apply Kd.R_drew)); exact Kd.R_mono (Kd.R_far (p := ⟨ga, 2, none⟩) (Kd.R_far (p := ⟨ga, 1, none⟩) (Kd.R_far (p := ⟨ga, 0, none⟩) (Kd.R_far (p := ⟨gc, 2, none⟩) (Kd.R_far (p := ⟨gc, 1, none⟩) (Kd.R_far (p := ⟨gc, 0, none⟩) (Kd.R_types (Kd.R_types HO9.out BKa.out (by decide)) BKc.out (by decide)) (fun _ hk => hk.2) _) (fun _ hk => hk.2) _) (fun _ hk => hk.2) _) (fun _ hk => hk.1.2) _) (fun _ hk => hk.1.2) _) (fun _ hk => hk.1.2) _) (fun _ hk => trivial)⟩, H2⟩))⟩
    rw [if_neg c4] at H
    have c4b0 : (x4 == 0) = false := beq_eq_false_iff_ne.mpr c4
    have c4b1 : (x4 != 0) = true := bne_iff_ne.mpr c4
    clear c4
    simp only [Option.some.injEq, Prod.mk.injEq] at H
    obtain ⟨rfl, rfl, rfl, rfl⟩ := H
    go_wp2_with (first | (go_at_call 73; (with_reducible refine (hard_Put_3.calls k gt gn Ao co l_ b_ i_ tm nm x1 x2 x3 x4 _ ?bx ?bz ?s1 ?s2 A1.out).mono ?_); (case bx => exact bk_ BT); (case bz => exact bk_ BN); (case s1 => exact cl_ ((Kd.R_reads' HO.out).2.2)); (case s2 => exact (Kd.R_reads' HO.out).2.1); rintro e w9 ⟨v9, rfl, ho0, hb⟩; have HO9 := Aside0.mk (Kd.R_lower ho0 (below_size (bl_2 HB GEa GEb))); replace BR := Aside0.mk (bb_ BR hb); replace BT := Aside0.mk (bb_ BT hb); replace BD := Aside0.mk (bb_ BD hb); replace BN := Aside0.mk (bb_ BN hb); replace BKa := Aside0.mk (bb_ BKa hb); replace BKb := Aside0.mk (bb_ BKb hb); replace HB := Aside0.mk (below_step (bl_2 HB GEa GEb) hb); clear hb ho0; obtain ⟨A9, c9, e9⟩ := Kd.R_slice HO9.out; subst e9) | ((with_reducible refine gate_dst (N := 8) rfl ?_); refine bx_ 8 #[.slice none 0 0, .bool false, .int .i64 0] 24 ?_; intro gc hg w_ hbox hb; have BKc := Aside0.mk (hbox); have GEc := Aside0.mk (bs_2 hg HB GEa GEb); have NBa_c := Aside0.mk (nb_ hg BKa); have NBc_a := Aside0.mk (nc_ hg BKa); have NBb_c := Aside0.mk (nb_ hg BKb); have NBc_b := Aside0.mk (nc_ hg BKb); have NBr_c := Aside0.mk (nb_ hg BR); have NBt_c := Aside0.mk (nb_ hg BT); have NBd_c := Aside0.mk (nb_ hg BD); have NBn_c := Aside0.mk (nb_ hg BN); replace BR := Aside0.mk (bb_ BR hb); replace BT := Aside0.mk (bb_ BT hb); replace BD := Aside0.mk (bb_ BD hb); replace BN := Aside0.mk (bb_ BN hb); replace BKa := Aside0.mk (bb_ BKa hb); replace BKb := Aside0.mk (bb_ BKb hb); replace HO9 := Aside0.mk (Kd.R_below (by (with_reducible repeat (first | apply Kd.R_alloc | apply Kd.R_drewN | apply Kd.R_drew)); exact HO9.out) hb); replace HB := Aside0.mk (below_step (bl_2 HB GEa GEb) hb); clear hb hbox hg; have hn1 := NBa_c.out; have hn2 := NBc_a.out; have hn3 := NBb_c.out; have hn4 := NBc_b.out; have hn5 := NBa_b.out; have hn6 := NBb_a.out; clear hca_0 hca_1 hca_2 hfa_0 hfa_1 hfa_2 hcr; obtain ⟨hcza_0, hcza_1, hcza_2, hfza_0, hfza_1, hfza_2⟩ := c3_ BKa; obtain ⟨hczb_0, hczb_1, hczb_2, hfzb_0, hfzb_1, hfzb_2⟩ := c3_ BKb; obtain ⟨hczc_0, hczc_1, hczc_2, hfzc_0, hfzc_1, hfzc_2⟩ := c3_ BKc))
    refine bodyPost_ret (results_ct rfl _ _ gb 24 #[.slice A9 x1.length c9, .bool x2, .int .i64 x3] (0, 0) _ rfl (bp_1 BKb NBb_c) Try.underlying24 rfl (by kernel_rfl)) rfl ?_
    exact ⟨_, by first | rfl | (simp; done) | (simp [*]; done), by (with_reducible repeat (first | apply Kd.R_alloc | apply Kd.R_drewN | apply Kd.R_drew)); exact Kd.R_mono (Kd.R_far (p := ⟨gb, 2, none⟩) (Kd.R_far (p := ⟨gb, 1, none⟩) (Kd.R_far (p := ⟨gb, 0, none⟩) (Kd.R_far (p := ⟨gc, 2, none⟩) (Kd.R_far (p := ⟨gc, 1, none⟩) (Kd.R_far (p := ⟨gc, 0, none⟩) (Kd.R_types (Kd.R_types HO9.out BKb.out (by decide)) BKc.out (by decide)) (fun _ hk => hk.2) _) (fun _ hk => hk.2) _) (fun _ hk => hk.2) _) (fun _ hk => hk.1.2) _) (fun _ hk => hk.1.2) _) (fun _ hk => hk.1.2) _) (fun _ hk => trivial), bl_3 HB GEa GEb GEc⟩
  · have H := H1.out
    clear H1 H'
    simp only [Option.some.injEq, Prod.mk.injEq] at H
    obtain ⟨rfl, rfl, rfl, rfl⟩ := H
    obtain ⟨Ao, co, eo⟩ := Kd.R_slice HO.out
    subst eo
    obtain ⟨hca_0, hca_1, hca_2, hfa_0, hfa_1, hfa_2⟩ := c3_ BKa
    obtain ⟨hcb_0, hcb_1, hcb_2, hfb_0, hfb_1, hfb_2⟩ := c3_ BKb
    have hn1 := NBa_b.out
    have hn2 := NBb_a.out
    go_wp2
    refine bodyPost_ret (results_ct rfl _ _ gb 24 #[.slice Ao l_.length co, .bool b_, .int .i64 i_] (0, 0) _ rfl (bp_0 BKb) Try.underlying24 rfl (by kernel_rfl)) rfl ?_
    exact ⟨_, by first | rfl | (simp; done) | (simp [*]; done), by (with_reducible repeat (first | apply Kd.R_alloc | apply Kd.R_drewN | apply Kd.R_drew)); exact Kd.R_mono (Kd.R_far (p := ⟨gb, 2, none⟩) (Kd.R_far (p := ⟨gb, 1, none⟩) (Kd.R_far (p := ⟨gb, 0, none⟩) (Kd.R_types HO.out BKb.out (by decide)) (fun _ hk => hk.2) _) (fun _ hk => hk.2) _) (fun _ hk => hk.2) _) (fun _ hk => trivial), bl_2 HB GEa GEb⟩

def hard_Put.f (k : Nat) (l0_0 : List (S71)) (a0_1 : Bool) (a0_2 : Int) (nm dt : ByteArray) : Option ((List (S71)) × Bool × Int × Int) := if nm.size + 4 ≤ 9223372036854775807 then ((disk_Read.f k l0_0 a0_1 a0_2 (nm ++ (⟨#[46, 116, 109, 112]⟩ : ByteArray))).bind fun t => if t.2 = 0 then ((disk_Drop.f k l0_0 a0_1 a0_2 (nm ++ (⟨#[46, 116, 109, 112]⟩ : ByteArray))).bind fun x => if x.2.2.2 = 0 then hard_all.f k (nm ++ (⟨#[46, 116, 109, 112]⟩ : ByteArray)) nm dt x.1 x.2.1 x.2.2.1 else some (x.1, x.2.1, x.2.2.1, x.2.2.2)) else hard_all.f k (nm ++ (⟨#[46, 116, 109, 112]⟩ : ByteArray)) nm dt l0_0 a0_1 a0_2) else none
theorem hard_Put.mono : ∀ a0 a1 a2 a3 a4 k, LeO (hard_Put.f k a0 a1 a2 a3 a4) (hard_Put.f (k + 1) a0 a1 a2 a3 a4) := fun a0 a1 a2 a3 a4 k => LeO.ite (LeO.bind (disk_Read.mono _ _ _ _ k) (fun _ => LeO.ite (LeO.bind (disk_Drop.mono _ _ _ _ k) (fun _ => LeO.ite (hard_all.mono _ _ _ _ _ _ k) (LeO.refl _))) (hard_all.mono _ _ _ _ _ _ k))) (LeO.none _)
theorem slice_event_ {P : Program} {ops : Array Oper} {rest : List Oper} {o : Oper} {a : Act} {Q : Exit → Act → World → Prop} {W : World} (hgd : o.guard = none) {N : Tmp} (_hd : o.dst = some N) {cs : Array Value} {t : TypeId} {m c : Nat}
    (hrun : (execOp a.eval o).run P W = .ok (.value (.slice (some ⟨W.heap.size, 0, none⟩) m c)) (W.alloc (.cells cs t (0, 0))))
    (h : ∀ g, g = W.heap.size → ∀ w1, w1.heap[g]? = some (.cells cs t (0, 0)) → Below W.heap.size W w1 → wpList P ops Q rest (a.put o.dst (.slice (some ⟨g, 0, none⟩) m c)) w1) : wpList P ops Q (o :: rest) a W := Kd.event_run hgd hrun (h _ rfl _ (blk_new W _) (below_alloc (Below.refl _ _) _))
set_option maxHeartbeats 80000000 in
set_option maxRecDepth 100000 in
theorem hard_Put.calls (k : Nat) (A0_0 : Option Addr) (c0_0 : Nat) (l0_0 : List (S71)) (a0_1 : Bool) (a0_2 : Int) (nm dt : ByteArray) (r1 : List (S71)) (r2 : Bool) (r3 : Int) (r4 : Int) (w : World) (hr0_0 : Kd.C k71 w A0_0 l0_0.length l0_0) (hc0_0 : l0_0.length ≤ c0_0) (h : hard_Put.f k l0_0 a0_1 a0_2 nm dt = some (r1, r2, r3, r4)) :
  Calls Try.prog 45 #[.agg #[.slice A0_0 l0_0.length c0_0, .bool a0_1, .int .i64 a0_2], .string nm, .string dt] w fun e w' => ∃ v0_ : Value, e = .returned (.tuple #[.agg #[v0_, .bool r2, .int .i64 r3], .int .i64 r4]) ∧ Kd.R k71 71 w' w.heap.size (fun _ => True) v0_ r1 ∧ Below w.heap.size w w' := by
 have hu24 := Try.underlying24
 have HR0_0 := Aside0.mk hr0_0
 have HC0_0 := Aside0.mk hc0_0
 clear hr0_0 hc0_0
 have HB := Aside0.mk (Below.refl w.heap.size w)
 have H : (if nm.size + 4 ≤ 9223372036854775807 then ((disk_Read.f k l0_0 a0_1 a0_2 (nm ++ (⟨#[46, 116, 109, 112]⟩ : ByteArray))).bind fun t => if t.2 = 0 then ((disk_Drop.f k l0_0 a0_1 a0_2 (nm ++ (⟨#[46, 116, 109, 112]⟩ : ByteArray))).bind fun x => if x.2.2.2 = 0 then hard_all.f k (nm ++ (⟨#[46, 116, 109, 112]⟩ : ByteArray)) nm dt x.1 x.2.1 x.2.2.1 else some (x.1, x.2.1, x.2.2.1, x.2.2.2)) else hard_all.f k (nm ++ (⟨#[46, 116, 109, 112]⟩ : ByteArray)) nm dt l0_0 a0_1 a0_2) else none) = some (r1, r2, r3, r4) := h
 clear h
 by_cases c3 : nm.size + 4 ≤ 9223372036854775807
 case neg =>
  rw [if_neg c3] at H
  exact absurd H (by simp)
 case pos =>
  rw [if_pos c3] at H
  have c3b0 := eq_true c3
  have c3b1 : decide (nm.size + 4 ≤ 9223372036854775807) = true := decide_eq_true c3
  have c3b2 : (9223372036854775807 < nm.size + 4) = False := eq_false (Nat.not_lt.2 c3)
  clear c3
  obtain ⟨⟨t1, t2⟩, A10, H⟩ := Option.bind_eq_some_iff.mp H
  have A1 := Aside0.mk A10
  clear A10
  by_cases c4 : t2 = 0
  case neg =>
   replace H : hard_all.f k (nm ++ (⟨#[46, 116, 109, 112]⟩ : ByteArray)) nm dt l0_0 a0_1 a0_2 = some (r1, r2, r3, r4) := by rw [if_neg c4] at H; exact H
   have c4b0 : (t2 == 0) = false := beq_eq_false_iff_ne.mpr c4
   have c4b1 : (t2 != 0) = true := bne_iff_ne.mpr c4
   clear c4
   have A3 := Aside0.mk H
   clear H
   go_enter Try.func45, Try.ntmps45
   go_wp2_with (first | ((with_reducible refine gate_dst (N := 3) rfl ?_); refine bx_ 3 #[.slice A0_0 l0_0.length c0_0, .bool a0_1, .int .i64 a0_2] 24 ?_; intro ga hg w_ hbox hb; have BKa := Aside0.mk (hbox); have GEa := Aside0.mk (bs_0 hg HB ); replace HB := Aside0.mk (below_step (bl_ HB) hb); clear hb hbox hg) | ((with_reducible refine gate_dst (N := 4) rfl ?_); refine bx_ 4 #[.string nm] 9 ?_; intro gn hg w_ hbox hb; have BKn := Aside0.mk (hbox); have GEn := Aside0.mk (bs_1 hg HB GEa); have NBn_a := Aside0.mk (nc_ hg BKa); replace BKa := Aside0.mk (bb_ BKa hb); replace HB := Aside0.mk (below_step (bl_1 HB GEa) hb); clear hb hbox hg) | ((with_reducible refine gate_dst (N := 5) rfl ?_); refine bx_ 5 #[.string dt] 9 ?_; intro gy hg w_ hbox hb; have BKy := Aside0.mk (hbox); have GEy := Aside0.mk (bs_2 hg HB GEa GEn); have NBy_a := Aside0.mk (nc_ hg BKa); replace BKa := Aside0.mk (bb_ BKa hb); replace BKn := Aside0.mk (bb_ BKn hb); replace HB := Aside0.mk (below_step (bl_2 HB GEa GEn) hb); clear hb hbox hg) | ((with_reducible refine gate_dst (N := 6) rfl ?_); refine bx_ 6 #[.slice none 0 0, .bool false, .int .i64 0] 24 ?_; intro gr hg w_ hbox hb; have BKr := Aside0.mk (hbox); have GEr := Aside0.mk (bs_3 hg HB GEa GEn GEy); have NBr_a := Aside0.mk (nc_ hg BKa); replace BKa := Aside0.mk (bb_ BKa hb); replace BKn := Aside0.mk (bb_ BKn hb); replace BKy := Aside0.mk (bb_ BKy hb); replace HB := Aside0.mk (below_step (bl_3 HB GEa GEn GEy) hb); clear hb hbox hg; obtain ⟨hczn, hfzn⟩ := c1_ BKn) | ((with_reducible refine gate_dst (N := 8) rfl ?_); refine bx_ 8 #[.string (⟨#[]⟩ : ByteArray)] 9 ?_; intro gt hg w_ hbox hb; have BKt := Aside0.mk (hbox); have GEt := Aside0.mk (bs_4 hg HB GEa GEn GEy GEr); have NBa_t := Aside0.mk (nb_ hg BKa); have NBt_a := Aside0.mk (nc_ hg BKa); have NBn_t := Aside0.mk (nb_ hg BKn); have NBt_n := Aside0.mk (nc_ hg BKn); have NBy_t := Aside0.mk (nb_ hg BKy); have NBt_y := Aside0.mk (nc_ hg BKy); have NBr_t := Aside0.mk (nb_ hg BKr); have NBt_r := Aside0.mk (nc_ hg BKr); replace BKa := Aside0.mk (bb_ BKa hb); replace BKn := Aside0.mk (bb_ BKn hb); replace BKy := Aside0.mk (bb_ BKy hb); replace BKr := Aside0.mk (bb_ BKr hb); replace HB := Aside0.mk (below_step (bl_4 HB GEa GEn GEy GEr) hb); clear hb hbox hg; have hna1 := NBa_t.out; have hna2 := NBt_a.out; have hnn1 := NBn_t.out; have hnn2 := NBt_n.out; have hny1 := NBy_t.out; have hny2 := NBt_y.out; have hnr1 := NBr_t.out; have hnr2 := NBt_r.out; obtain ⟨hczt, hfzt⟩ := c1_ BKt; obtain ⟨hcza_0, hcza_1, hcza_2, hfza_0, hfza_1, hfza_2⟩ := c3_ BKa) | ((with_reducible refine gate_callee (f := 24) rfl ?_); refine goesL_ (some 18) rfl rfl Try.func24 (by kernel_rfl) rfl #[.agg #[.slice A0_0 l0_0.length c0_0, .bool a0_1, .int .i64 a0_2], .string (nm ++ (⟨#[46, 116, 109, 112]⟩ : ByteArray))] rfl (ar_) ?_; (with_reducible refine (disk_Read.calls k _ _ l0_0 a0_1 a0_2 (nm ++ (⟨#[46, 116, 109, 112]⟩ : ByteArray)) t1 t2 _ ?side1 ?side2 A1.out).mono ?_); (case side1 => exact Kd.C_below HR0_0.out (bl_5 HB GEa GEn GEy GEr GEt)); (case side2 => exact HC0_0.out); rintro e w9 ⟨rfl, hb⟩; refine ⟨_, rfl, ?_⟩; have Na : Aside0 (w9.heap[ga]? = some (.cells #[.slice A0_0 l0_0.length c0_0, .bool a0_1, .int .i64 a0_2] 24 (0, 0))) := ⟨blk_below (bp_1 BKa NBa_t) hb⟩; have Nn : Aside0 (w9.heap[gn]? = some (.cells #[.string nm] 9 (0, 0))) := ⟨blk_below (bp_1 BKn NBn_t) hb⟩; have Ny : Aside0 (w9.heap[gy]? = some (.cells #[.string dt] 9 (0, 0))) := ⟨blk_below (bp_1 BKy NBy_t) hb⟩; have Nr : Aside0 (w9.heap[gr]? = some (.cells #[.slice none 0 0, .bool false, .int .i64 0] 24 (0, 0))) := ⟨blk_below (bp_1 BKr NBr_t) hb⟩; have Nt : Aside0 (w9.heap[gt]? = some (.cells #[.string (nm ++ (⟨#[46, 116, 109, 112]⟩ : ByteArray))] 9 (0, 0))) := ⟨blk_below (bp_0 BKt) hb⟩; clear BKa BKn BKy BKr BKt; have BKa := Na; have BKn := Nn; have BKy := Ny; have BKr := Nr; have BKt := Nt; clear Na Nn Ny Nr Nt; replace HB := Aside0.mk (below_step (bl_5 HB GEa GEn GEy GEr GEt) hb); clear hb; obtain ⟨hczb_0, hczb_1, hczb_2, hfzb_0, hfzb_1, hfzb_2⟩ := c3_ BKa; obtain ⟨hczt2, hfzt2⟩ := c1_ BKt) | ((with_reducible refine gate_dst (N := 38) rfl ?_); refine slice_event_ ?hg (N := 38) ?hd (cs := #[.func (.func 69) #[] #[.pointer (some ⟨gt, 0, none⟩), .pointer (some ⟨gy, 0, none⟩)], .func (.func 71) #[] #[.pointer (some ⟨gt, 0, none⟩)], .func (.func 73) #[] #[.pointer (some ⟨gt, 0, none⟩), .pointer (some ⟨gn, 0, none⟩)]]) (t := 95) (m := 3) (c := 3) ?hr ?_; (case hd => rfl); (case hg => rfl); (case hr => first | (go_simp; done) | (go_simp; rfl)); intro gq hg w_ hbox hb; have BKq := Aside0.mk (hbox); have Nn : Aside0 (w_.heap[gn]? = some (.cells #[.string nm] 9 (0, 0))) := ⟨blk_below (bk_ BKn) hb⟩; have Ny : Aside0 (w_.heap[gy]? = some (.cells #[.string dt] 9 (0, 0))) := ⟨blk_below (bk_ BKy) hb⟩; have Nt : Aside0 (w_.heap[gt]? = some (.cells #[.string (nm ++ (⟨#[46, 116, 109, 112]⟩ : ByteArray))] 9 (0, 0))) := ⟨blk_below (bk_ BKt) hb⟩; have Nr : Aside0 (w_.heap[gr]? = some (.cells #[.slice none 0 0, .bool false, .int .i64 0] 24 (0, 0))) := ⟨blk_below (bk_ BKr) hb⟩; clear BKn BKy BKt BKr; have BKn := Nn; have BKy := Ny; have BKt := Nt; have BKr := Nr; clear Nn Ny Nt Nr;  replace HB := Aside0.mk (below_step (bl_5 HB GEa GEn GEy GEr GEt) hb); clear hb hbox hg) | ((with_reducible refine gate_callee (f := 68) rfl ?_); refine goesL_ (some 39) rfl rfl Try.func68 (by kernel_rfl) rfl #[.agg #[.slice A0_0 l0_0.length c0_0, .bool a0_1, .int .i64 a0_2], .slice (some ⟨gq, 0, none⟩) 3 3] rfl (ar_) ?_; (with_reducible refine (hard_all.calls k gq gt gy gn _ _ l0_0 a0_1 a0_2 (nm ++ (⟨#[46, 116, 109, 112]⟩ : ByteArray)) nm dt r1 r2 r3 r4 _ ?hq ?ht ?hd ?hn ?side1 ?side2 A3.out).mono ?_); (case hq => exact bk_ BKq); (case ht => exact bk_ BKt); (case hd => exact bk_ BKy); (case hn => exact bk_ BKn); (case side1 => exact cl_ (Kd.C_below HR0_0.out HB.out)); (case side2 => exact HC0_0.out); rintro e w9 ⟨v9, rfl, ho0, hb⟩; refine ⟨_, rfl, ?_⟩; have HOz := Aside0.mk (Kd.R_lower ho0 (below_size (bl_5 HB GEa GEn GEy GEr GEt))); replace BKr := Aside0.mk (bb_ BKr hb); replace HB := Aside0.mk (below_step (bl_5 HB GEa GEn GEy GEr GEt) hb); clear hb ho0; obtain ⟨Az, cz, ez⟩ := Kd.R_slice HOz.out; subst ez; obtain ⟨hczq_0, hczq_1, hczq_2, hfzq_0, hfzq_1, hfzq_2⟩ := c3_ BKr))
   refine bodyPost_ret (results_ct rfl _ _ gr 24 #[.slice Az r1.length cz, .bool r2, .int .i64 r3] (0, 0) _ rfl (bp_0 BKr) Try.underlying24 rfl (by kernel_rfl)) rfl ?_
   exact ⟨_, by first | rfl | (simp; done) | (simp [*]; done), by (with_reducible repeat (first | apply Kd.R_alloc | apply Kd.R_drewN | apply Kd.R_drew)); exact Kd.R_mono (Kd.R_far (p := ⟨gr, 2, none⟩) (Kd.R_far (p := ⟨gr, 1, none⟩) (Kd.R_far (p := ⟨gr, 0, none⟩) (Kd.R_types HOz.out BKr.out (by decide)) (fun _ hk => hk.2) _) (fun _ hk => hk.2) _) (fun _ hk => hk.2) _) (fun _ hk => trivial), bl_5 HB GEa GEn GEy GEr GEt⟩
  case pos =>
   replace H : ((disk_Drop.f k l0_0 a0_1 a0_2 (nm ++ (⟨#[46, 116, 109, 112]⟩ : ByteArray))).bind fun x => if x.2.2.2 = 0 then hard_all.f k (nm ++ (⟨#[46, 116, 109, 112]⟩ : ByteArray)) nm dt x.1 x.2.1 x.2.2.1 else some (x.1, x.2.1, x.2.2.1, x.2.2.2)) = some (r1, r2, r3, r4) := by rw [if_pos c4] at H; exact H
   have c4b0 : (t2 == 0) = true := beq_iff_eq.mpr c4
   have c4b1 : (t2 != 0) = false := bne_eq_false_iff_eq.mpr c4
   clear c4
   obtain ⟨⟨x1, x2, x3, x4⟩, A20, H⟩ := Option.bind_eq_some_iff.mp H
   have A2 := Aside0.mk A20
   clear A20
   try dsimp only at H
   by_cases c5 : x4 = 0
   case neg =>
    have c5b0 : (x4 == 0) = false := beq_eq_false_iff_ne.mpr c5
    have c5b1 : (x4 != 0) = true := bne_iff_ne.mpr c5
    rw [if_neg c5] at H
    clear c5
    simp only [Option.some.injEq, Prod.mk.injEq] at H
    obtain ⟨rfl, rfl, rfl, rfl⟩ := H
    go_enter Try.func45, Try.ntmps45
    go_wp2_with (first | ((with_reducible refine gate_dst (N := 3) rfl ?_); refine bx_ 3 #[.slice A0_0 l0_0.length c0_0, .bool a0_1, .int .i64 a0_2] 24 ?_; intro ga hg w_ hbox hb; have BKa := Aside0.mk (hbox); have GEa := Aside0.mk (bs_0 hg HB ); replace HB := Aside0.mk (below_step (bl_ HB) hb); clear hb hbox hg) | ((with_reducible refine gate_dst (N := 4) rfl ?_); refine bx_ 4 #[.string nm] 9 ?_; intro gn hg w_ hbox hb; have BKn := Aside0.mk (hbox); have GEn := Aside0.mk (bs_1 hg HB GEa); have NBn_a := Aside0.mk (nc_ hg BKa); replace BKa := Aside0.mk (bb_ BKa hb); replace HB := Aside0.mk (below_step (bl_1 HB GEa) hb); clear hb hbox hg) | ((with_reducible refine gate_dst (N := 5) rfl ?_); refine bx_ 5 #[.string dt] 9 ?_; intro gy hg w_ hbox hb; have BKy := Aside0.mk (hbox); have GEy := Aside0.mk (bs_2 hg HB GEa GEn); have NBy_a := Aside0.mk (nc_ hg BKa); replace BKa := Aside0.mk (bb_ BKa hb); replace BKn := Aside0.mk (bb_ BKn hb); replace HB := Aside0.mk (below_step (bl_2 HB GEa GEn) hb); clear hb hbox hg) | ((with_reducible refine gate_dst (N := 6) rfl ?_); refine bx_ 6 #[.slice none 0 0, .bool false, .int .i64 0] 24 ?_; intro gr hg w_ hbox hb; have BKr := Aside0.mk (hbox); have GEr := Aside0.mk (bs_3 hg HB GEa GEn GEy); have NBr_a := Aside0.mk (nc_ hg BKa); replace BKa := Aside0.mk (bb_ BKa hb); replace BKn := Aside0.mk (bb_ BKn hb); replace BKy := Aside0.mk (bb_ BKy hb); replace HB := Aside0.mk (below_step (bl_3 HB GEa GEn GEy) hb); clear hb hbox hg; obtain ⟨hczn, hfzn⟩ := c1_ BKn) | ((with_reducible refine gate_dst (N := 8) rfl ?_); refine bx_ 8 #[.string (⟨#[]⟩ : ByteArray)] 9 ?_; intro gt hg w_ hbox hb; have BKt := Aside0.mk (hbox); have GEt := Aside0.mk (bs_4 hg HB GEa GEn GEy GEr); have NBa_t := Aside0.mk (nb_ hg BKa); have NBt_a := Aside0.mk (nc_ hg BKa); have NBn_t := Aside0.mk (nb_ hg BKn); have NBt_n := Aside0.mk (nc_ hg BKn); have NBy_t := Aside0.mk (nb_ hg BKy); have NBt_y := Aside0.mk (nc_ hg BKy); have NBr_t := Aside0.mk (nb_ hg BKr); have NBt_r := Aside0.mk (nc_ hg BKr); replace BKa := Aside0.mk (bb_ BKa hb); replace BKn := Aside0.mk (bb_ BKn hb); replace BKy := Aside0.mk (bb_ BKy hb); replace BKr := Aside0.mk (bb_ BKr hb); replace HB := Aside0.mk (below_step (bl_4 HB GEa GEn GEy GEr) hb); clear hb hbox hg; have hna1 := NBa_t.out; have hna2 := NBt_a.out; have hnn1 := NBn_t.out; have hnn2 := NBt_n.out; have hny1 := NBy_t.out; have hny2 := NBt_y.out; have hnr1 := NBr_t.out; have hnr2 := NBt_r.out; obtain ⟨hczt, hfzt⟩ := c1_ BKt; obtain ⟨hcza_0, hcza_1, hcza_2, hfza_0, hfza_1, hfza_2⟩ := c3_ BKa) | ((with_reducible refine gate_callee (f := 24) rfl ?_); refine goesL_ (some 18) rfl rfl Try.func24 (by kernel_rfl) rfl #[.agg #[.slice A0_0 l0_0.length c0_0, .bool a0_1, .int .i64 a0_2], .string (nm ++ (⟨#[46, 116, 109, 112]⟩ : ByteArray))] rfl (ar_) ?_; (with_reducible refine (disk_Read.calls k _ _ l0_0 a0_1 a0_2 (nm ++ (⟨#[46, 116, 109, 112]⟩ : ByteArray)) t1 t2 _ ?side1 ?side2 A1.out).mono ?_); (case side1 => exact Kd.C_below HR0_0.out (bl_5 HB GEa GEn GEy GEr GEt)); (case side2 => exact HC0_0.out); rintro e w9 ⟨rfl, hb⟩; refine ⟨_, rfl, ?_⟩; have Na : Aside0 (w9.heap[ga]? = some (.cells #[.slice A0_0 l0_0.length c0_0, .bool a0_1, .int .i64 a0_2] 24 (0, 0))) := ⟨blk_below (bp_1 BKa NBa_t) hb⟩; have Nn : Aside0 (w9.heap[gn]? = some (.cells #[.string nm] 9 (0, 0))) := ⟨blk_below (bp_1 BKn NBn_t) hb⟩; have Ny : Aside0 (w9.heap[gy]? = some (.cells #[.string dt] 9 (0, 0))) := ⟨blk_below (bp_1 BKy NBy_t) hb⟩; have Nr : Aside0 (w9.heap[gr]? = some (.cells #[.slice none 0 0, .bool false, .int .i64 0] 24 (0, 0))) := ⟨blk_below (bp_1 BKr NBr_t) hb⟩; have Nt : Aside0 (w9.heap[gt]? = some (.cells #[.string (nm ++ (⟨#[46, 116, 109, 112]⟩ : ByteArray))] 9 (0, 0))) := ⟨blk_below (bp_0 BKt) hb⟩; clear BKa BKn BKy BKr BKt; have BKa := Na; have BKn := Nn; have BKy := Ny; have BKr := Nr; have BKt := Nt; clear Na Nn Ny Nr Nt; replace HB := Aside0.mk (below_step (bl_5 HB GEa GEn GEy GEr GEt) hb); clear hb; obtain ⟨hczb_0, hczb_1, hczb_2, hfzb_0, hfzb_1, hfzb_2⟩ := c3_ BKa; obtain ⟨hczt2, hfzt2⟩ := c1_ BKt) | ((with_reducible refine gate_callee (f := 67) rfl ?_); refine goesL_ (some 26) rfl rfl Try.func67 (by kernel_rfl) rfl #[.agg #[.slice A0_0 l0_0.length c0_0, .bool a0_1, .int .i64 a0_2], .string (nm ++ (⟨#[46, 116, 109, 112]⟩ : ByteArray))] rfl (ar_) ?_; (with_reducible refine (disk_Drop.calls k _ _ l0_0 a0_1 a0_2 (nm ++ (⟨#[46, 116, 109, 112]⟩ : ByteArray)) x1 x2 x3 x4 _ ?side1 ?side2 A2.out).mono ?_); (case side1 => exact cl_ (Kd.C_below HR0_0.out HB.out)); (case side2 => exact HC0_0.out); rintro e w9 ⟨v9, rfl, ho0, hb⟩; refine ⟨_, rfl, ?_⟩; have HO9 := Aside0.mk (Kd.R_lower ho0 (below_size (bl_5 HB GEa GEn GEy GEr GEt))); replace BKa := Aside0.mk (bb_ BKa hb); replace BKn := Aside0.mk (bb_ BKn hb); replace BKy := Aside0.mk (bb_ BKy hb); replace BKr := Aside0.mk (bb_ BKr hb); replace BKt := Aside0.mk (bb_ BKt hb); replace HB := Aside0.mk (below_step (bl_5 HB GEa GEn GEy GEr GEt) hb); clear hb ho0; obtain ⟨A9, c9, e9⟩ := Kd.R_slice HO9.out; subst e9) | ((with_reducible refine gate_dst (N := 11) rfl ?_); refine bx_ 11 #[.slice none 0 0, .bool false, .int .i64 0] 24 ?_; intro gc hg w_ hbox hb; have BKc := Aside0.mk (hbox); have GEc := Aside0.mk (bs_5 hg HB GEa GEn GEy GEr GEt); have NBa_c := Aside0.mk (nb_ hg BKa); have NBc_a := Aside0.mk (nc_ hg BKa); have NBn_c := Aside0.mk (nb_ hg BKn); have NBc_n := Aside0.mk (nc_ hg BKn); have NBy_c := Aside0.mk (nb_ hg BKy); have NBc_y := Aside0.mk (nc_ hg BKy); have NBr_c := Aside0.mk (nb_ hg BKr); have NBc_r := Aside0.mk (nc_ hg BKr); have NBt_c := Aside0.mk (nb_ hg BKt); have NBc_t := Aside0.mk (nc_ hg BKt); replace BKa := Aside0.mk (bb_ BKa hb); replace BKn := Aside0.mk (bb_ BKn hb); replace BKy := Aside0.mk (bb_ BKy hb); replace BKr := Aside0.mk (bb_ BKr hb); replace BKt := Aside0.mk (bb_ BKt hb); replace HO9 := Aside0.mk (Kd.R_below (by (with_reducible repeat (first | apply Kd.R_alloc | apply Kd.R_drewN | apply Kd.R_drew)); exact HO9.out) hb); replace HB := Aside0.mk (below_step (bl_5 HB GEa GEn GEy GEr GEt) hb); clear hb hbox hg; have hma1 := NBa_c.out; have hma2 := NBc_a.out; have hmn1 := NBn_c.out; have hmn2 := NBc_n.out; have hmy1 := NBy_c.out; have hmy2 := NBc_y.out; have hmr1 := NBr_c.out; have hmr2 := NBc_r.out; have hmt1 := NBt_c.out; have hmt2 := NBc_t.out; obtain ⟨hczc_0, hczc_1, hczc_2, hfzc_0, hfzc_1, hfzc_2⟩ := c3_ BKc; obtain ⟨hczd_0, hczd_1, hczd_2, hfzd_0, hfzd_1, hfzd_2⟩ := c3_ BKa; obtain ⟨hcze_0, hcze_1, hcze_2, hfze_0, hfze_1, hfze_2⟩ := c3_ BKr; obtain ⟨hczf, hfzf⟩ := c1_ BKt))
    refine bodyPost_ret (results_ct rfl _ _ gr 24 #[.slice A9 x1.length c9, .bool x2, .int .i64 x3] (0, 0) _ rfl (bp_1 BKr NBr_c) Try.underlying24 rfl (by kernel_rfl)) rfl ?_
    exact ⟨_, by first | rfl | (simp; done) | (simp [*]; done), by (with_reducible repeat (first | apply Kd.R_alloc | apply Kd.R_drewN | apply Kd.R_drew)); exact Kd.R_mono (Kd.R_far (p := ⟨gr, 2, none⟩) (Kd.R_far (p := ⟨gr, 1, none⟩) (Kd.R_far (p := ⟨gr, 0, none⟩) (Kd.R_far (p := ⟨gc, 2, none⟩) (Kd.R_far (p := ⟨gc, 1, none⟩) (Kd.R_far (p := ⟨gc, 0, none⟩) (Kd.R_types (Kd.R_types HO9.out BKr.out (by decide)) BKc.out (by decide)) (fun _ hk => hk.2) _) (fun _ hk => hk.2) _) (fun _ hk => hk.2) _) (fun _ hk => hk.1.2) _) (fun _ hk => hk.1.2) _) (fun _ hk => hk.1.2) _) (fun _ hk => trivial), bl_6 HB GEa GEn GEy GEr GEt GEc⟩
   case pos =>
    have c5b0 : (x4 == 0) = true := beq_iff_eq.mpr c5
    have c5b1 : (x4 != 0) = false := bne_eq_false_iff_eq.mpr c5
    rw [if_pos c5] at H
    clear c5
    have A3 := Aside0.mk H
    clear H
    go_enter Try.func45, Try.ntmps45
    go_wp2_with (first | ((with_reducible refine gate_dst (N := 3) rfl ?_); refine bx_ 3 #[.slice A0_0 l0_0.length c0_0, .bool a0_1, .int .i64 a0_2] 24 ?_; intro ga hg w_ hbox hb; have BKa := Aside0.mk (hbox); have GEa := Aside0.mk (bs_0 hg HB ); replace HB := Aside0.mk (below_step (bl_ HB) hb); clear hb hbox hg) | ((with_reducible refine gate_dst (N := 4) rfl ?_); refine bx_ 4 #[.string nm] 9 ?_; intro gn hg w_ hbox hb; have BKn := Aside0.mk (hbox); have GEn := Aside0.mk (bs_1 hg HB GEa); have NBn_a := Aside0.mk (nc_ hg BKa); replace BKa := Aside0.mk (bb_ BKa hb); replace HB := Aside0.mk (below_step (bl_1 HB GEa) hb); clear hb hbox hg) | ((with_reducible refine gate_dst (N := 5) rfl ?_); refine bx_ 5 #[.string dt] 9 ?_; intro gy hg w_ hbox hb; have BKy := Aside0.mk (hbox); have GEy := Aside0.mk (bs_2 hg HB GEa GEn); have NBy_a := Aside0.mk (nc_ hg BKa); replace BKa := Aside0.mk (bb_ BKa hb); replace BKn := Aside0.mk (bb_ BKn hb); replace HB := Aside0.mk (below_step (bl_2 HB GEa GEn) hb); clear hb hbox hg) | ((with_reducible refine gate_dst (N := 6) rfl ?_); refine bx_ 6 #[.slice none 0 0, .bool false, .int .i64 0] 24 ?_; intro gr hg w_ hbox hb; have BKr := Aside0.mk (hbox); have GEr := Aside0.mk (bs_3 hg HB GEa GEn GEy); have NBr_a := Aside0.mk (nc_ hg BKa); replace BKa := Aside0.mk (bb_ BKa hb); replace BKn := Aside0.mk (bb_ BKn hb); replace BKy := Aside0.mk (bb_ BKy hb); replace HB := Aside0.mk (below_step (bl_3 HB GEa GEn GEy) hb); clear hb hbox hg; obtain ⟨hczn, hfzn⟩ := c1_ BKn) | ((with_reducible refine gate_dst (N := 8) rfl ?_); refine bx_ 8 #[.string (⟨#[]⟩ : ByteArray)] 9 ?_; intro gt hg w_ hbox hb; have BKt := Aside0.mk (hbox); have GEt := Aside0.mk (bs_4 hg HB GEa GEn GEy GEr); have NBa_t := Aside0.mk (nb_ hg BKa); have NBt_a := Aside0.mk (nc_ hg BKa); have NBn_t := Aside0.mk (nb_ hg BKn); have NBt_n := Aside0.mk (nc_ hg BKn); have NBy_t := Aside0.mk (nb_ hg BKy); have NBt_y := Aside0.mk (nc_ hg BKy); have NBr_t := Aside0.mk (nb_ hg BKr); have NBt_r := Aside0.mk (nc_ hg BKr); replace BKa := Aside0.mk (bb_ BKa hb); replace BKn := Aside0.mk (bb_ BKn hb); replace BKy := Aside0.mk (bb_ BKy hb); replace BKr := Aside0.mk (bb_ BKr hb); replace HB := Aside0.mk (below_step (bl_4 HB GEa GEn GEy GEr) hb); clear hb hbox hg; have hna1 := NBa_t.out; have hna2 := NBt_a.out; have hnn1 := NBn_t.out; have hnn2 := NBt_n.out; have hny1 := NBy_t.out; have hny2 := NBt_y.out; have hnr1 := NBr_t.out; have hnr2 := NBt_r.out; obtain ⟨hczt, hfzt⟩ := c1_ BKt; obtain ⟨hcza_0, hcza_1, hcza_2, hfza_0, hfza_1, hfza_2⟩ := c3_ BKa) | ((with_reducible refine gate_callee (f := 24) rfl ?_); refine goesL_ (some 18) rfl rfl Try.func24 (by kernel_rfl) rfl #[.agg #[.slice A0_0 l0_0.length c0_0, .bool a0_1, .int .i64 a0_2], .string (nm ++ (⟨#[46, 116, 109, 112]⟩ : ByteArray))] rfl (ar_) ?_; (with_reducible refine (disk_Read.calls k _ _ l0_0 a0_1 a0_2 (nm ++ (⟨#[46, 116, 109, 112]⟩ : ByteArray)) t1 t2 _ ?side1 ?side2 A1.out).mono ?_); (case side1 => exact Kd.C_below HR0_0.out (bl_5 HB GEa GEn GEy GEr GEt)); (case side2 => exact HC0_0.out); rintro e w9 ⟨rfl, hb⟩; refine ⟨_, rfl, ?_⟩; have Na : Aside0 (w9.heap[ga]? = some (.cells #[.slice A0_0 l0_0.length c0_0, .bool a0_1, .int .i64 a0_2] 24 (0, 0))) := ⟨blk_below (bp_1 BKa NBa_t) hb⟩; have Nn : Aside0 (w9.heap[gn]? = some (.cells #[.string nm] 9 (0, 0))) := ⟨blk_below (bp_1 BKn NBn_t) hb⟩; have Ny : Aside0 (w9.heap[gy]? = some (.cells #[.string dt] 9 (0, 0))) := ⟨blk_below (bp_1 BKy NBy_t) hb⟩; have Nr : Aside0 (w9.heap[gr]? = some (.cells #[.slice none 0 0, .bool false, .int .i64 0] 24 (0, 0))) := ⟨blk_below (bp_1 BKr NBr_t) hb⟩; have Nt : Aside0 (w9.heap[gt]? = some (.cells #[.string (nm ++ (⟨#[46, 116, 109, 112]⟩ : ByteArray))] 9 (0, 0))) := ⟨blk_below (bp_0 BKt) hb⟩; clear BKa BKn BKy BKr BKt; have BKa := Na; have BKn := Nn; have BKy := Ny; have BKr := Nr; have BKt := Nt; clear Na Nn Ny Nr Nt; replace HB := Aside0.mk (below_step (bl_5 HB GEa GEn GEy GEr GEt) hb); clear hb; obtain ⟨hczb_0, hczb_1, hczb_2, hfzb_0, hfzb_1, hfzb_2⟩ := c3_ BKa; obtain ⟨hczt2, hfzt2⟩ := c1_ BKt) | ((with_reducible refine gate_callee (f := 67) rfl ?_); refine goesL_ (some 26) rfl rfl Try.func67 (by kernel_rfl) rfl #[.agg #[.slice A0_0 l0_0.length c0_0, .bool a0_1, .int .i64 a0_2], .string (nm ++ (⟨#[46, 116, 109, 112]⟩ : ByteArray))] rfl (ar_) ?_; (with_reducible refine (disk_Drop.calls k _ _ l0_0 a0_1 a0_2 (nm ++ (⟨#[46, 116, 109, 112]⟩ : ByteArray)) x1 x2 x3 x4 _ ?side1 ?side2 A2.out).mono ?_); (case side1 => exact cl_ (Kd.C_below HR0_0.out HB.out)); (case side2 => exact HC0_0.out); rintro e w9 ⟨v9, rfl, ho0, hb⟩; refine ⟨_, rfl, ?_⟩; have HO9 := Aside0.mk (Kd.R_lower ho0 (below_size (bl_5 HB GEa GEn GEy GEr GEt))); replace BKa := Aside0.mk (bb_ BKa hb); replace BKn := Aside0.mk (bb_ BKn hb); replace BKy := Aside0.mk (bb_ BKy hb); replace BKr := Aside0.mk (bb_ BKr hb); replace BKt := Aside0.mk (bb_ BKt hb); replace HB := Aside0.mk (below_step (bl_5 HB GEa GEn GEy GEr GEt) hb); clear hb ho0; obtain ⟨A9, c9, e9⟩ := Kd.R_slice HO9.out; subst e9) | ((with_reducible refine gate_dst (N := 11) rfl ?_); refine bx_ 11 #[.slice none 0 0, .bool false, .int .i64 0] 24 ?_; intro gc hg w_ hbox hb; have BKc := Aside0.mk (hbox); have GEc := Aside0.mk (bs_5 hg HB GEa GEn GEy GEr GEt); have NBa_c := Aside0.mk (nb_ hg BKa); have NBc_a := Aside0.mk (nc_ hg BKa); have NBn_c := Aside0.mk (nb_ hg BKn); have NBc_n := Aside0.mk (nc_ hg BKn); have NBy_c := Aside0.mk (nb_ hg BKy); have NBc_y := Aside0.mk (nc_ hg BKy); have NBr_c := Aside0.mk (nb_ hg BKr); have NBc_r := Aside0.mk (nc_ hg BKr); have NBt_c := Aside0.mk (nb_ hg BKt); have NBc_t := Aside0.mk (nc_ hg BKt); replace BKa := Aside0.mk (bb_ BKa hb); replace BKn := Aside0.mk (bb_ BKn hb); replace BKy := Aside0.mk (bb_ BKy hb); replace BKr := Aside0.mk (bb_ BKr hb); replace BKt := Aside0.mk (bb_ BKt hb); replace HO9 := Aside0.mk (Kd.R_below (by (with_reducible repeat (first | apply Kd.R_alloc | apply Kd.R_drewN | apply Kd.R_drew)); exact HO9.out) hb); replace HB := Aside0.mk (below_step (bl_5 HB GEa GEn GEy GEr GEt) hb); clear hb hbox hg; have hma1 := NBa_c.out; have hma2 := NBc_a.out; have hmn1 := NBn_c.out; have hmn2 := NBc_n.out; have hmy1 := NBy_c.out; have hmy2 := NBc_y.out; have hmr1 := NBr_c.out; have hmr2 := NBc_r.out; have hmt1 := NBt_c.out; have hmt2 := NBc_t.out; obtain ⟨hczc_0, hczc_1, hczc_2, hfzc_0, hfzc_1, hfzc_2⟩ := c3_ BKc; obtain ⟨hczd_0, hczd_1, hczd_2, hfzd_0, hfzd_1, hfzd_2⟩ := c3_ BKa; obtain ⟨hcze_0, hcze_1, hcze_2, hfze_0, hfze_1, hfze_2⟩ := c3_ BKr; obtain ⟨hczf, hfzf⟩ := c1_ BKt) | ((with_reducible refine gate_dst (N := 38) rfl ?_); refine slice_event_ ?hg (N := 38) ?hd (cs := #[.func (.func 69) #[] #[.pointer (some ⟨gt, 0, none⟩), .pointer (some ⟨gy, 0, none⟩)], .func (.func 71) #[] #[.pointer (some ⟨gt, 0, none⟩)], .func (.func 73) #[] #[.pointer (some ⟨gt, 0, none⟩), .pointer (some ⟨gn, 0, none⟩)]]) (t := 95) (m := 3) (c := 3) ?hr ?_; (case hd => rfl); (case hg => rfl); (case hr => first | (go_simp; done) | (go_simp; rfl)); intro gq hg w_ hbox hb; have BKq := Aside0.mk (hbox); have Nn : Aside0 (w_.heap[gn]? = some (.cells #[.string nm] 9 (0, 0))) := ⟨blk_below (bp_2 BKn NBn_a NBn_c) hb⟩; have Ny : Aside0 (w_.heap[gy]? = some (.cells #[.string dt] 9 (0, 0))) := ⟨blk_below (bp_2 BKy NBy_a NBy_c) hb⟩; have Nt : Aside0 (w_.heap[gt]? = some (.cells #[.string (nm ++ (⟨#[46, 116, 109, 112]⟩ : ByteArray))] 9 (0, 0))) := ⟨blk_below (bp_2 BKt NBt_a NBt_c) hb⟩; have Nr : Aside0 (w_.heap[gr]? = some (.cells #[.slice none 0 0, .bool false, .int .i64 0] 24 (0, 0))) := ⟨blk_below (bp_2 BKr NBr_a NBr_c) hb⟩; clear BKn BKy BKt BKr; have BKn := Nn; have BKy := Ny; have BKt := Nt; have BKr := Nr; clear Nn Ny Nt Nr; replace HO9 := Aside0.mk (Kd.R_below (by (with_reducible repeat (first | apply Kd.R_alloc | apply Kd.R_drewN | apply Kd.R_drew)); exact Kd.R_mono (Kd.R_far (p := ⟨ga, 2, none⟩) (Kd.R_far (p := ⟨ga, 1, none⟩) (Kd.R_far (p := ⟨ga, 0, none⟩) (Kd.R_far (p := ⟨gc, 2, none⟩) (Kd.R_far (p := ⟨gc, 1, none⟩) (Kd.R_far (p := ⟨gc, 0, none⟩) (Kd.R_types (Kd.R_types HO9.out BKa.out (by decide)) BKc.out (by decide)) (fun _ hk => hk.2) _) (fun _ hk => hk.2) _) (fun _ hk => hk.2) _) (fun _ hk => hk.1.2) _) (fun _ hk => hk.1.2) _) (fun _ hk => hk.1.2) _) (fun _ hk => trivial)) hb); replace HB := Aside0.mk (below_step (bl_6 HB GEa GEn GEy GEr GEt GEc) hb); clear hb hbox hg) | ((with_reducible refine gate_callee (f := 68) rfl ?_); refine goesL_ (some 39) rfl rfl Try.func68 (by kernel_rfl) rfl #[.agg #[.slice A9 x1.length c9, .bool x2, .int .i64 x3], .slice (some ⟨gq, 0, none⟩) 3 3] rfl (ar_) ?_; (with_reducible refine (hard_all.calls k gq gt gy gn _ _ x1 x2 x3 (nm ++ (⟨#[46, 116, 109, 112]⟩ : ByteArray)) nm dt r1 r2 r3 r4 _ ?hq ?ht ?hd ?hn ?side1 ?side2 A3.out).mono ?_); (case hq => exact bk_ BKq); (case ht => exact bk_ BKt); (case hd => exact bk_ BKy); (case hn => exact bk_ BKn); (case side1 => exact (Kd.R_reads' HO9.out).2.2); (case side2 => exact (Kd.R_reads' HO9.out).2.1); rintro e w9 ⟨v9, rfl, ho0, hb⟩; refine ⟨_, rfl, ?_⟩; have HOz := Aside0.mk (Kd.R_lower ho0 (below_size (bl_6 HB GEa GEn GEy GEr GEt GEc))); replace BKr := Aside0.mk (bb_ BKr hb); replace HB := Aside0.mk (below_step (bl_6 HB GEa GEn GEy GEr GEt GEc) hb); clear hb ho0; obtain ⟨Az, cz, ez⟩ := Kd.R_slice HOz.out; subst ez; obtain ⟨hczq_0, hczq_1, hczq_2, hfzq_0, hfzq_1, hfzq_2⟩ := c3_ BKr))
    refine bodyPost_ret (results_ct rfl _ _ gr 24 #[.slice Az r1.length cz, .bool r2, .int .i64 r3] (0, 0) _ rfl (bp_0 BKr) Try.underlying24 rfl (by kernel_rfl)) rfl ?_
    exact ⟨_, by first | rfl | (simp; done) | (simp [*]; done), by (with_reducible repeat (first | apply Kd.R_alloc | apply Kd.R_drewN | apply Kd.R_drew)); exact Kd.R_mono (Kd.R_far (p := ⟨gr, 2, none⟩) (Kd.R_far (p := ⟨gr, 1, none⟩) (Kd.R_far (p := ⟨gr, 0, none⟩) (Kd.R_types HOz.out BKr.out (by decide)) (fun _ hk => hk.2) _) (fun _ hk => hk.2) _) (fun _ hk => hk.2) _) (fun _ hk => trivial), bl_6 HB GEa GEn GEy GEr GEt GEc⟩

/-! ### hard_Save: function 17 -/
def hard_Save.f (k : Nat) (l0_0 : List (S71)) (a0_1 : Bool) (a0_2 : Int) (a1_0 : Int) (a1_1 : Int) : Option ((List (S71)) × Bool × Int × Int) := (hard_Check.f a1_0 a1_1).bind fun t263 => (if t263 = 0 then ((hard_file.f k a1_0 a1_1).bind fun t264 => ((hard_Put.f k l0_0 a0_1 a0_2 (⟨#[104, 97, 114, 100]⟩ : ByteArray) t264).bind fun bt265 => (some (bt265.1, bt265.2.1, bt265.2.2.1, bt265.2.2.2)))) else ((disk_Check.f k l0_0 a0_1 a0_2).bind fun t271 => (if t271 = 0 then ((some (([] : List (S71)) : List (S71))).bind fun y272 => (if y272.length + l0_0.length < 3518437208883 then (some ((y272 ++ l0_0), a0_1, a0_2, t263)) else (none))) else (some (([] : List (S71)), false, 0, t263)))))
theorem hard_Save.mono : ∀ a0 a1 a2 a3 a4 k, LeO (hard_Save.f k a0 a1 a2 a3 a4) (hard_Save.f (k + 1) a0 a1 a2 a3 a4) := by
 intro a0 a1 a2 a3 a4 k
 unfold hard_Save.f
 repeat' first | (with_reducible first | exact disk_Check.mono _ _ _ _ | exact hard_Put.mono _ _ _ _ _ _ | exact hard_file.mono _ _ _ | exact LeO.refl _ | exact LeO.none _ | refine LeO.ite ?_ ?_ | refine LeO.bind ?_ (fun _ => ?_)) | exact disk_Check.mono _ _ _ _ | exact hard_Put.mono _ _ _ _ _ _ | exact hard_file.mono _ _ _ | exact LeO.none _ | refine LeO.ite ?_ ?_ | refine LeO.bind ?_ (fun _ => ?_)
def hard_Save.T7 : Bool × List (List Nat × List Nat) := (true, [([], []), ([], []), ([1], [1]), ([0, 2, 2], [0, 2]), ([3], [3]), ([3], [3]), ([4, 3, 0, 1, 2, 3, 4, 5], [4]), ([5, 6, 0, 1, 2, 3, 4, 5, 6], [5])])
def hard_Save.B7 : List Nat := [0, 0, 2, 7, 15, 15, 63, 127]
theorem hard_Save.tab7 : rtab .any (opsOf Try.f17 7) = hard_Save.T7 := by kernel_rfl
theorem hard_Save.bits7 : waitsOk hard_Save.T7.2 hard_Save.B7 = true := by kernel_rfl
set_option maxHeartbeats 80000000 in
set_option maxRecDepth 100000 in
theorem hard_Save.calls (k : Nat) (A0_0 : Option Addr) (c0_0 : Nat) (l0_0 : List (S71)) (a0_1 : Bool) (a0_2 : Int) (a1_0 : Int) (a1_1 : Int) (r1 : List (S71)) (r2 : Bool) (r3 : Int) (r4 : Int) (w : World) (hr0_0 : Kd.C k71 w A0_0 l0_0.length l0_0) (hc0_0 : l0_0.length ≤ c0_0) (h : hard_Save.f k l0_0 a0_1 a0_2 a1_0 a1_1 = some (r1, r2, r3, r4)) :
  Calls Try.prog 17 #[.agg #[.slice A0_0 l0_0.length c0_0, .bool a0_1, .int .i64 a0_2], .agg #[.int .u64 a1_0, .int .i64 a1_1]] w fun e w' => ∃ v0_ : Value, e = .returned (.tuple #[.agg #[v0_, .bool r2, .int .i64 r3], .int .i64 r4]) ∧ Kd.R k71 71 w' w.heap.size (fun _ => True) v0_ r1 ∧ Below w.heap.size w w' := by
 have hu24 := Try.underlying24
 have hu27 := Try.underlying27
 have HR0_0 := Aside0.mk hr0_0
 have HC0_0 := Aside0.mk hc0_0
 clear hr0_0 hc0_0
 have HB := Aside0.mk (Below.refl w.heap.size w)
 have H : ((hard_Check.f a1_0 a1_1).bind fun t263 => (if t263 = 0 then ((hard_file.f k a1_0 a1_1).bind fun t264 => ((hard_Put.f k l0_0 a0_1 a0_2 (⟨#[104, 97, 114, 100]⟩ : ByteArray) t264).bind fun bt265 => (some (bt265.1, bt265.2.1, bt265.2.2.1, bt265.2.2.2)))) else ((disk_Check.f k l0_0 a0_1 a0_2).bind fun t271 => (if t271 = 0 then ((some (([] : List (S71)) : List (S71))).bind fun y272 => (if y272.length + l0_0.length < 3518437208883 then (some ((y272 ++ l0_0), a0_1, a0_2, t263)) else (none))) else (some (([] : List (S71)), false, 0, t263)))))) = some (r1, r2, r3, r4) := h
 clear h
 obtain ⟨t263, A30, H⟩ := Option.bind_eq_some_iff.mp H
 try dsimp only at H
 have A3 := Aside0.mk A30
 clear A30
 by_cases c4 : t263 = 0
 ·rw [if_pos c4] at H
  have c4b0 : (t263 == 0) = true := beq_iff_eq.mpr c4
  have c4b1 : (t263 != 0) = false := bne_eq_false_iff_eq.mpr c4
  clear c4
  obtain ⟨t264, A50, H⟩ := Option.bind_eq_some_iff.mp H
  try dsimp only at H
  have A5 := Aside0.mk A50
  clear A50
  obtain ⟨⟨t265, t268, t269, t270⟩, A60, H⟩ := Option.bind_eq_some_iff.mp H
  try dsimp only at H
  have A6 := Aside0.mk A60
  clear A60
  simp only [Option.some.injEq, Prod.mk.injEq] at H
  obtain ⟨rfl, rfl, rfl, rfl⟩ := H
  go_enter Try.func17, Try.ntmps17
  try go_wp2_with (first | ((with_reducible refine gate_dst (N := 2) rfl ?_); refine bx_ 2 #[.slice A0_0 l0_0.length c0_0, .bool a0_1, .int .i64 a0_2] 24 ?_; intro gb260 hg w7 hbox hb; have BK260 := Aside0.mk (hbox); have GE260 := Aside0.mk (bs_0 hg HB); replace HB := Aside0.mk (below_step (bl_ HB) hb); clear hb hbox hg) | ((with_reducible refine gate_dst (N := 3) rfl ?_); refine bx_ 3 #[.int .u64 a1_0, .int .i64 a1_1] 27 ?_; intro gb261 hg w8 hbox hb; have BK261 := Aside0.mk (hbox); have GE261 := Aside0.mk (bs_1 hg HB GE260); replace HB := Aside0.mk (below_step (bl_1 HB GE260) hb); have NB260_261 := Aside0.mk (nb_ hg BK260); have NB261_260 := Aside0.mk (nc_ hg BK260); replace BK260 := Aside0.mk (bb_ BK260 hb); clear hb hbox hg) | ((with_reducible refine gate_dst (N := 4) rfl ?_); refine bx_ 4 #[.slice none 0 0, .bool false, .int .i64 0] 24 ?_; intro gb262 hg w9 hbox hb; have BK262 := Aside0.mk (hbox); have GE262 := Aside0.mk (bs_2 hg HB GE260 GE261); replace HB := Aside0.mk (below_step (bl_2 HB GE260 GE261) hb); have NB260_262 := Aside0.mk (nb_ hg BK260); have NB262_260 := Aside0.mk (nc_ hg BK260); replace BK260 := Aside0.mk (bb_ BK260 hb); have NB261_262 := Aside0.mk (nb_ hg BK261); have NB262_261 := Aside0.mk (nc_ hg BK261); replace BK261 := Aside0.mk (bb_ BK261 hb); clear hb hbox hg; have hnb10 := NB261_260.out; have hnc10 := NB260_261.out; have hnb11 := NB261_262.out; have hnc11 := NB262_261.out; obtain ⟨hcz12_0, hcz12_1, hfz12_0, hfz12_1⟩ := c2_ BK261) | ((with_reducible refine gate_callee (f := 21) rfl ?_); refine goesL_ (some 8) rfl rfl Try.func21 (by kernel_rfl) rfl #[.agg #[.int .u64 a1_0, .int .i64 a1_1]] rfl (ar_) ?_; (with_reducible refine (hard_Check.calls a1_0 a1_1 t263 _ A3.out).mono ?_); rintro e w13 ⟨rfl, hb⟩; refine ⟨_, rfl, ?_⟩; replace BK260 := Aside0.mk (bb_ BK260 hb); replace BK261 := Aside0.mk (bb_ BK261 hb); replace BK262 := Aside0.mk (bb_ BK262 hb); replace HB := Aside0.mk (below_step (bl_3 HB GE260 GE261 GE262) hb); (try clear hb)))
  have n0_ := Aside0.mk (blk_drew BK260.out)
  have n1_ := Aside0.mk (blk_drew BK261.out)
  have n2_ := Aside0.mk (blk_drew BK262.out)
  have n3_ := Aside0.mk (below_drew1 HB.out)
  clear BK260
  clear BK261
  clear BK262
  clear HB
  have BK260 := n0_
  have BK261 := n1_
  have BK262 := n2_
  have HB := n3_
  clear n0_ n1_ n2_ n3_
  refine start_ (n := 8) (S := fun w' => w'.cell? ⟨gb260, 0, none⟩ = some (.slice A0_0 l0_0.length c0_0) ∧ w'.cell? ⟨gb260, 1, none⟩ = some (.bool a0_1) ∧ w'.cell? ⟨gb260, 2, none⟩ = some (.int .i64 a0_2) ∧ w'.cell? ⟨gb261, 0, none⟩ = some (.int .u64 a1_0) ∧ w'.cell? ⟨gb261, 1, none⟩ = some (.int .i64 a1_1)) (ds := []) #[false, false, false, false, false, false, false, false] (by kernel_rfl) rfl rfl ⟨(blk_cell BK260.out 0).trans rfl, (blk_cell BK260.out 1).trans rfl, (blk_cell BK260.out 2).trans rfl, (blk_cell BK261.out 0).trans rfl, (blk_cell BK261.out 1).trans rfl⟩ (fun hHeld => ?_); refine with_tabW hard_Save.tab7 hard_Save.bits7 (fun HT_ HW_ => ?_)
  generalize w13.drew = w14 at BK260 BK261 BK262 HB hHeld ⊢
  refine take_ (i := 0) (N := some 23) (v := ?_) (a' := ?_) #[true, false, false, false, false, false, false, false] rfl rfl (take_ofW HT_.out HW_.out (by kernel_rfl)) (fun _ _ _ h => h) (Or.inl ⟨by rfl, ?_⟩) hHeld ?_ ?_
  rotate_left
  ·rintro w' ⟨s0, s1, s2, s3, s4⟩
   go_simp
   with_reducible rfl
  rotate_left
  ·simp only [Act.put, List.setIfInBounds_toArray, List.set_cons_zero, List.set_cons_succ, i64_w, i32_w]
   rfl
  refine take_ (i := 1) (N := some 24) (v := ?_) (a' := ?_) #[true, true, false, false, false, false, false, false] rfl rfl (take_ofW HT_.out HW_.out (by kernel_rfl)) (fun _ _ _ h => h) (Or.inl ⟨by rfl, ?_⟩) hHeld ?_ ?_
  rotate_left
  ·rintro w' ⟨s0, s1, s2, s3, s4⟩
   go_simp
   with_reducible rfl
  rotate_left
  ·simp only [Act.put, List.setIfInBounds_toArray, List.set_cons_zero, List.set_cons_succ, i64_w, i32_w]
   rfl
  refine one_ (i := 2) (N := some 25) #[true, true, true, false, false, false, false, false] rfl rfl (one_of HT_.out (by kernel_rfl)) (by decide) (fun K hK => ?_)
  refine goes_ Try.func40 (by kernel_rfl) rfl #[.agg #[.int .u64 a1_0, .int .i64 a1_1]] (by rfl) rfl rfl (ar_) ?_
  with_reducible refine (hard_file.calls k a1_0 a1_1 t264 _ A5.out).mono ?_
  rintro e w15 ⟨rfl, hb⟩
  refine ⟨_, rfl, ?_⟩
  have n0_ := Aside0.mk (bb_ BK260 hb)
  have n1_ := Aside0.mk (bb_ BK261 hb)
  have n2_ := Aside0.mk (bb_ BK262 hb)
  have n3_ := Aside0.mk (below_step (bl_3 HB GE260 GE261 GE262) hb)
  clear BK260
  clear BK261
  clear BK262
  clear HB
  have BK260 := n0_
  have BK261 := n1_
  have BK262 := n2_
  have HB := n3_
  clear n0_ n1_ n2_ n3_
  (try clear hb)
  (try clear hb2)
  (try clear hk)
  (try clear hi)
  refine hK.out _ _ ⟨(blk_cell BK260.out 0).trans rfl, (blk_cell BK260.out 1).trans rfl, (blk_cell BK260.out 2).trans rfl, (blk_cell BK261.out 0).trans rfl, (blk_cell BK261.out 1).trans rfl⟩ (fun hHeld => ?_)
  clear hK K
  refine norm_ (a' := ?_) ?_ ?_
  rotate_left
  ·show Act.put _ (some 25) _ = _
   simp only [Act.put, List.setIfInBounds_toArray, List.set_cons_zero, List.set_cons_succ, i64_w, i32_w]
   rfl
  refine one_ (i := 3) (N := some 26) #[true, true, true, true, false, false, false, false] rfl rfl (one_of HT_.out (by kernel_rfl)) (by decide) (fun K hK => ?_)
  refine goes_ Try.func45 (by kernel_rfl) rfl #[.agg #[.slice A0_0 l0_0.length c0_0, .bool a0_1, .int .i64 a0_2], .string (⟨#[104, 97, 114, 100]⟩ : ByteArray), .string t264] (by rfl) rfl rfl (ar_) ?_
  with_reducible refine (hard_Put.calls k _ _ l0_0 a0_1 a0_2 (⟨#[104, 97, 114, 100]⟩ : ByteArray) t264 t265 t268 t269 t270 _ ?side1 ?side2 A6.out).mono ?_
  (case side1 => exact cl_ (Kd.C_below HR0_0.out HB.out))
  (case side2 => exact HC0_0.out)
  rintro e w16 ⟨v266, rfl, ho0, hb⟩
  refine ⟨_, rfl, ?_⟩
  have n0_ := Aside0.mk (Kd.R_lower ho0 (below_size (bl_3 HB GE260 GE261 GE262)))
  have n1_ := Aside0.mk (bb_ BK260 hb)
  have n2_ := Aside0.mk (bb_ BK261 hb)
  have n3_ := Aside0.mk (bb_ BK262 hb)
  have n4_ := Aside0.mk (below_step (bl_3 HB GE260 GE261 GE262) hb)
  clear BK260
  clear BK261
  clear BK262
  clear HB
  have HO267 := n0_
  have BK260 := n1_
  have BK261 := n2_
  have BK262 := n3_
  have HB := n4_
  clear n0_ n1_ n2_ n3_ n4_
  (try clear hb)
  (try clear hb2)
  (try clear hk)
  (try clear hi)
  (try clear ho0)
  obtain ⟨Ao17, co17, eo17⟩ := Kd.R_slice HO267.out
  (first | subst eo17 | (injection eo17 with f1_ f2_ f3_; have f4_ := f1_.symm; have f5_ := f3_.symm; clear f1_ f2_ f3_; subst f4_; subst f5_))
  refine hK.out _ _ ⟨(blk_cell BK260.out 0).trans rfl, (blk_cell BK260.out 1).trans rfl, (blk_cell BK260.out 2).trans rfl, (blk_cell BK261.out 0).trans rfl, (blk_cell BK261.out 1).trans rfl⟩ (fun hHeld => ?_)
  clear hK K
  refine norm_ (a' := ?_) ?_ ?_
  rotate_left
  ·show Act.put _ (some 26) _ = _
   simp only [Act.put, List.setIfInBounds_toArray, List.set_cons_zero, List.set_cons_succ, i64_w, i32_w]
   rfl
  refine pure_ (i := 4) (N := some 27) (v := ?_) (a' := ?_) #[true, true, true, true, true, false, false, false] rfl rfl (any_of HT_.out (by kernel_rfl)) (fun _ _ _ h => h) (Or.inl ⟨by rfl, ?_⟩) ?_ ?_
  rotate_left
  ·intro w'
   go_simp
   with_reducible rfl
  rotate_left
  ·simp only [Act.put, List.setIfInBounds_toArray, List.set_cons_zero, List.set_cons_succ, i64_w, i32_w]
   rfl
  refine pure_ (i := 5) (N := some 28) (v := ?_) (a' := ?_) #[true, true, true, true, true, true, false, false] rfl rfl (any_of HT_.out (by kernel_rfl)) (fun _ _ _ h => h) (Or.inl ⟨by rfl, ?_⟩) ?_ ?_
  rotate_left
  ·intro w'
   go_simp
   with_reducible rfl
  rotate_left
  ·simp only [Act.put, List.setIfInBounds_toArray, List.set_cons_zero, List.set_cons_succ, i64_w, i32_w]
   rfl
  refine one_ (i := 6) (N := none) #[true, true, true, true, true, true, true, false] rfl rfl (one_of HT_.out (by kernel_rfl)) (by decide) (fun K hK => ?_)
  have hs18 : w16.cell? ⟨gb262, 0, none⟩ = some (.slice none 0 0) := (blk_cell BK262.out 0).trans rfl
  have hfs18 := blk_frozen BK262.out 0
  have hns18_0 := NB260_262.out
  have hns18_1 := NB261_262.out
  have hms18_0 := NB262_260.out
  have hms18_1 := NB262_261.out
  have hs19 : w16.cell? ⟨gb262, 1, none⟩ = some (.bool false) := (blk_cell BK262.out 1).trans rfl
  have hfs19 := blk_frozen BK262.out 1
  have hns19_0 := NB260_262.out
  have hns19_1 := NB261_262.out
  have hms19_0 := NB262_260.out
  have hms19_1 := NB262_261.out
  have hs20 : w16.cell? ⟨gb262, 2, none⟩ = some (.int .i64 0) := (blk_cell BK262.out 2).trans rfl
  have hfs20 := blk_frozen BK262.out 2
  have hns20_0 := NB260_262.out
  have hns20_1 := NB261_262.out
  have hms20_0 := NB262_260.out
  have hms20_1 := NB262_261.out
  refine skip_ (w1 := ?_) (by rfl) rfl ?_ ?_
  rotate_left
  ·go_simp
   rfl
  refine hK.out _ _ ⟨((cell_far (p := ⟨gb262, _, none⟩) NB260_262.out _).trans (((cell_far (p := ⟨gb262, _, none⟩) NB260_262.out _).trans (((cell_far (p := ⟨gb262, _, none⟩) NB260_262.out _).trans (hHeld.1)))))), ((cell_far (p := ⟨gb262, _, none⟩) NB260_262.out _).trans (((cell_far (p := ⟨gb262, _, none⟩) NB260_262.out _).trans (((cell_far (p := ⟨gb262, _, none⟩) NB260_262.out _).trans (hHeld.2.1)))))), ((cell_far (p := ⟨gb262, _, none⟩) NB260_262.out _).trans (((cell_far (p := ⟨gb262, _, none⟩) NB260_262.out _).trans (((cell_far (p := ⟨gb262, _, none⟩) NB260_262.out _).trans (hHeld.2.2.1)))))), ((cell_far (p := ⟨gb262, _, none⟩) NB261_262.out _).trans (((cell_far (p := ⟨gb262, _, none⟩) NB261_262.out _).trans (((cell_far (p := ⟨gb262, _, none⟩) NB261_262.out _).trans (hHeld.2.2.2.1)))))), ((cell_far (p := ⟨gb262, _, none⟩) NB261_262.out _).trans (((cell_far (p := ⟨gb262, _, none⟩) NB261_262.out _).trans (((cell_far (p := ⟨gb262, _, none⟩) NB261_262.out _).trans (hHeld.2.2.2.2))))))⟩ (fun hHeld => ?_)
  clear hK K
  refine pure_ (i := 7) (N := some 5) (v := ?_) (a' := ?_) #[true, true, true, true, true, true, true, true] rfl rfl (any_of HT_.out (by kernel_rfl)) (fun _ _ _ h => h) (Or.inl ⟨by rfl, ?_⟩) ?_ ?_
  rotate_left
  ·intro w'
   go_simp
   with_reducible rfl
  rotate_left
  ·simp only [Act.put, List.setIfInBounds_toArray, List.set_cons_zero, List.set_cons_succ, i64_w, i32_w]
   rfl
  refine done_ (done_of HT_.out (by kernel_rfl)) ?_
  try go_wp2
  refine bodyPost_ret (results_ct rfl _ _ gb262 24 #[.slice Ao17 t265.length co17, .bool t268, .int .i64 t269] (0, 0) _ rfl (bp_0 BK262) Try.underlying24 rfl (by kernel_rfl)) rfl ?_
  exact ⟨_, by first | rfl | (simp; done) | (simp [*]; done), by (with_reducible repeat (first | apply Kd.R_alloc | apply Kd.R_drewN | apply Kd.R_drew)); exact Kd.R_mono (Kd.R_far (p := ⟨gb262, 2, none⟩) (Kd.R_far (p := ⟨gb262, 1, none⟩) (Kd.R_far (p := ⟨gb262, 0, none⟩) (Kd.R_types HO267.out BK262.out (by decide)) (fun _ hk => hk.2) (.slice Ao17 t265.length co17)) (fun _ hk => hk.2) (.bool t268)) (fun _ hk => hk.2) (.int .i64 t269)) (fun _ hk => trivial), bl_3 HB GE260 GE261 GE262⟩
 rw [if_neg c4] at H
 have c4b0 : (t263 == 0) = false := beq_eq_false_iff_ne.mpr c4
 have c4b1 : (t263 != 0) = true := bne_iff_ne.mpr c4
 obtain ⟨t271, A210, H⟩ := Option.bind_eq_some_iff.mp H
 try dsimp only at H
 have A21 := Aside0.mk A210
 clear A210
 by_cases c22 : t271 = 0
 rotate_left
 ·rw [if_neg c22] at H
  have c22b0 : (t271 == 0) = false := beq_eq_false_iff_ne.mpr c22
  have c22b1 : (t271 != 0) = true := bne_iff_ne.mpr c22
  simp only [Option.some.injEq, Prod.mk.injEq] at H
  obtain ⟨rfl, rfl, rfl, rfl⟩ := H
  go_enter Try.func17, Try.ntmps17
  go_wp2_with (first | ((with_reducible refine gate_dst (N := 2) rfl ?_); refine bx_ 2 #[.slice A0_0 l0_0.length c0_0, .bool a0_1, .int .i64 a0_2] 24 ?_; intro gb260 hg w41 hbox hb; have BK260 := Aside0.mk (hbox); have GE260 := Aside0.mk (bs_0 hg HB); replace HB := Aside0.mk (below_step (bl_ HB) hb); clear hb hbox hg) | ((with_reducible refine gate_dst (N := 3) rfl ?_); refine bx_ 3 #[.int .u64 a1_0, .int .i64 a1_1] 27 ?_; intro gb261 hg w42 hbox hb; have BK261 := Aside0.mk (hbox); have GE261 := Aside0.mk (bs_1 hg HB GE260); replace HB := Aside0.mk (below_step (bl_1 HB GE260) hb); have NB260_261 := Aside0.mk (nb_ hg BK260); have NB261_260 := Aside0.mk (nc_ hg BK260); replace BK260 := Aside0.mk (bb_ BK260 hb); clear hb hbox hg) | ((with_reducible refine gate_dst (N := 4) rfl ?_); refine bx_ 4 #[.slice none 0 0, .bool false, .int .i64 0] 24 ?_; intro gb262 hg w43 hbox hb; have BK262 := Aside0.mk (hbox); have GE262 := Aside0.mk (bs_2 hg HB GE260 GE261); replace HB := Aside0.mk (below_step (bl_2 HB GE260 GE261) hb); have NB260_262 := Aside0.mk (nb_ hg BK260); have NB262_260 := Aside0.mk (nc_ hg BK260); replace BK260 := Aside0.mk (bb_ BK260 hb); have NB261_262 := Aside0.mk (nb_ hg BK261); have NB262_261 := Aside0.mk (nc_ hg BK261); replace BK261 := Aside0.mk (bb_ BK261 hb); clear hb hbox hg; have hnb44 := NB261_260.out; have hnc44 := NB260_261.out; have hnb45 := NB261_262.out; have hnc45 := NB262_261.out; obtain ⟨hcz46_0, hcz46_1, hfz46_0, hfz46_1⟩ := c2_ BK261) | ((with_reducible refine gate_callee (f := 21) rfl ?_); refine goesL_ (some 8) rfl rfl Try.func21 (by kernel_rfl) rfl #[.agg #[.int .u64 a1_0, .int .i64 a1_1]] rfl (ar_) ?_; (with_reducible refine (hard_Check.calls a1_0 a1_1 t263 _ A3.out).mono ?_); rintro e w47 ⟨rfl, hb⟩; refine ⟨_, rfl, ?_⟩; replace BK260 := Aside0.mk (bb_ BK260 hb); replace BK261 := Aside0.mk (bb_ BK261 hb); replace BK262 := Aside0.mk (bb_ BK262 hb); replace HB := Aside0.mk (below_step (bl_3 HB GE260 GE261 GE262) hb); (try clear hb); have hnb48 := NB260_262.out; have hnc48 := NB262_260.out; obtain ⟨hcz49_0, hcz49_1, hcz49_2, hfz49_0, hfz49_1, hfz49_2⟩ := c3_ BK260) | ((with_reducible refine gate_callee (f := 37) rfl ?_); refine goesL_ (some 12) rfl rfl Try.func37 (by kernel_rfl) rfl #[.agg #[.slice A0_0 l0_0.length c0_0, .bool a0_1, .int .i64 a0_2]] rfl (ar_) ?_; (with_reducible refine (disk_Check.calls k _ _ l0_0 a0_1 a0_2 t271 _ ?side1 ?side2 A21.out).mono ?_); (case side1 => exact cl_ (Kd.C_below HR0_0.out HB.out)); (case side2 => exact HC0_0.out); rintro e w50 ⟨rfl, hb⟩; refine ⟨_, rfl, ?_⟩; replace BK260 := Aside0.mk (bb_ BK260 hb); replace BK261 := Aside0.mk (bb_ BK261 hb); replace BK262 := Aside0.mk (bb_ BK262 hb); replace HB := Aside0.mk (below_step (bl_3 HB GE260 GE261 GE262) hb); (try clear hb); obtain ⟨hcz51_0, hcz51_1, hcz51_2, hfz51_0, hfz51_1, hfz51_2⟩ := c3_ BK262))
  refine bodyPost_ret (results_ct rfl _ _ gb262 24 #[.slice none 0 0, .bool false, .int .i64 0] (0, 0) _ rfl (bp_0 BK262) Try.underlying24 rfl (by kernel_rfl)) rfl ?_
  exact ⟨_, by first | rfl | (simp; done) | (simp [*]; done), by first | exact Kd.R_nil _ _ _ _ _ | exact Kd.N_nil _ _ _ _ _ | exact Kd.V_nil _ _ _ _ _ | exact Kd.Q_nil _ _ _ _ _ | exact Kd.S_nil _ _ _ _ _, bl_3 HB GE260 GE261 GE262⟩


 rw [if_pos c22] at H
 have c22b0 : (t271 == 0) = true := beq_iff_eq.mpr c22
 have c22b1 : (t271 != 0) = false := bne_eq_false_iff_eq.mpr c22
 clear c22
 obtain ⟨y272, hy272⟩ : ∃ y_ : List (S71), y_ = (([] : List (S71))) := ⟨_, rfl⟩
 replace H : (if y272.length + l0_0.length < 3518437208883 then (some ((y272 ++ l0_0), a0_1, a0_2, t263)) else (none)) = some (r1, r2, r3, r4) := by first | (rw [hy272]; with_reducible exact H) | (have H2_ := (Option.bind_some _ _).symm.trans H; rw [hy272]; with_reducible exact H2_) | (have H2_ := (Option.bind_some _ _).symm.trans H; with_reducible exact H2_) | with_reducible exact H | (rw [hy272]; exact H) | exact H
 have Ny272 := Aside0.mk hy272
 clear hy272
 by_cases c23 : y272.length + l0_0.length < 3518437208883
 rotate_left
 ·rw [if_neg c23] at H
  exact absurd H (by simp)
 rw [if_pos c23] at H
 have LMc23 := Aside0.mk c23
 clear c23
 obtain ⟨y275, hy275⟩ : ∃ y_ : List (S71), y_ = (y272 ++ l0_0) := ⟨_, rfl⟩
 replace H : (some (y275, a0_1, a0_2, t263)) = some (r1, r2, r3, r4) := by first | (rw [hy275]; with_reducible exact H) | (have H2_ := (Option.bind_some _ _).symm.trans H; rw [hy275]; with_reducible exact H2_) | (have H2_ := (Option.bind_some _ _).symm.trans H; with_reducible exact H2_) | with_reducible exact H | (rw [hy275]; exact H) | exact H
 have Ny275 := Aside0.mk hy275
 clear hy275
 simp only [Option.some.injEq, Prod.mk.injEq] at H
 obtain ⟨rfl, rfl, rfl, rfl⟩ := H
 go_enter Try.func17, Try.ntmps17
 go_wp2_with (first | ((with_reducible refine gate_dst (N := 2) rfl ?_); refine bx_ 2 #[.slice A0_0 l0_0.length c0_0, .bool a0_1, .int .i64 a0_2] 24 ?_; intro gb260 hg w24 hbox hb; have BK260 := Aside0.mk (hbox); have GE260 := Aside0.mk (bs_0 hg HB); replace HB := Aside0.mk (below_step (bl_ HB) hb); clear hb hbox hg) | ((with_reducible refine gate_dst (N := 3) rfl ?_); refine bx_ 3 #[.int .u64 a1_0, .int .i64 a1_1] 27 ?_; intro gb261 hg w25 hbox hb; have BK261 := Aside0.mk (hbox); have GE261 := Aside0.mk (bs_1 hg HB GE260); replace HB := Aside0.mk (below_step (bl_1 HB GE260) hb); have NB260_261 := Aside0.mk (nb_ hg BK260); have NB261_260 := Aside0.mk (nc_ hg BK260); replace BK260 := Aside0.mk (bb_ BK260 hb); clear hb hbox hg) | ((with_reducible refine gate_dst (N := 4) rfl ?_); refine bx_ 4 #[.slice none 0 0, .bool false, .int .i64 0] 24 ?_; intro gb262 hg w26 hbox hb; have BK262 := Aside0.mk (hbox); have GE262 := Aside0.mk (bs_2 hg HB GE260 GE261); replace HB := Aside0.mk (below_step (bl_2 HB GE260 GE261) hb); have NB260_262 := Aside0.mk (nb_ hg BK260); have NB262_260 := Aside0.mk (nc_ hg BK260); replace BK260 := Aside0.mk (bb_ BK260 hb); have NB261_262 := Aside0.mk (nb_ hg BK261); have NB262_261 := Aside0.mk (nc_ hg BK261); replace BK261 := Aside0.mk (bb_ BK261 hb); clear hb hbox hg; have hnb27 := NB261_260.out; have hnc27 := NB260_261.out; have hnb28 := NB261_262.out; have hnc28 := NB262_261.out; obtain ⟨hcz29_0, hcz29_1, hfz29_0, hfz29_1⟩ := c2_ BK261) | ((with_reducible refine gate_callee (f := 21) rfl ?_); refine goesL_ (some 8) rfl rfl Try.func21 (by kernel_rfl) rfl #[.agg #[.int .u64 a1_0, .int .i64 a1_1]] rfl (ar_) ?_; (with_reducible refine (hard_Check.calls a1_0 a1_1 t263 _ A3.out).mono ?_); rintro e w30 ⟨rfl, hb⟩; refine ⟨_, rfl, ?_⟩; replace BK260 := Aside0.mk (bb_ BK260 hb); replace BK261 := Aside0.mk (bb_ BK261 hb); replace BK262 := Aside0.mk (bb_ BK262 hb); replace HB := Aside0.mk (below_step (bl_3 HB GE260 GE261 GE262) hb); (try clear hb); have hnb31 := NB260_262.out; have hnc31 := NB262_260.out; obtain ⟨hcz32_0, hcz32_1, hcz32_2, hfz32_0, hfz32_1, hfz32_2⟩ := c3_ BK260) | ((with_reducible refine gate_callee (f := 37) rfl ?_); refine goesL_ (some 12) rfl rfl Try.func37 (by kernel_rfl) rfl #[.agg #[.slice A0_0 l0_0.length c0_0, .bool a0_1, .int .i64 a0_2]] rfl (ar_) ?_; (with_reducible refine (disk_Check.calls k _ _ l0_0 a0_1 a0_2 t271 _ ?side1 ?side2 A21.out).mono ?_); (case side1 => exact cl_ (Kd.C_below HR0_0.out HB.out)); (case side2 => exact HC0_0.out); rintro e w33 ⟨rfl, hb⟩; refine ⟨_, rfl, ?_⟩; replace BK260 := Aside0.mk (bb_ BK260 hb); replace BK261 := Aside0.mk (bb_ BK261 hb); replace BK262 := Aside0.mk (bb_ BK262 hb); replace HB := Aside0.mk (below_step (bl_3 HB GE260 GE261 GE262) hb); (try clear hb)) | ((with_reducible refine gate_dst (N := 16) rfl ?_); refine Kd.R_lit k71 _ 71 ?hg (N := 16) ?hd (xs := ([] : List (S71))) (inner := []) (ok := fun _ => True) (okp := fun _ => True) ?hr ?hp (fun _ hk => hk) trivial (Below.refl _ _) (Nat.le_refl _) (by simp) ?_; (case hd => rfl); (case hg => rfl); (case hr => first | (go_simp; done) | (go_simp; rfl)); (case hp => exact (Reps.none _ _)); intro v273 w34 ho35 hb hg_ hnew_; clear hg_ hnew_; (first | rw [← Ny272.out] at ho35 | (simp only [Int.reduceToNat] at ho35; rw [← Ny272.out] at ho35)); have HO274 := Aside0.mk (Kd.R_lower ho35 (below_size (bl_3 HB GE260 GE261 GE262))); replace BK260 := Aside0.mk (bb_ BK260 hb); replace BK261 := Aside0.mk (bb_ BK261 hb); replace BK262 := Aside0.mk (bb_ BK262 hb); replace HB := Aside0.mk (below_step (bl_3 HB GE260 GE261 GE262) hb); clear hb ho35; obtain ⟨hcz36_0, hcz36_1, hcz36_2, hfz36_0, hfz36_1, hfz36_2⟩ := c3_ BK260) | ((with_reducible refine gate_builtin (b := .append) (xs := #[.tmp 16, .tmp 18]) rfl ?_); at_builtin; refine Kd.R_append_rows k71 (w0 := w) w.heap.size rfl (.tmp 16) (.tmp 18) 22 71 (.agg #[(.string ⟨#[]⟩), (.string ⟨#[]⟩), (.int .i64 0)]) 40 rfl Try.underlying22 info71 rfl (by decide) (by omega) v273 y272 l0_0 _ _ _ (fun _ => True) (fun _ => False) rfl rfl ?aO ?aR (fun _ _ h => h) (fun _ h => h.elim) ?aF ?aB ?aS ?aL ?_; (case aR => exact cl_ (Kd.C_below HR0_0.out HB.out)); (case aB => exact (bl_3 HB GE260 GE261 GE262)); (case aF => exact (fun _ _ => trivial)); (case aO => exact (by (with_reducible repeat (first | apply Kd.R_alloc | apply Kd.R_drewN | apply Kd.R_drew)); exact HO274.out)); (case aS => exact (below_size (bl_3 HB GE260 GE261 GE262))); (case aL => have := LMc23.out; omega); intro v276 w37 ho hb hg hat; rw [← Ny275.out] at ho; replace BK260 := Aside0.mk (blk_grown (g := gb260) (o := .cells #[.slice A0_0 l0_0.length c0_0, .bool a0_1, .int .i64 a0_2] 24 (0, 0)) (bk_ BK260) hg (Kd.R_ne HO274.out BK260.out (by decide))); replace BK261 := Aside0.mk (blk_grown (g := gb261) (o := .cells #[.int .u64 a1_0, .int .i64 a1_1] 27 (0, 0)) (bk_ BK261) hg (Kd.R_ne HO274.out BK261.out (by decide))); replace BK262 := Aside0.mk (blk_grown (g := gb262) (o := .cells #[.slice none 0 0, .bool false, .int .i64 0] 24 (0, 0)) (bk_ BK262) hg (Kd.R_ne HO274.out BK262.out (by decide))); replace HB := Aside0.mk (hb); have HO277 := Aside0.mk (ho); clear HO274; clear ho hb hg hat; obtain ⟨Ao38, co38, eo38⟩ := Kd.R_slice HO277.out; subst eo38; obtain ⟨hcz39_0, hcz39_1, hcz39_2, hfz39_0, hfz39_1, hfz39_2⟩ := c3_ BK260; obtain ⟨hcz40_0, hcz40_1, hcz40_2, hfz40_0, hfz40_1, hfz40_2⟩ := c3_ BK262))
 refine bodyPost_ret (results_ct rfl _ _ gb262 24 #[.slice Ao38 y275.length co38, .bool a0_1, .int .i64 a0_2] (0, 0) _ rfl (bp_1 BK262 NB262_260) Try.underlying24 rfl (by kernel_rfl)) rfl ?_
 exact ⟨_, by first | rfl | (simp; done) | (simp [*]; done), by (with_reducible repeat (first | apply Kd.R_alloc | apply Kd.R_drewN | apply Kd.R_drew)); exact Kd.R_mono (Kd.R_far (p := ⟨gb262, 2, none⟩) (Kd.R_far (p := ⟨gb262, 1, none⟩) (Kd.R_far (p := ⟨gb262, 0, none⟩) (Kd.R_far (p := ⟨gb260, 0, none⟩) (Kd.R_types (Kd.R_types HO277.out BK260.out (by decide)) BK262.out (by decide)) (fun _ hk => hk.1.2) (.slice Ao38 y275.length co38)) (fun _ hk => hk.2) (.slice Ao38 y275.length co38)) (fun _ hk => hk.2) (.bool a0_1)) (fun _ hk => hk.2) (.int .i64 a0_2)) (fun _ hk => trivial), bl_3 HB GE260 GE261 GE262⟩end Go.Proofs.Ytpigjmjbfpipnaa.PB
