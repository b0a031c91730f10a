-- By a program of this session.
import Derived.Test.YtcdibodjkdoknaaPMx0
import Derived.Test.YtcdibodjkdoknaaPMx2
import Derived.Test.YtcdibodjkdoknaaPMx4
import Derived.Test.YtcdibodjkdoknaaPMx5
import Derived.Test.YtcdibodjkdoknaaPMx11
import Derived.Test.YtcdibodjkdoknaaPMx12
import Derived.Test.YtcdibodjkdoknaaPMx14
namespace Go.Proofs.Ytcdibodjkdoknaa.PM
open Go.RowKit YtcdibodjkdoknaaW.PrintWords YtcdibodjkdoknaaW.PrintLast YtcdibodjkdoknaaW.PrintMore Sh Ytcdibodjkdoknaa.Op
attribute [local go_sem] max2_int min2_int max_two min_two max_three min_three max_four min_four
set_option linter.unusedVariables false
set_option linter.unusedSimpArgs false

theorem isS_cell0 {w0 W : World} {g : Nat} {f0 : ByteArray} {f1 : Bool} (h : IsS87 w0 W g f0 f1) : W.cell? ⟨g, 0, none⟩ = some (.string f0) ∧ W.cell? ⟨g, 1, none⟩ = some (.bool f1) ∧ W.frozen? ⟨g, 0, none⟩ = false ∧ W.frozen? ⟨g, 1, none⟩ = false := by
 obtain ⟨T, _, h, _⟩ := h
 exact ⟨(blk_cell h 0).trans rfl, (blk_cell h 1).trans rfl, blk_frozen h 0, blk_frozen h 1⟩
theorem keep_blk {w w' : World} {g i : Nat} {o : Obj} (h : KeepBut w w' g none) (hi : i ≠ g) (hb : w.heap[i]? = some o) : w'.heap[i]? = some o := (h.2 i (blk_lt hb) hi (by simp)).trans hb
set_option maxHeartbeats 80000000 in
set_option maxRecDepth 100000 in
theorem msg_tflag.calls (k g : Nat) (s : ByteArray) (b : Bool) (n : Int) (s2 : ByteArray) (b2 : Bool) (w0 w : World) (hI : IsS87 w0 w g s b) (hB : Below w0.heap.size w0 w) (h : wal_Taker_Number.f k s b = some (n, s2, b2)) :
  Calls Try.prog 54 #[.agg #[.pointer (some ⟨g, 0, none⟩)]] w fun e w' => e = .returned (.bool (n == 1)) ∧ IsS87 w0 w' g s2 (b2 || decide (n > 1)) ∧ Below w0.heap.size w0 w' ∧ KeepBut w w' g none := by
 have HI := a_ hI
 have HB := a_ hB
 have A1 := a_ h
 have HG := a_ hI.lt
 clear hI hB h
 have hd : ∀ x : Bool, (if x = true then Value.bool true else Value.bool (decide (n > 1))) = .bool (x || decide (n > 1)) := fun x => by cases x <;> rfl
 cases b2
 all_goals cases hn : decide (n > 1)
 all_goals go_enter Try.func54, Try.ntmps54
 all_goals go_wp2_with (first | ((with_reducible refine gd_ 1 ?_); refine bx_ 1 #[.pointer (some ⟨g, 0, none⟩)] 54 ?_; intro ga hg w_ hbox hb; have BKa := a_ hbox; have NG := a_ (show ga ≠ g from by rw [hg]; exact Nat.ne_of_gt HG.out); have KP := a_ (KeepBut.of_below hb g none); replace HI := a_ (IsS87.below HI.out hb); replace HB := a_ (HB.out.trans (⟨hb.os, hb.tape, hb.output, hb.size, fun i hi => hb.block i (Nat.lt_of_lt_of_le hi HB.out.size)⟩ : Below w0.heap.size _ _)); clear hb hbox hg; have hca := (blk_cell BKa.out 0).trans rfl) | (go_at_call 53; (with_reducible refine (wal_Taker_Number.calls k g s b n s2 _ w0 _ HI.out HB.out A1.out).mono ?_); rintro e w4 ⟨rfl, hi, hb, hk⟩; replace HI := a_ hi; replace HB := a_ hb; replace BKa := a_ (keep_blk hk NG.out BKa.out); replace KP := a_ (KP.out.trans hk (.inl rfl)); clear hi hb hk; have hca2 := (blk_cell BKa.out 0).trans rfl; obtain ⟨hs0, hs1, hf0, hf1⟩ := isS_cell0 HI.out))
 all_goals go_region
 all_goals go_wp2
 all_goals go_ret
 all_goals exact ⟨rfl, IsS87.drew (IsS87.set_1 HI.out _), (Below.setCell (p := ⟨g, 1, none⟩) HB.out (IsS87.ge HI.out) _).drew, keep_drew (KeepBut.set_ KP.out 1 _)⟩
set_option maxHeartbeats 80000000 in
set_option maxRecDepth 100000 in
theorem order_From.calls (s : ByteArray) (w : World) : Calls Try.prog 27 #[.string s] w fun e w' => e = .returned (.pointer (some ⟨w.heap.size, 0, none⟩)) ∧ w'.heap[w.heap.size]? = some (.cells #[.string s, .bool false] 91 (0, 0)) ∧ Below w.heap.size w w' := by
 have HB := a_ (Below.refl w.heap.size w)
 go_enter Try.func27, Try.ntmps27
 go_wp2_with (first | ((with_reducible refine gd_ 7 ?_); refine bx_ 7 #[.string s, .bool false] 91 ?_; intro g hg w_ hbox hb; subst hg; have BKg := a_ hbox; replace HB := hB_ (bl_ HB) hb; clear hb hbox))
 go_ret
 exact ⟨rfl, bk_ BKg, bl_ HB⟩
theorem alloc_newD (w : World) (o : Obj) : (w.alloc o).heap[w.heap.size]? = some o := by simp [World.alloc, -World.alloc_eq]
def msg_tentry.f (k : Nat) (s : ByteArray) (b : Bool) : Option (Int × Int × Int × ByteArray × List Int × ByteArray × Bool) := (wal_Taker_Text.f k s b).bind fun x => (wal_Decode.f k x.1).bind fun y => some (y.1, y.2.1, y.2.2.1, y.2.2.2.1, y.2.2.2.2.1, x.2.1, (x.2.2 || (y.2.2.2.2.2 != 0)))
theorem msg_tentry.mono : ∀ a0 a1 k, LeO (msg_tentry.f k a0 a1) (msg_tentry.f (k + 1) a0 a1) := by
 intro a0 a1 k
 unfold msg_tentry.f
 repeat' with_reducible first | apply wal_Taker_Text.mono | apply wal_Decode.mono | apply LeO.refl | apply LeO.none | apply LeO.ite | refine LeO.bind ?_ (fun _ => ?_)
set_option maxHeartbeats 80000000 in
set_option maxRecDepth 100000 in
theorem msg_tentry.walk (k g : Nat) (s : ByteArray) (b : Bool) (tx s2 : ByteArray) (b2 : Bool) (e0 e1 e2 : Int) (e3 : ByteArray) (e4 : List Int) (why : Int) (w0 w : World) (hI : IsS87 w0 w g s b) (hB : Below w0.heap.size w0 w) (h1 : wal_Taker_Text.f k s b = some (tx, s2, b2)) (h2 : wal_Decode.f k tx = some (e0, e1, e2, e3, e4, why)) :
  Calls Try.prog 57 #[.agg #[.pointer (some ⟨g, 0, none⟩)]] w fun e w' => ∃ v_ : Value, e = .returned (.agg #[.int .u64 e0, .int .u64 e1, .int .u8 e2, .string e3, v_]) ∧ Kd.R (Kd.int .i64) 3 w' w.heap.size (fun _ => True) v_ e4 ∧ IsS87 w0 w' g s2 (b2 || (why != 0)) ∧ Below w0.heap.size w0 w' ∧ KeepBut w w' g none := by
 have HI := a_ hI
 have HB := a_ hB
 have A1 := a_ h1
 have A2 := a_ h2
 have HG := a_ hI.lt
 have KP := a_ (KeepBut.refl w g none)
 have HW := a_ (Nat.le_refl w.heap.size)
 clear hI hB h1 h2
 cases b2
 all_goals cases hn : (why != 0)
 all_goals go_enter Try.func57, Try.ntmps57
 all_goals go_upto_region 2 with (first | ((with_reducible refine gd_ 1 ?_); refine bx_ 1 #[.pointer (some ⟨g, 0, none⟩)] 54 ?_; intro ga hg w_ hbox hb; have BKa := a_ hbox; have Na := a_ (show ga ≠ g from by rw [hg]; exact Nat.ne_of_gt (Nat.lt_of_lt_of_le HG.out (by first | exact Nat.le_refl _ | exact KP.out.1))); have GEa := a_ (show w.heap.size ≤ ga from by rw [hg]; first | exact Nat.le_refl _ | exact KP.out.1); have GMa := a_ (show w0.heap.size ≤ ga from by rw [hg]; exact HB.out.size);  replace KP := a_ (KP.out.trans (KeepBut.of_below hb g none) (.inl rfl)); replace HI := a_ (IsS87.below HI.out hb); replace HB := a_ (HB.out.trans (below_up hb HB.out.size)); clear hb hbox hg; have hca_a := (blk_cell BKa.out 0).trans rfl) | ((with_reducible refine gd_ 2 ?_); refine bx_ 2 #[.int .u64 0, .int .u64 0, .int .u8 0, .string (⟨#[]⟩ : ByteArray), .slice none 0 0] 67 ?_; intro gr hg w_ hbox hb; have BKr := a_ hbox; have Nr := a_ (show gr ≠ g from by rw [hg]; exact Nat.ne_of_gt (Nat.lt_of_lt_of_le HG.out (by first | exact Nat.le_refl _ | exact KP.out.1))); have GEr := a_ (show w.heap.size ≤ gr from by rw [hg]; first | exact Nat.le_refl _ | exact KP.out.1); have GMr := a_ (show w0.heap.size ≤ gr from by rw [hg]; exact HB.out.size);  have NBa_r := nB_ hg BKa; have NBr_a := nC_ hg BKa; replace BKa := bB_ BKa hb; replace KP := a_ (KP.out.trans (KeepBut.of_below hb g none) (.inl rfl)); replace HI := a_ (IsS87.below HI.out hb); replace HB := a_ (HB.out.trans (below_up hb HB.out.size)); clear hb hbox hg; have hca_r := (blk_cell BKa.out 0).trans rfl) | (go_at_call 59; (with_reducible refine (wal_Taker_Text.calls k g s b tx s2 _ w0 _ HI.out HB.out A1.out).mono ?_); rintro e w4 ⟨rfl, hi, hb, hk⟩; replace HI := a_ hi; replace HB := a_ hb; replace BKa := a_ (keep_blk hk Na.out BKa.out); replace BKr := a_ (keep_blk hk Nr.out BKr.out); replace KP := a_ (KP.out.trans hk (.inl rfl)); clear hi hb hk; have hct := (blk_cell BKa.out 0).trans rfl) | (go_at_call 79; (with_reducible refine (wal_Decode.calls k tx e0 e1 e2 e3 e4 why _ A2.out).mono ?_); rintro e w5 ⟨v, rfl, ho, hb⟩; have HO := a_ ho; replace BKa := bB_ BKa hb; replace BKr := bB_ BKr hb; replace HI := a_ (IsS87.below HI.out hb); replace HB := a_ (HB.out.trans (below_up hb HB.out.size)); have HS := a_ KP.out.1; replace KP := a_ (KP.out.trans (KeepBut.of_below hb g none) (.inl rfl)); clear ho hb; obtain ⟨Ao, co, hvo⟩ := Kd.R_slice HO.out; subst hvo; have hcu := (blk_cell BKa.out 0).trans rfl; obtain ⟨hs0, hs1, hf0, hf1⟩ := isS_cell0 HI.out))
 all_goals have NBa_m := a_ (Nat.ne_of_lt (blk_lt BKa.out))
 all_goals have NBr_m := a_ (Nat.ne_of_lt (blk_lt BKr.out))
 all_goals have Nm := a_ (Nat.ne_of_gt HI.out.lt)
 all_goals have GMm := a_ HB.out.size
 all_goals have GEm := a_ KP.out.1
 all_goals refine gen_world (fun w1 => w1.heap[w5.heap.size]? = some (.cells #[.int .u64 e0, .int .u64 e1, .int .u8 e2, .string e3, .slice Ao e4.length co] 67 (0, 0)) ∧ w1.heap[gr]? = some (.cells #[.int .u64 0, .int .u64 0, .int .u8 0, .string (⟨#[]⟩ : ByteArray), .slice none 0 0] 67 (0, 0)) ∧ w1.heap[ga]? = some (.cells #[.pointer (some ⟨g, 0, none⟩)] 54 (0, 0)) ∧ IsS87 w0 w1 g s2 _ ∧ Below w0.heap.size w0 w1 ∧ KeepBut w w1 g none ∧ Kd.R (Kd.int .i64) 3 w1 w.heap.size (fun _ => True) (.slice Ao e4.length co) e4) ⟨alloc_newD _ _, blk_alloc BKr.out _, blk_alloc BKa.out _, HI.out.alloc _, HB.out.alloc HB.out.size _, keep_alloc KP.out _, Kd.R_alloc (Kd.R_lower HO.out HS.out) _⟩ ?_
 all_goals clear BKr BKa HI HB KP HO hcu hct hca_a hca_r hs0 hs1 hf0 hf1 A1 A2
 all_goals rintro w1 ⟨BKm, BKr, BKa, HI, HB, KP, HO⟩
 all_goals generalize w5.heap.size = gm at *
 all_goals replace BKm := a_ BKm
 all_goals replace BKr := a_ BKr
 all_goals replace BKa := a_ BKa
 all_goals replace HI := a_ HI
 all_goals replace HB := a_ HB
 all_goals replace KP := a_ KP
 all_goals replace HO := a_ HO
 all_goals have hxa := (blk_cell BKa.out 0).trans rfl
 all_goals obtain ⟨hs0, hs1, hf0, hf1⟩ := isS_cell0 HI.out
 all_goals have hxm_0 := (blk_cell BKm.out 0).trans rfl
 all_goals have hxr_0 := (blk_cell BKr.out 0).trans rfl
 all_goals have hxs_0 := blk_frozen BKr.out 0
 all_goals have hxm_1 := (blk_cell BKm.out 1).trans rfl
 all_goals have hxr_1 := (blk_cell BKr.out 1).trans rfl
 all_goals have hxs_1 := blk_frozen BKr.out 1
 all_goals have hxm_2 := (blk_cell BKm.out 2).trans rfl
 all_goals have hxr_2 := (blk_cell BKr.out 2).trans rfl
 all_goals have hxs_2 := blk_frozen BKr.out 2
 all_goals have hxm_3 := (blk_cell BKm.out 3).trans rfl
 all_goals have hxr_3 := (blk_cell BKr.out 3).trans rfl
 all_goals have hxs_3 := blk_frozen BKr.out 3
 all_goals have hxm_4 := (blk_cell BKm.out 4).trans rfl
 all_goals have hxr_4 := (blk_cell BKr.out 4).trans rfl
 all_goals have hxs_4 := blk_frozen BKr.out 4
 all_goals have hgm := Nm.out
 all_goals have hmr := NBr_m.out
 all_goals have hrm := Ne.symm NBr_m.out
 all_goals have hgr := Nr.out
 all_goals go_region
 all_goals go_wp2
 all_goals refine bodyPost_ret (results_cell_row rfl _ _ gr 67 _ (0, 0) _ rfl (blk_drew (blk_set (blk_set (blk_set (blk_set (blk_set (blk_far BKr.out (p := ⟨g, 1, none⟩) Nr.out _) 0 _) 1 _) 2 _) 3 _) 4 _)) Try.underlying67 rfl (by kernel_rfl)) rfl ?_
 all_goals exact ⟨_, by simp only [List.setIfInBounds_toArray, List.set_cons_zero, List.set_cons_succ]; rfl, Kd.R_mono (ok := fun k => (True ∧ k ≠ g) ∧ k ≠ gr) (Kd.R_drew (by (iterate 5 refine Kd.R_far (p := ⟨gr, _, none⟩) ?_ (fun _ hk => hk.2) _); exact Kd.R_far (p := ⟨g, 1, none⟩) (Kd.R_types (IsS87.apart HI.out HO.out (by decide)) BKr.out (by decide)) (fun _ hk => hk.1.2) _)) (fun _ _ => trivial), IsS87.drew (by (iterate 5 refine IsS87.far (p := ⟨gr, _, none⟩) ?_ (Ne.symm Nr.out) _); exact IsS87.set_1 HI.out _), Below.drew (by (iterate 5 refine Below.setCell (p := ⟨gr, _, none⟩) ?_ GMr.out _); exact Below.setCell (p := ⟨g, 1, none⟩) HB.out (IsS87.ge HI.out) _), keep_drew (by (iterate 5 refine keep_far (p := ⟨gr, _, none⟩) ?_ GEr.out _); exact KeepBut.set_ KP.out 1 _)⟩
theorem msg_tentry.calls (k g : Nat) (s : ByteArray) (b : Bool) (e0 e1 e2 : Int) (e3 : ByteArray) (e4 : List Int) (s2 : ByteArray) (b2 : Bool) (w0 w : World) (hI : IsS87 w0 w g s b) (hB : Below w0.heap.size w0 w) (h : msg_tentry.f k s b = some (e0, e1, e2, e3, e4, s2, b2)) :
  Calls Try.prog 57 #[.agg #[.pointer (some ⟨g, 0, none⟩)]] w fun e w' => ∃ v_ : Value, e = .returned (.agg #[.int .u64 e0, .int .u64 e1, .int .u8 e2, .string e3, v_]) ∧ Kd.R (Kd.int .i64) 3 w' w.heap.size (fun _ => True) v_ e4 ∧ IsS87 w0 w' g s2 b2 ∧ Below w0.heap.size w0 w' ∧ KeepBut w w' g none := by
 obtain ⟨⟨tx, s1, b1⟩, h1, H⟩ := Option.bind_eq_some_iff.mp h
 obtain ⟨⟨d0, d1, d2, d3, d4, why⟩, h2, H⟩ := Option.bind_eq_some_iff.mp H
 simp only [Option.some.injEq, Prod.mk.injEq] at H
 obtain ⟨rfl, rfl, rfl, rfl, rfl, rfl, rfl⟩ := H
 exact msg_tentry.walk k g s b tx s1 b1 d0 d1 d2 d3 d4 why w0 w hI hB h1 h2
theorem info67 : (Try.prog.info? 67).map (fun i => (i.zero, i.size, i.bytes)) = some (some (.agg #[.int .u64 0, .int .u64 0, .int .u8 0, .string (⟨#[]⟩ : ByteArray), .slice none 0 0]), 5, 64) := by kernel_rfl
theorem blk_types {w : World} {g g' : Nat} {cs cs' : Array Value} {t t' : TypeId} {fr fr' : Nat × Nat} (h : w.heap[g]? = some (.cells cs t fr)) (h' : w.heap[g']? = some (.cells cs' t' fr')) (ht : t ≠ t') : g ≠ g' := fun e => by
 subst e; rw [h] at h'; injection h' with h'; injection h' with _ h'; exact ht h'
set_option maxHeartbeats 80000000 in
set_option maxRecDepth 100000 in
theorem msg_m1.walk (k g gm ga base : Nat) (s : ByteArray) (b : Bool) (e0 e1 e2 : Int) (e3 : ByteArray) (e4 : List Int) (s2 : ByteArray) (b2 : Bool) (C : Array Value) (v : Value) (l : List S67) (w0 w : World) (Post : Ending → World → Prop) (hI : IsS87 w0 w g s b) (hB : Below w0.heap.size w0 w) (hm : w.heap[gm]? = some (.cells C 37 (0, 0))) (h6 : C[6]? = some v) (ha : w.heap[ga]? = some (.cells #[.pointer (some ⟨g, 0, none⟩)] 54 (0, 0))) (hO : Kd.S k67 67 w base (fun _ => True) v l) (hb0 : w0.heap.size ≤ base) (hbw : base ≤ w.heap.size) (hgm : w0.heap.size ≤ gm) (hl : l.length ≤ 1000) (h : msg_tentry.f k s b = some (e0, e1, e2, e3, e4, s2, b2))
  (hP : ∀ v' w', w'.heap[gm]? = some (.cells (C.setIfInBounds 6 v') 37 (0, 0)) → Kd.S k67 67 w' base (fun _ => True) v' (l ++ [⟨e0, e1, e2, e3, e4⟩]) → IsS87 w0 w' g s2 b2 → Below w0.heap.size w0 w' → Kept w w' (fun i => i = g ∨ i = gm ∨ some i = v.ownBlock) → Post (.returned (.tuple #[])) w') :
  Calls Try.prog 56 #[.pointer (some ⟨gm, 0, none⟩), .pointer (some ⟨ga, 0, none⟩)] w Post := by
 have HI := a_ hI
 have HB := a_ hB
 have HG := a_ hI.lt
 obtain ⟨A, c, hv⟩ := Kd.S_slice hO
 subst hv
 have HO := a_ hO
 have BKm := a_ hm
 have BKa := a_ ha
 have H6 := a_ h6
 have HL := a_ hl
 have HBB := a_ hb0
 have HBW := a_ hbw
 have GMm := a_ hgm
 have AE := a_ h
 have HP := a_ hP
 have hc6 := (blk_cell hm 6).trans h6
 have hf6 := blk_frozen hm 6
 have hca := (blk_cell ha 0).trans rfl
 have Nma := blk_types hm ha (by decide)
 have Ngm := a_ (IsS87.ne_blk hI hm (by decide))
 have Nga := a_ (IsS87.ne_blk hI ha (by decide))
 clear hI hB hO hm ha h6 hl hb0 hbw hgm h hP
 go_enter Try.func56, Try.ntmps56
 have HLT := a_ (Kd.S_lt HO.out)
 go_region_law (first | (go_simp; go_at_call 57; (with_reducible refine (msg_tentry.calls k g s b e0 e1 e2 e3 e4 _ _ w0 _ (IsS87.drew HI.out) HB.out.drew AE.out).mono ?_); rintro e w5 ⟨u, rfl, hr, hi, hb, hk⟩; obtain ⟨Au, cu, hvu⟩ := Kd.R_slice hr; subst hvu; have HR := a_ hr; have HJ := a_ hi; have HC := a_ hb; have HK := a_ hk; clear hr hi hb hk; have BKm2 := a_ (keep_blk HK.out Ngm.out.symm BKm.out); have HO5 := a_ (Kd.S_oldK (IsS87.apartS HI.out HO.out (by decide)) HK.out); have hd6 := (blk_cell BKm2.out 6).trans H6.out; have hg6 := blk_frozen BKm2.out 6; have hd7 := (blk_cell (blk_alloc BKm2.out (.cells #[.int .u64 e0, .int .u64 e1, .int .u8 e2, .string e3, .slice Au e4.length cu] 67 (0, 0))) 6).trans H6.out) | (refine Kd.S_append_step k67 base rfl (.tmp 3) (.tmp 6) 32 67 _ 64 rfl Try.underlying32 info67 rfl (by decide) (by decide) (.slice A l.length c) l ⟨e0, e1, e2, e3, e4⟩ [.int .u64 e0, .int .u64 e1, .int .u8 e2, .string e3, .slice Au e4.length cu] (fun _ => True) (fun k => w.heap.size ≤ k) (by simp [Act.eval, Act.put]) (by simp [Act.eval, Act.put]) ?hp ?hokp (fun _ _ => trivial) ?hO (Below.refl _ _) ?hbase ?hl ?_; (case hp => exact k67_mkM _ _ _ ⟨e0, e1, e2, e3, e4⟩ (Kd.R_lower (Kd.R_mono (Kd.R_bound HR.out) (fun _ hk => hk.2.1)) HBW.out)); (case hokp => exact fun k hk => ⟨trivial, fun e => Nat.lt_irrefl _ (Nat.lt_of_lt_of_le (HLT.out k e.symm) hk)⟩); (case hO => exact Kd.S_mono HO5.out (fun k hk => ⟨trivial, Nat.not_le_of_lt hk.2⟩)); (case hbase => exact Nat.le_trans HBW.out HK.out.1); (case hl => have := HL.out; omega); intro v1 w6 ho hb hg hat; obtain ⟨A1, c1, hv1⟩ := Kd.S_slice ho; rw [List.length_append, List.length_singleton] at hv1; subst hv1; have HO6 := a_ ho; have HB6 := a_ hb; have HG6 := a_ hg; clear ho hb hg hat; have BKm3 := a_ (blk_grown BKm2.out HG6.out (Kd.S_ne HO5.out BKm2.out (by decide))); have he6 := (blk_cell BKm3.out 6).trans H6.out; have hi6 := blk_frozen BKm3.out 6))
 all_goals refine bodyPost_end (results_none rfl _ _ _) rfl ?_
 all_goals exact HP.out _ _ (blk_set BKm3.out 6 _) (Kd.S_mono (ok := fun k => True ∧ k ≠ gm) (Kd.S_far (p := ⟨gm, 6, none⟩) (Kd.S_types HO6.out BKm3.out (by decide)) (fun _ hk => hk.2) _) (fun _ _ => trivial)) (IsS87.far (IsS87.grown HJ.out HG6.out (IsS87.own_neS HJ.out HO5.out (by decide))) (p := ⟨gm, 6, none⟩) Ngm.out _) (Below.setCell (p := ⟨gm, 6, none⟩) (below_weaken HC.out HBB.out HB6.out) GMm.out _) (Kept.setCell (p := ⟨gm, 6, none⟩) (Kept.of_grown HG6.out (Kept.of_keep (Kept.refl w _) HK.out (.inl (.inl rfl))) (fun k hk => .inl (.inr (.inr hk.symm)))) (.inl (.inr (.inl rfl))) _)
def msg_many.l0 : Nat → Int → ByteArray → Bool → List S67 → Option (List S67 × ByteArray × Bool)
 | 0, _, _, _, _ => none
 | k + 1, n, s, b, l => if n > 0 then (if b = true then some (l, s, b) else (if l.length ≤ 1000 then ((msg_tentry.f k s b).bind fun e => msg_many.l0 k (IntKind.u64.wrap (n - 1)) e.2.2.2.2.2.1 e.2.2.2.2.2.2 (l ++ [⟨e.1, e.2.1, e.2.2.1, e.2.2.2.1, e.2.2.2.2.1⟩])) else none)) else some (l, s, b)
def msg_many.f (k : Nat) (s : ByteArray) (b : Bool) : Option (List S67 × ByteArray × Bool) := (wal_Taker_Number.f k s b).bind fun x => msg_many.l0 k x.1 x.2.1 (x.2.2 || decide (x.1 > 8)) []
theorem msg_many.mono_l : ∀ k n s b l, LeO (msg_many.l0 k n s b l) (msg_many.l0 (k + 1) n s b l)
 | 0 => fun _ _ _ _ r h => by simp [msg_many.l0] at h
 | k + 1 => by
  have ih := msg_many.mono_l k
  intro n s b l
  unfold msg_many.l0
  repeat' with_reducible first | apply msg_tentry.mono | exact ih _ _ _ _ | apply LeO.refl | apply LeO.none | apply LeO.ite | refine LeO.bind ?_ (fun _ => ?_)
theorem msg_many.mono : ∀ a0 a1 k, LeO (msg_many.f k a0 a1) (msg_many.f (k + 1) a0 a1) := by
 intro a0 a1 k
 unfold msg_many.f
 repeat' with_reducible first | apply wal_Taker_Number.mono | exact msg_many.mono_l _ _ _ _ _ | refine LeO.bind ?_ (fun _ => ?_)
set_option maxHeartbeats 80000000 in
set_option maxRecDepth 100000 in
theorem msg_many.walk (k g gm ga : Nat) (s : ByteArray) (b : Bool) (r1 : List S67) (r2 : ByteArray) (r3 : Bool) (C : Array Value) (w0 w : World) (Post : Ending → World → Prop) (hI : IsS87 w0 w g s b) (hB : Below w0.heap.size w0 w) (hm : w.heap[gm]? = some (.cells (C.setIfInBounds 6 (.slice none 0 0)) 37 (0, 0))) (h6 : 6 < C.size) (ha : w.heap[ga]? = some (.cells #[.pointer (some ⟨g, 0, none⟩)] 54 (0, 0))) (hgm : w0.heap.size ≤ gm) (h : msg_many.f k s b = some (r1, r2, r3))
  (hP : ∀ v' w', w'.heap[gm]? = some (.cells (C.setIfInBounds 6 v') 37 (0, 0)) → Kd.S k67 67 w' w.heap.size (fun _ => True) v' r1 → IsS87 w0 w' g r2 r3 → Below w0.heap.size w0 w' → Kept w w' (fun i => i = g ∨ i = gm) → Post (.returned (.tuple #[])) w') :
  Calls Try.prog 55 #[.pointer (some ⟨g, 0, none⟩), .int .u64 8, .func (.func 56) #[] #[.pointer (some ⟨gm, 0, none⟩), .pointer (some ⟨ga, 0, none⟩)]] w Post := by
 obtain ⟨⟨n, s1, b1⟩, h1, H⟩ := Option.bind_eq_some_iff.mp h
 replace H : msg_many.l0 k n s1 (b1 || decide (n > 8)) [] = some (r1, r2, r3) := H
 have HI := a_ hI
 have HB := a_ hB
 have HB0 := a_ hB.size
 have BKm := a_ hm
 have BKa := a_ ha
 have H6 := a_ h6
 have GMm := a_ hgm
 have A1 := a_ h1
 have HC0 := a_ H
 have HP := a_ hP
 have Nma := a_ (blk_types hm ha (by decide))
 have Ngm := a_ (IsS87.ne_blk hI hm (by decide))
 have Nga := a_ (IsS87.ne_blk hI ha (by decide))
 clear hI hB hm ha h6 hgm h h1 H hP
 go_enter Try.func55, Try.ntmps55
 go_upto_region 1 with (first | (go_at_call 53; (with_reducible refine (wal_Taker_Number.calls k g s b n s1 b1 w0 _ HI.out HB.out A1.out).mono ?_); rintro e w4 ⟨rfl, hi, hb, hk⟩; replace HI := a_ hi; replace HB := a_ hb; have KP := a_ hk; clear hi hb hk))
 (try simp only [Act.put, List.setIfInBounds_toArray, List.set_cons_zero, List.set_cons_succ])
 go_cut [] (fun wc => Aside0 (IsS87 w0 wc g s1 (b1 || decide (n > 8))) ∧ Aside0 (Below w0.heap.size w0 wc) ∧ Aside0 (KeepBut w wc g none))
 case first =>
  obtain ⟨hs0, hs1, hf0, hf1⟩ := isS_cell0 HI.out
  cases b1
  all_goals cases hn : decide (n > 8)
  all_goals go_wp2
  all_goals go_meet
  all_goals (try rw [hn])
  all_goals exact ⟨⟨IsS87.set_1 HI.out _⟩, ⟨Below.setCell (p := ⟨g, 1, none⟩) HB.out (IsS87.ge HI.out) _⟩, ⟨KeepBut.set_ KP.out 1 _⟩⟩
 case rest =>
  obtain ⟨HI, HB, KP⟩ := hcut
  generalize (b1 || decide (n > 8)) = bb at *
  go_wp2
  go_loopg [6] k (fun kq v6 w' => ∃ (n : Int) (s : ByteArray) (b : Bool) (l : List S67) (v : Value), v6 = .int .u64 n ∧ Aside0 (msg_many.l0 kq n s b l = some (r1, r2, r3)) ∧ Aside0 (kq ≤ k) ∧ Aside0 (w'.heap[gm]? = some (.cells (C.setIfInBounds 6 v) 37 (0, 0))) ∧ Aside0 (Kd.S k67 67 w' w.heap.size (fun _ => True) v l) ∧ Aside0 (IsS87 w0 w' g s b) ∧ Aside0 (Below w0.heap.size w0 w') ∧ Aside0 (Kept w w' (fun i => i = g ∨ i = gm)))
  case atStart => exact ⟨n, s1, bb, [], _, rfl, HC0, ⟨Nat.le_refl _⟩, ⟨keep_blk KP.out Ngm.out.symm BKm.out⟩, ⟨Kd.S_nil _ _ _ _ _⟩, HI, HB, ⟨Kept.of_keep (Kept.refl w _) KP.out (.inl (.inl rfl))⟩⟩
  case round =>
   clear HI HB KP HC0
   obtain ⟨n, s, b, l, v, rfl, HA, HK2, BKm2, HO, HI, HB, KP⟩ := hrel
   cases gk with
   | zero => exact absurd HA.out (by simp [msg_many.l0])
   | succ k2 =>
    have H := HA.out
    clear HA
    simp only [msg_many.l0] at H
    obtain ⟨hs0, hs1, hf0, hf1⟩ := isS_cell0 HI.out
    by_cases c8 : n > 0
    ·rw [if_pos c8] at H
     have c8b0 : decide (0 < n) = true := decide_eq_true c8
     clear c8
     cases b
     ·rw [if_neg (by decide)] at H
      by_cases c9 : l.length ≤ 1000
      ·rw [if_pos c9] at H
       obtain ⟨⟨e0, e1, e2, e3, e4, s2, b2⟩, AE, H⟩ := Option.bind_eq_some_iff.mp H
       replace H : msg_many.l0 k2 (IntKind.u64.wrap (n - 1)) s2 b2 (l ++ [⟨e0, e1, e2, e3, e4⟩]) = some (r1, r2, r3) := H
       have AE := a_ AE
       have H' := a_ H
       have LN := a_ c9
       clear H c9
       go_wp2_with (go_at_call 56; (refine msg_m1.walk k2 g gm ga w.heap.size s false e0 e1 e2 e3 e4 s2 b2 (C.setIfInBounds 6 v) v l w0 _ _ HI.out HB.out BKm2.out ?h6 ?ha HO.out HB0.out KP.out.1 GMm.out LN.out AE.out ?_); (case h6 => exact Array.getElem?_setIfInBounds_self_of_lt H6.out); (case ha => exact (KP.out.2 ga (blk_lt BKa.out) (fun h => h.elim (fun e => Nga.out e.symm) (fun e => Nma.out e.symm))).trans BKa.out); intro v' w5 hm' ho hi hb hk; rw [Array.setIfInBounds_setIfInBounds] at hm'; replace BKm2 := a_ hm'; replace KP := a_ (Kept.then_ KP.out hk (fun i hi => by rcases hi with h | h | h; exact .inl (.inl h); exact .inl (.inr h); exact .inr (Kd.S_base HO.out i h.symm))); replace HO := a_ ho; replace HI := a_ hi; replace HB := a_ hb; clear hm' ho hi hb hk)
       go_roundg k2
       case measure => have := HK2.out; omega
       case rel => exact ⟨_, s2, b2, _, v', rfl, H', ⟨by have := HK2.out; omega⟩, BKm2, HO, HI, HB, KP⟩
      ·rw [if_neg c9] at H
       exact absurd H (by simp)
     ·rw [if_pos rfl] at H
      simp only [Option.some.injEq, Prod.mk.injEq] at H
      obtain ⟨rfl, rfl, rfl⟩ := H
      go_wp2
      refine bodyPost_end (results_none rfl _ _ _) rfl ?_
      exact HP.out _ _ BKm2.out HO.out HI.out HB.out KP.out
    ·rw [if_neg c8] at H
     have c8b0 : decide (0 < n) = false := decide_eq_false c8
     clear c8
     simp only [Option.some.injEq, Prod.mk.injEq] at H
     obtain ⟨rfl, rfl, rfl⟩ := H
     go_wp2
     refine bodyPost_end (results_none rfl _ _ _) rfl ?_
     exact HP.out _ _ BKm2.out HO.out HI.out HB.out KP.out
theorem msg_tmsg.fin {w w0 w1 : World} {g gr : Nat} {s : ByteArray} {b : Bool} {V6 V9 : Value} {l6 : List S67} {l9 : List Int} {cs : Array Value} (HO6 : Kd.S k67 67 w1 w.heap.size (fun i => some i ≠ V9.ownBlock) V6 l6) (HO9 : Kd.R (Kd.int .i64) 3 w1 w.heap.size (fun _ => True) V9 l9) (HI : IsS87 w0 w1 g s b) (HB : Below w0.heap.size w0 w1) (KP : KeepBut w w1 g none) (BKr : w1.heap[gr]? = some (.cells cs 37 (0, 0))) (Nr : gr ≠ g) (GMr : w0.heap.size ≤ gr) (GEr : w.heap.size ≤ gr) (u0 u1 u2 u3 u4 u5 u6 u7 u8 u9 u10 : Value) :
  Kd.S k67 67 (World.setCell (World.setCell (World.setCell (World.setCell (World.setCell (World.setCell (World.setCell (World.setCell (World.setCell (World.setCell (World.setCell w1 ⟨gr, 0, none⟩ u0) ⟨gr, 1, none⟩ u1) ⟨gr, 2, none⟩ u2) ⟨gr, 3, none⟩ u3) ⟨gr, 4, none⟩ u4) ⟨gr, 5, none⟩ u5) ⟨gr, 6, none⟩ u6) ⟨gr, 7, none⟩ u7) ⟨gr, 8, none⟩ u8) ⟨gr, 9, none⟩ u9) ⟨gr, 10, none⟩ u10) w.heap.size (fun i => some i ≠ V9.ownBlock) V6 l6 ∧ Kd.R (Kd.int .i64) 3 (World.setCell (World.setCell (World.setCell (World.setCell (World.setCell (World.setCell (World.setCell (World.setCell (World.setCell (World.setCell (World.setCell w1 ⟨gr, 0, none⟩ u0) ⟨gr, 1, none⟩ u1) ⟨gr, 2, none⟩ u2) ⟨gr, 3, none⟩ u3) ⟨gr, 4, none⟩ u4) ⟨gr, 5, none⟩ u5) ⟨gr, 6, none⟩ u6) ⟨gr, 7, none⟩ u7) ⟨gr, 8, none⟩ u8) ⟨gr, 9, none⟩ u9) ⟨gr, 10, none⟩ u10) w.heap.size (fun _ => True) V9 l9 ∧ IsS87 w0 (World.setCell (World.setCell (World.setCell (World.setCell (World.setCell (World.setCell (World.setCell (World.setCell (World.setCell (World.setCell (World.setCell w1 ⟨gr, 0, none⟩ u0) ⟨gr, 1, none⟩ u1) ⟨gr, 2, none⟩ u2) ⟨gr, 3, none⟩ u3) ⟨gr, 4, none⟩ u4) ⟨gr, 5, none⟩ u5) ⟨gr, 6, none⟩ u6) ⟨gr, 7, none⟩ u7) ⟨gr, 8, none⟩ u8) ⟨gr, 9, none⟩ u9) ⟨gr, 10, none⟩ u10) g s b ∧ Below w0.heap.size w0 (World.setCell (World.setCell (World.setCell (World.setCell (World.setCell (World.setCell (World.setCell (World.setCell (World.setCell (World.setCell (World.setCell w1 ⟨gr, 0, none⟩ u0) ⟨gr, 1, none⟩ u1) ⟨gr, 2, none⟩ u2) ⟨gr, 3, none⟩ u3) ⟨gr, 4, none⟩ u4) ⟨gr, 5, none⟩ u5) ⟨gr, 6, none⟩ u6) ⟨gr, 7, none⟩ u7) ⟨gr, 8, none⟩ u8) ⟨gr, 9, none⟩ u9) ⟨gr, 10, none⟩ u10) ∧ KeepBut w (World.setCell (World.setCell (World.setCell (World.setCell (World.setCell (World.setCell (World.setCell (World.setCell (World.setCell (World.setCell (World.setCell w1 ⟨gr, 0, none⟩ u0) ⟨gr, 1, none⟩ u1) ⟨gr, 2, none⟩ u2) ⟨gr, 3, none⟩ u3) ⟨gr, 4, none⟩ u4) ⟨gr, 5, none⟩ u5) ⟨gr, 6, none⟩ u6) ⟨gr, 7, none⟩ u7) ⟨gr, 8, none⟩ u8) ⟨gr, 9, none⟩ u9) ⟨gr, 10, none⟩ u10) g none := by
 refine ⟨Kd.S_mono (ok := fun i => some i ≠ V9.ownBlock ∧ i ≠ gr) ?_ (fun _ hk => hk.1), Kd.R_mono (ok := fun i => True ∧ i ≠ gr) ?_ (fun _ _ => trivial), ?_, ?_, ?_⟩
 · (iterate 11 refine Kd.S_far (p := ⟨gr, _, none⟩) ?_ (fun _ hk => hk.2) _); exact Kd.S_types HO6 BKr (by decide)
 · (iterate 11 refine Kd.R_far (p := ⟨gr, _, none⟩) ?_ (fun _ hk => hk.2) _); exact Kd.R_types HO9 BKr (by decide)
 · (iterate 11 refine IsS87.far (p := ⟨gr, _, none⟩) ?_ (Ne.symm Nr) _); exact HI
 · (iterate 11 refine Below.setCell (p := ⟨gr, _, none⟩) ?_ GMr _); exact HB
 · (iterate 11 refine keep_far (p := ⟨gr, _, none⟩) ?_ GEr _); exact KP
def msg_tmsg.f (k : Nat) (s : ByteArray) (b : Bool) : Option (Int × Int × Int × Int × Int × Bool × List S67 × Int × Int × List Int × ByteArray × ByteArray × Bool) := (wal_Taker_Number.f k s b).bind fun x => (wal_Taker_Number.f k x.2.1 x.2.2).bind fun y => (if (if 6 < x.1 then 6 else x.1) % 256 = 1 then ((wal_Taker_Number.f k y.2.1 y.2.2).bind fun z => (wal_Taker_Number.f k z.2.1 z.2.2).bind fun u => some (1, y.1, z.1, u.1, 0, false, [], 0, 0, [], ⟨#[]⟩, u.2.1, u.2.2)) else (if (if 6 < x.1 then 6 else x.1) % 256 = 2 then ((wal_Taker_Number.f k y.2.1 y.2.2).bind fun z => some (2, y.1, 0, 0, 0, z.1 == 1, [], 0, 0, [], ⟨#[]⟩, z.2.1, (z.2.2 || decide (z.1 > 1)))) else (if (if 6 < x.1 then 6 else x.1) % 256 = 3 then ((wal_Taker_Number.f k y.2.1 y.2.2).bind fun z => (wal_Taker_Number.f k z.2.1 z.2.2).bind fun u => (wal_Taker_Number.f k u.2.1 u.2.2).bind fun q => (msg_many.f k q.2.1 q.2.2).bind fun e => some (3, y.1, z.1, u.1, q.1, false, e.1, 0, 0, [], ⟨#[]⟩, e.2.1, e.2.2)) else (if (if 6 < x.1 then 6 else x.1) % 256 = 4 then ((wal_Taker_Number.f k y.2.1 y.2.2).bind fun z => (wal_Taker_Number.f k z.2.1 (z.2.2 || decide (z.1 > 1))).bind fun u => some (4, y.1, u.1, 0, 0, z.1 == 1, [], 0, 0, [], ⟨#[]⟩, u.2.1, u.2.2)) else (if (if 6 < x.1 then 6 else x.1) % 256 = 5 then ((wal_Taker_Text.f k y.2.1 y.2.2).bind fun z => (snap_Decode.f k z.1).bind fun q => some (5, y.1, 0, 0, 0, false, [], q.1, q.2.1, q.2.2.1, q.2.2.2.1, z.2.1, (z.2.2 || (q.2.2.2.2 != 0)))) else some ((if 6 < x.1 then 6 else x.1) % 256, y.1, 0, 0, 0, false, [], 0, 0, [], ⟨#[]⟩, y.2.1, y.2.2))))))
theorem msg_tmsg.mono : ∀ a0 a1 k, LeO (msg_tmsg.f k a0 a1) (msg_tmsg.f (k + 1) a0 a1) := by
 intro a0 a1 k
 unfold msg_tmsg.f
 repeat' with_reducible first | apply wal_Taker_Number.mono | apply wal_Taker_Text.mono | apply snap_Decode.mono | apply msg_many.mono | apply LeO.refl | apply LeO.none | apply LeO.ite | refine LeO.bind ?_ (fun _ => ?_)
set_option maxHeartbeats 80000000 in
set_option maxRecDepth 100000 in
theorem msg_tmsg.walk (k g : Nat) (s : ByteArray) (b : Bool) (r1 r2 r3 r4 r5 : Int) (r6 : Bool) (r7 : List S67) (r8 r9 : Int) (r10 : List Int) (r11 r12 : ByteArray) (r13 : Bool) (w0 w : World) (Post : Ending → World → Prop) (hI : IsS87 w0 w g s b) (hB : Below w0.heap.size w0 w) (h : msg_tmsg.f k s b = some (r1, r2, r3, r4, r5, r6, r7, r8, r9, r10, r11, r12, r13))
  (hP : ∀ v6 v9 w', Kd.S k67 67 w' w.heap.size (fun i => some i ≠ v9.ownBlock) v6 r7 → Kd.R (Kd.int .i64) 3 w' w.heap.size (fun _ => True) v9 r10 → IsS87 w0 w' g r12 r13 → Below w0.heap.size w0 w' → KeepBut w w' g none → Post (.returned (.agg #[.int .u8 r1, .int .u64 r2, .int .u64 r3, .int .u64 r4, .int .u64 r5, .bool r6, v6, .int .u64 r8, .int .u64 r9, v9, .string r11])) w') :
  Calls Try.prog 28 #[.agg #[.pointer (some ⟨g, 0, none⟩)]] w Post := by
 obtain ⟨⟨n, s1, b1⟩, h1, H1⟩ := Option.bind_eq_some_iff.mp h
 obtain ⟨⟨t, s2, b2⟩, h2, H⟩ := Option.bind_eq_some_iff.mp H1
 clear H1
 have HI := a_ hI
 have HB := a_ hB
 have HG := a_ hI.lt
 have KP := a_ (KeepBut.refl w g none)
 have A1 := a_ h1
 have A2 := a_ h2
 have HP := a_ hP
 dsimp only at H
 clear hI hB h1 h2 h hP
 go_enter Try.func28, Try.ntmps28
 go_upto_region 3 with (first | ((with_reducible refine gd_ 1 ?_); refine bx_ 1 #[.pointer (some ⟨g, 0, none⟩)] 54 ?_; intro ga hg w_ hbox hb; have BKa := a_ hbox; have Na := a_ (show ga ≠ g from by rw [hg]; exact Nat.ne_of_gt (Nat.lt_of_lt_of_le HG.out (by first | exact Nat.le_refl _ | exact KP.out.1))); have GEa := a_ (show w.heap.size ≤ ga from by rw [hg]; first | exact Nat.le_refl _ | exact KP.out.1); have GMa := a_ (show w0.heap.size ≤ ga from by rw [hg]; exact HB.out.size);  replace KP := a_ (KP.out.trans (KeepBut.of_below hb g none) (.inl rfl)); replace HI := a_ (IsS87.below HI.out hb); replace HB := a_ (HB.out.trans (below_up hb HB.out.size)); clear hb hbox hg; have hca_a := (blk_cell BKa.out 0).trans rfl) | ((with_reducible refine gd_ 2 ?_); refine bx_ 2 #[.int .u8 0, .int .u64 0, .int .u64 0, .int .u64 0, .int .u64 0, .bool false, .slice none 0 0, .int .u64 0, .int .u64 0, .slice none 0 0, .string (⟨#[]⟩ : ByteArray)] 37 ?_; intro gr hg w_ hbox hb; have BKr := a_ hbox; have Nr := a_ (show gr ≠ g from by rw [hg]; exact Nat.ne_of_gt (Nat.lt_of_lt_of_le HG.out (by first | exact Nat.le_refl _ | exact KP.out.1))); have GEr := a_ (show w.heap.size ≤ gr from by rw [hg]; first | exact Nat.le_refl _ | exact KP.out.1); have GMr := a_ (show w0.heap.size ≤ gr from by rw [hg]; exact HB.out.size);  have NBa_r := nB_ hg BKa; have NBr_a := nC_ hg BKa; replace BKa := bB_ BKa hb; replace KP := a_ (KP.out.trans (KeepBut.of_below hb g none) (.inl rfl)); replace HI := a_ (IsS87.below HI.out hb); replace HB := a_ (HB.out.trans (below_up hb HB.out.size)); clear hb hbox hg; have hca_r := (blk_cell BKa.out 0).trans rfl) | (go_at_call 53; (with_reducible refine (wal_Taker_Number.calls k g s b n s1 _ w0 _ HI.out HB.out A1.out).mono ?_); rintro e w4 ⟨rfl, hi, hb, hk⟩; replace HI := a_ hi; replace HB := a_ hb; replace BKa := a_ (keep_blk hk Na.out BKa.out); replace BKr := a_ (keep_blk hk Nr.out BKr.out); replace KP := a_ (KP.out.trans hk (.inl rfl)); clear hi hb hk; have hcn_1 := (blk_cell BKa.out 0).trans rfl) | (go_at_call 53; (with_reducible refine (wal_Taker_Number.calls k g s1 b1 t s2 _ w0 _ HI.out HB.out A2.out).mono ?_); rintro e w4 ⟨rfl, hi, hb, hk⟩; replace HI := a_ hi; replace HB := a_ hb; replace BKa := a_ (keep_blk hk Na.out BKa.out); replace BKr := a_ (keep_blk hk Nr.out BKr.out); replace KP := a_ (KP.out.trans hk (.inl rfl)); clear hi hb hk; have hcn_2 := (blk_cell BKa.out 0).trans rfl) | ((with_reducible refine gd_ 4 ?_); refine bx_ 4 #[.int .u8 0, .int .u64 0, .int .u64 0, .int .u64 0, .int .u64 0, .bool false, .slice none 0 0, .int .u64 0, .int .u64 0, .slice none 0 0, .string (⟨#[]⟩ : ByteArray)] 37 ?_; intro gm hg w_ hbox hb; have BKm := a_ hbox; have Nm := a_ (show gm ≠ g from by rw [hg]; exact Nat.ne_of_gt (Nat.lt_of_lt_of_le HG.out (by first | exact Nat.le_refl _ | exact KP.out.1))); have GEm := a_ (show w.heap.size ≤ gm from by rw [hg]; first | exact Nat.le_refl _ | exact KP.out.1); have GMm := a_ (show w0.heap.size ≤ gm from by rw [hg]; exact HB.out.size);  have NBa_m := nB_ hg BKa; have NBm_a := nC_ hg BKa; have NBr_m := nB_ hg BKr; have NBm_r := nC_ hg BKr; replace BKa := bB_ BKa hb; replace BKr := bB_ BKr hb; replace KP := a_ (KP.out.trans (KeepBut.of_below hb g none) (.inl rfl)); replace HI := a_ (IsS87.below HI.out hb); replace HB := a_ (HB.out.trans (below_up hb HB.out.size)); clear hb hbox hg; have hca_m := (blk_cell BKa.out 0).trans rfl; have hnam := NBa_m.out; have hnma := NBm_a.out; have hnrm := NBr_m.out; have hnmr := NBm_r.out; have hcm_0 := (blk_cell BKm.out 0).trans rfl; have hfm_0 := blk_frozen BKm.out 0; have hcm_1 := (blk_cell BKm.out 1).trans rfl; have hfm_1 := blk_frozen BKm.out 1; have hcm_2 := (blk_cell BKm.out 2).trans rfl; have hfm_2 := blk_frozen BKm.out 2; have hcm_3 := (blk_cell BKm.out 3).trans rfl; have hfm_3 := blk_frozen BKm.out 3; have hcm_4 := (blk_cell BKm.out 4).trans rfl; have hfm_4 := blk_frozen BKm.out 4; have hcm_5 := (blk_cell BKm.out 5).trans rfl; have hfm_5 := blk_frozen BKm.out 5; have hcm_6 := (blk_cell BKm.out 6).trans rfl; have hfm_6 := blk_frozen BKm.out 6; have hcm_7 := (blk_cell BKm.out 7).trans rfl; have hfm_7 := blk_frozen BKm.out 7; have hcm_8 := (blk_cell BKm.out 8).trans rfl; have hfm_8 := blk_frozen BKm.out 8; have hcm_9 := (blk_cell BKm.out 9).trans rfl; have hfm_9 := blk_frozen BKm.out 9; have hcm_10 := (blk_cell BKm.out 10).trans rfl; have hfm_10 := blk_frozen BKm.out 10))
 generalize (if 6 < n then 6 else n) % 256 = kd at *
 generalize (if 6 < n then 6 else n) = m6 at *
 refine gen_world (fun w1 => w1.heap[gm]? = some (.cells #[.int .u8 kd, .int .u64 t, .int .u64 0, .int .u64 0, .int .u64 0, .bool false, .slice none 0 0, .int .u64 0, .int .u64 0, .slice none 0 0, .string (⟨#[]⟩ : ByteArray)] 37 (0, 0)) ∧ w1.heap[gr]? = some (.cells #[.int .u8 0, .int .u64 0, .int .u64 0, .int .u64 0, .int .u64 0, .bool false, .slice none 0 0, .int .u64 0, .int .u64 0, .slice none 0 0, .string (⟨#[]⟩ : ByteArray)] 37 (0, 0)) ∧ w1.heap[ga]? = some (.cells #[.pointer (some ⟨g, 0, none⟩)] 54 (0, 0)) ∧ IsS87 w0 w1 g s2 b2 ∧ Below w0.heap.size w0 w1 ∧ KeepBut w w1 g none) ⟨?_, (by (iterate 11 refine blk_far (p := ⟨gm, _, none⟩) ?_ NBr_m.out _); exact BKr.out), (by (iterate 11 refine blk_far (p := ⟨gm, _, none⟩) ?_ NBa_m.out _); exact BKa.out), (by (iterate 11 refine IsS87.far (p := ⟨gm, _, none⟩) ?_ (Ne.symm Nm.out) _); exact HI.out), (by (iterate 11 refine Below.setCell (p := ⟨gm, _, none⟩) ?_ GMm.out _); exact HB.out), (by (iterate 11 refine keep_far (p := ⟨gm, _, none⟩) ?_ GEm.out _); exact KP.out)⟩ ?_
 · refine Eq.trans (blk_set (blk_set (blk_set (blk_set (blk_set (blk_set (blk_set (blk_set (blk_set (blk_set (blk_set BKm.out 0 _) 1 _) 2 _) 3 _) 4 _) 5 _) 6 _) 7 _) 8 _) 9 _) 10 _) ?_
   simp only [List.setIfInBounds_toArray, List.set_cons_zero, List.set_cons_succ]
 clear BKm BKr BKa HI HB KP A1 A2 hca_a hca_r hca_m hcn_1 hcn_2 hcm_0 hfm_0 hcm_1 hfm_1 hcm_2 hfm_2 hcm_3 hfm_3 hcm_4 hfm_4 hcm_5 hfm_5 hcm_6 hfm_6 hcm_7 hfm_7 hcm_8 hfm_8 hcm_9 hfm_9 hcm_10 hfm_10
 rintro w1 ⟨BKm, BKr, BKa, HI, HB, KP⟩
 have hx0 := (blk_cell BKm 0).trans rfl
 replace BKm := a_ BKm
 replace BKr := a_ BKr
 replace BKa := a_ BKa
 replace HI := a_ HI
 replace HB := a_ HB
 replace KP := a_ KP
 by_cases c1 : kd = 1
 focus
  subst c1
  rw [if_pos rfl] at H
  replace H := Option.bind_eq_some_iff.mp H
  obtain ⟨⟨x3, s3, b3⟩, h3, H⟩ := H
  dsimp only at H
  replace H := Option.bind_eq_some_iff.mp H
  obtain ⟨⟨x4, s4, b4⟩, h4, H⟩ := H
  dsimp only at H
  simp only [Option.some.injEq, Prod.mk.injEq] at H
  obtain ⟨rfl, rfl, rfl, rfl, rfl, rfl, rfl, rfl, rfl, rfl, rfl, rfl, rfl⟩ := H
  have A3 := a_ h3
  have A4 := a_ h4
  clear h3 h4
  go_upto_region 5 with fail
  replace BKm := a_ (blk_drew BKm.out)
  replace BKr := a_ (blk_drew BKr.out)
  replace BKa := a_ (blk_drew BKa.out)
  replace HI := a_ HI.out.drew
  replace HB := a_ HB.out.drew
  replace KP := a_ (keep_drew KP.out)
  refine start_ (n := 16) (S := fun w' => w'.cell? ⟨ga, 0, none⟩ = some (.pointer (some ⟨g, 0, none⟩))) (ds := []) #[false, false, false, false, false, false, false, false, false, false, false, false, false, false, false, false] (by kernel_rfl) rfl rfl ((blk_cell BKa.out 0).trans rfl) (fun hHeld => ?_)
  refine pk_ 0 (some 27) ?_
  refine pk_ 6 (some 33) ?_
  refine tk_ 1 (some 28) hHeld ?_
  refine pk_ 2 (some 29) ?_
  refine pk_ 3 (some 30) ?_
  refine pk_ 4 (some 31) ?_
  refine tk_ 7 (some 34) hHeld ?_
  refine pk_ 8 (some 35) ?_
  refine pk_ 9 (some 36) ?_
  refine pk_ 10 (some 37) ?_
  refine ok_ 5 (some 32) (fun K hK => ?_)
  refine goes_ Try.func53 (by kernel_rfl) rfl #[.pointer (some ⟨g, 0, none⟩)] (by rfl) rfl rfl (by simp only [List.map_toArray, List.map_cons, List.map_nil]; rfl) ?_
  with_reducible refine (wal_Taker_Number.calls k g s2 b2 x3 s3 b3 w0 _ HI.out HB.out A3.out).mono ?_
  rintro e w4 ⟨rfl, hi, hb, hk⟩
  refine ⟨_, rfl, ?_⟩
  replace HI := a_ hi
  replace HB := a_ hb
  replace BKa := a_ (keep_blk hk Na.out BKa.out)
  replace BKr := a_ (keep_blk hk Nr.out BKr.out)
  replace BKm := a_ (keep_blk hk Nm.out BKm.out)
  replace KP := a_ (KP.out.trans hk (.inl rfl))
  clear hi hb hk
  refine hK.out _ _ ((blk_cell BKa.out 0).trans rfl) (fun hHeld => ?_)
  clear hK K
  refine norm_ (a' := ?_) ?_ ?_
  rotate_left
  · show Act.put _ (some 32) _ = _
    simp only [Act.put, List.setIfInBounds_toArray, List.set_cons_zero, List.set_cons_succ, i64_w, i32_w]
    rfl
  refine pk_ 12 (some 39) ?_
  refine ok_ 11 (some 38) (fun K hK => ?_)
  refine goes_ Try.func53 (by kernel_rfl) rfl #[.pointer (some ⟨g, 0, none⟩)] (by rfl) rfl rfl (by simp only [List.map_toArray, List.map_cons, List.map_nil]; rfl) ?_
  with_reducible refine (wal_Taker_Number.calls k g s3 b3 x4 s4 b4 w0 _ HI.out HB.out A4.out).mono ?_
  rintro e w4 ⟨rfl, hi, hb, hk⟩
  refine ⟨_, rfl, ?_⟩
  replace HI := a_ hi
  replace HB := a_ hb
  replace BKa := a_ (keep_blk hk Na.out BKa.out)
  replace BKr := a_ (keep_blk hk Nr.out BKr.out)
  replace BKm := a_ (keep_blk hk Nm.out BKm.out)
  replace KP := a_ (KP.out.trans hk (.inl rfl))
  clear hi hb hk
  have hz_2 := (blk_cell BKm.out 2).trans rfl
  have hz_3 := (blk_cell BKm.out 3).trans rfl
  have hy_2 := blk_frozen BKm.out 2
  have hy_3 := blk_frozen BKm.out 3
  refine hK.out _ _ ((blk_cell BKa.out 0).trans rfl) (fun hHeld => ?_)
  clear hK K
  refine norm_ (a' := ?_) ?_ ?_
  rotate_left
  · show Act.put _ (some 38) _ = _
    simp only [Act.put, List.setIfInBounds_toArray, List.set_cons_zero, List.set_cons_succ, i64_w, i32_w]
    rfl
  refine ok_ 13 (none) (fun K hK => ?_)
  refine skip_ (w1 := ?_) (by rfl) rfl ?_ ?_
  rotate_left
  · go_simp
    rfl
  refine hK.out _ _ ((blk_cell (blk_far BKa.out (p := ⟨gm, _, none⟩) NBa_m.out _) 0).trans rfl) (fun hHeld => ?_)
  clear hK K
  refine pk_ 14 (some 40) ?_
  refine ok_ 15 (none) (fun K hK => ?_)
  refine skip_ (w1 := ?_) (by rfl) rfl ?_ ?_
  rotate_left
  · go_simp
    rfl
  refine hK.out _ _ ((blk_cell (blk_far (blk_far BKa.out (p := ⟨gm, _, none⟩) NBa_m.out _) (p := ⟨gm, _, none⟩) NBa_m.out _) 0).trans rfl) (fun hHeld => ?_)
  clear hK K
  refine done_ (by kernel_rfl) ?_
  go_upto_region 17 with fail
  refine gen_world (fun w1 => w1.heap[gm]? = some (.cells #[.int .u8 1, .int .u64 t, .int .u64 x3, .int .u64 x4, .int .u64 0, .bool false, .slice none 0 0, .int .u64 0, .int .u64 0, .slice none 0 0, .string (⟨#[]⟩ : ByteArray)] 37 (0, 0)) ∧ w1.heap[gr]? = some (.cells #[.int .u8 0, .int .u64 0, .int .u64 0, .int .u64 0, .int .u64 0, .bool false, .slice none 0 0, .int .u64 0, .int .u64 0, .slice none 0 0, .string (⟨#[]⟩ : ByteArray)] 37 (0, 0)) ∧ IsS87 w0 w1 g _ _ ∧ Below w0.heap.size w0 w1 ∧ KeepBut w w1 g none) ⟨?_, (by (iterate 2 refine blk_far (p := ⟨gm, _, none⟩) ?_ NBr_m.out _); exact BKr.out), (by (iterate 2 refine IsS87.far (p := ⟨gm, _, none⟩) ?_ (Ne.symm Nm.out) _); exact HI.out), (by (iterate 2 refine Below.setCell (p := ⟨gm, _, none⟩) ?_ GMm.out _); exact HB.out), (by (iterate 2 refine keep_far (p := ⟨gm, _, none⟩) ?_ GEm.out _); exact KP.out)⟩ ?_
  · refine Eq.trans (blk_set (blk_set BKm.out 2 _) 3 _) ?_
    simp only [List.setIfInBounds_toArray, List.set_cons_zero, List.set_cons_succ]
  clear BKm BKr BKa HI HB KP
  rintro w1 ⟨BKm, BKr, HI, HB, KP⟩
  have HO6 := a_ (Kd.S_nil k67 67 w1 w.heap.size (fun i => some i ≠ (Value.slice none 0 0).ownBlock))
  have HO9 := a_ (Kd.R_nil (Kd.int .i64) 3 w1 w.heap.size (fun _ => True))
 rotate_left
 rw [if_neg c1] at H
 by_cases c2 : kd = 2
 focus
  subst c2
  rw [if_pos rfl] at H
  replace H := Option.bind_eq_some_iff.mp H
  obtain ⟨⟨x3, s3, b3⟩, h3, H⟩ := H
  dsimp only at H
  simp only [Option.some.injEq, Prod.mk.injEq] at H
  obtain ⟨rfl, rfl, rfl, rfl, rfl, rfl, rfl, rfl, rfl, rfl, rfl, rfl, rfl⟩ := H
  have A3 := a_ h3
  clear h3
  have hxa := (blk_cell BKa.out 0).trans rfl
  go_upto_region 17 with (go_at_call 54; (with_reducible refine (msg_tflag.calls k g s2 b2 x3 s3 b3 w0 _ HI.out HB.out A3.out).mono ?_); rintro e w4 ⟨rfl, hi, hb, hk⟩; replace HI := a_ hi; replace HB := a_ hb; replace BKa := a_ (keep_blk hk Na.out BKa.out); replace BKr := a_ (keep_blk hk Nr.out BKr.out); replace BKm := a_ (keep_blk hk Nm.out BKm.out); replace KP := a_ (KP.out.trans hk (.inl rfl)); clear hi hb hk; have hz_2 := (blk_cell BKm.out 2).trans rfl; have hz_5 := (blk_cell BKm.out 5).trans rfl; have hy_2 := blk_frozen BKm.out 2; have hy_5 := blk_frozen BKm.out 5)
  refine gen_world (fun w1 => w1.heap[gm]? = some (.cells #[.int .u8 2, .int .u64 t, .int .u64 0, .int .u64 0, .int .u64 0, .bool (x3 == 1), .slice none 0 0, .int .u64 0, .int .u64 0, .slice none 0 0, .string (⟨#[]⟩ : ByteArray)] 37 (0, 0)) ∧ w1.heap[gr]? = some (.cells #[.int .u8 0, .int .u64 0, .int .u64 0, .int .u64 0, .int .u64 0, .bool false, .slice none 0 0, .int .u64 0, .int .u64 0, .slice none 0 0, .string (⟨#[]⟩ : ByteArray)] 37 (0, 0)) ∧ IsS87 w0 w1 g _ _ ∧ Below w0.heap.size w0 w1 ∧ KeepBut w w1 g none) ⟨?_, (by (iterate 1 refine blk_far (p := ⟨gm, _, none⟩) ?_ NBr_m.out _); exact BKr.out), (by (iterate 1 refine IsS87.far (p := ⟨gm, _, none⟩) ?_ (Ne.symm Nm.out) _); exact HI.out), (by (iterate 1 refine Below.setCell (p := ⟨gm, _, none⟩) ?_ GMm.out _); exact HB.out), (by (iterate 1 refine keep_far (p := ⟨gm, _, none⟩) ?_ GEm.out _); exact KP.out)⟩ ?_
  · refine Eq.trans (blk_set BKm.out 5 _) ?_
    simp only [List.setIfInBounds_toArray, List.set_cons_zero, List.set_cons_succ]
  clear BKm BKr BKa HI HB KP
  rintro w1 ⟨BKm, BKr, HI, HB, KP⟩
  have HO6 := a_ (Kd.S_nil k67 67 w1 w.heap.size (fun i => some i ≠ (Value.slice none 0 0).ownBlock))
  have HO9 := a_ (Kd.R_nil (Kd.int .i64) 3 w1 w.heap.size (fun _ => True))
 rotate_left
 rw [if_neg c2] at H
 by_cases c3 : kd = 3
 focus
  subst c3
  rw [if_pos rfl] at H
  replace H := Option.bind_eq_some_iff.mp H
  obtain ⟨⟨x3, s3, b3⟩, h3, H⟩ := H
  dsimp only at H
  replace H := Option.bind_eq_some_iff.mp H
  obtain ⟨⟨x4, s4, b4⟩, h4, H⟩ := H
  dsimp only at H
  replace H := Option.bind_eq_some_iff.mp H
  obtain ⟨⟨x5, s5, b5⟩, h5, H⟩ := H
  dsimp only at H
  replace H := Option.bind_eq_some_iff.mp H
  obtain ⟨⟨l, s6, b6⟩, h6, H⟩ := H
  dsimp only at H
  simp only [Option.some.injEq, Prod.mk.injEq] at H
  obtain ⟨rfl, rfl, rfl, rfl, rfl, rfl, rfl, rfl, rfl, rfl, rfl, rfl, rfl⟩ := H
  have A3 := a_ h3
  have A4 := a_ h4
  have A5 := a_ h5
  have A6 := a_ h6
  clear h3 h4 h5 h6
  go_upto_region 9 with fail
  replace BKm := a_ (blk_drew BKm.out)
  replace BKr := a_ (blk_drew BKr.out)
  replace BKa := a_ (blk_drew BKa.out)
  replace HI := a_ HI.out.drew
  replace HB := a_ HB.out.drew
  replace KP := a_ (keep_drew KP.out)
  refine start_ (n := 24) (S := fun w' => w'.cell? ⟨ga, 0, none⟩ = some (.pointer (some ⟨g, 0, none⟩))) (ds := []) #[false, false, false, false, false, false, false, false, false, false, false, false, false, false, false, false, false, false, false, false, false, false, false, false] (by kernel_rfl) rfl rfl ((blk_cell BKa.out 0).trans rfl) (fun hHeld => ?_)
  refine pk_ 0 (some 48) ?_
  refine pk_ 6 (some 54) ?_
  refine pk_ 12 (some 60) ?_
  refine tk_ 1 (some 49) hHeld ?_
  refine pk_ 2 (some 50) ?_
  refine pk_ 3 (some 51) ?_
  refine pk_ 4 (some 52) ?_
  refine tk_ 7 (some 55) hHeld ?_
  refine pk_ 8 (some 56) ?_
  refine pk_ 9 (some 57) ?_
  refine pk_ 10 (some 58) ?_
  refine tk_ 13 (some 61) hHeld ?_
  refine pk_ 14 (some 62) ?_
  refine pk_ 15 (some 63) ?_
  refine pk_ 16 (some 64) ?_
  refine ok_ 5 (some 53) (fun K hK => ?_)
  refine goes_ Try.func53 (by kernel_rfl) rfl #[.pointer (some ⟨g, 0, none⟩)] (by rfl) rfl rfl (by simp only [List.map_toArray, List.map_cons, List.map_nil]; rfl) ?_
  with_reducible refine (wal_Taker_Number.calls k g s2 b2 x3 s3 b3 w0 _ HI.out HB.out A3.out).mono ?_
  rintro e w4 ⟨rfl, hi, hb, hk⟩
  refine ⟨_, rfl, ?_⟩
  replace HI := a_ hi
  replace HB := a_ hb
  replace BKa := a_ (keep_blk hk Na.out BKa.out)
  replace BKr := a_ (keep_blk hk Nr.out BKr.out)
  replace BKm := a_ (keep_blk hk Nm.out BKm.out)
  replace KP := a_ (KP.out.trans hk (.inl rfl))
  clear hi hb hk
  refine hK.out _ _ ((blk_cell BKa.out 0).trans rfl) (fun hHeld => ?_)
  clear hK K
  refine norm_ (a' := ?_) ?_ ?_
  rotate_left
  · show Act.put _ (some 53) _ = _
    simp only [Act.put, List.setIfInBounds_toArray, List.set_cons_zero, List.set_cons_succ, i64_w, i32_w]
    rfl
  refine pk_ 18 (some 66) ?_
  refine ok_ 11 (some 59) (fun K hK => ?_)
  refine goes_ Try.func53 (by kernel_rfl) rfl #[.pointer (some ⟨g, 0, none⟩)] (by rfl) rfl rfl (by simp only [List.map_toArray, List.map_cons, List.map_nil]; rfl) ?_
  with_reducible refine (wal_Taker_Number.calls k g s3 b3 x4 s4 b4 w0 _ HI.out HB.out A4.out).mono ?_
  rintro e w4 ⟨rfl, hi, hb, hk⟩
  refine ⟨_, rfl, ?_⟩
  replace HI := a_ hi
  replace HB := a_ hb
  replace BKa := a_ (keep_blk hk Na.out BKa.out)
  replace BKr := a_ (keep_blk hk Nr.out BKr.out)
  replace BKm := a_ (keep_blk hk Nm.out BKm.out)
  replace KP := a_ (KP.out.trans hk (.inl rfl))
  clear hi hb hk
  refine hK.out _ _ ((blk_cell BKa.out 0).trans rfl) (fun hHeld => ?_)
  clear hK K
  refine norm_ (a' := ?_) ?_ ?_
  rotate_left
  · show Act.put _ (some 59) _ = _
    simp only [Act.put, List.setIfInBounds_toArray, List.set_cons_zero, List.set_cons_succ, i64_w, i32_w]
    rfl
  refine ok_ 17 (some 65) (fun K hK => ?_)
  refine goes_ Try.func53 (by kernel_rfl) rfl #[.pointer (some ⟨g, 0, none⟩)] (by rfl) rfl rfl (by simp only [List.map_toArray, List.map_cons, List.map_nil]; rfl) ?_
  with_reducible refine (wal_Taker_Number.calls k g s4 b4 x5 s5 b5 w0 _ HI.out HB.out A5.out).mono ?_
  rintro e w4 ⟨rfl, hi, hb, hk⟩
  refine ⟨_, rfl, ?_⟩
  replace HI := a_ hi
  replace HB := a_ hb
  replace BKa := a_ (keep_blk hk Na.out BKa.out)
  replace BKr := a_ (keep_blk hk Nr.out BKr.out)
  replace BKm := a_ (keep_blk hk Nm.out BKm.out)
  replace KP := a_ (KP.out.trans hk (.inl rfl))
  clear hi hb hk
  have hz_2 := (blk_cell BKm.out 2).trans rfl
  have hz_3 := (blk_cell BKm.out 3).trans rfl
  have hz_4 := (blk_cell BKm.out 4).trans rfl
  have hy_2 := blk_frozen BKm.out 2
  have hy_3 := blk_frozen BKm.out 3
  have hy_4 := blk_frozen BKm.out 4
  refine hK.out _ _ ((blk_cell BKa.out 0).trans rfl) (fun hHeld => ?_)
  clear hK K
  refine norm_ (a' := ?_) ?_ ?_
  rotate_left
  · show Act.put _ (some 65) _ = _
    simp only [Act.put, List.setIfInBounds_toArray, List.set_cons_zero, List.set_cons_succ, i64_w, i32_w]
    rfl
  refine ok_ 19 (none) (fun K hK => ?_)
  refine skip_ (w1 := ?_) (by rfl) rfl ?_ ?_
  rotate_left
  · go_simp
    rfl
  refine hK.out _ _ ((blk_cell (blk_far BKa.out (p := ⟨gm, _, none⟩) NBa_m.out _) 0).trans rfl) (fun hHeld => ?_)
  clear hK K
  refine pk_ 20 (some 67) ?_
  refine ok_ 21 (none) (fun K hK => ?_)
  refine skip_ (w1 := ?_) (by rfl) rfl ?_ ?_
  rotate_left
  · go_simp
    rfl
  refine hK.out _ _ ((blk_cell (blk_far (blk_far BKa.out (p := ⟨gm, _, none⟩) NBa_m.out _) (p := ⟨gm, _, none⟩) NBa_m.out _) 0).trans rfl) (fun hHeld => ?_)
  clear hK K
  refine pk_ 22 (some 68) ?_
  refine ok_ 23 (none) (fun K hK => ?_)
  refine skip_ (w1 := ?_) (by rfl) rfl ?_ ?_
  rotate_left
  · go_simp
    rfl
  refine hK.out _ _ ((blk_cell (blk_far (blk_far (blk_far BKa.out (p := ⟨gm, _, none⟩) NBa_m.out _) (p := ⟨gm, _, none⟩) NBa_m.out _) (p := ⟨gm, _, none⟩) NBa_m.out _) 0).trans rfl) (fun hHeld => ?_)
  clear hK K
  refine done_ (by kernel_rfl) ?_
  go_upto_region 10 with fail
  refine gen_world (fun w1 => w1.heap[gm]? = some (.cells #[.int .u8 3, .int .u64 t, .int .u64 x3, .int .u64 x4, .int .u64 x5, .bool false, .slice none 0 0, .int .u64 0, .int .u64 0, .slice none 0 0, .string (⟨#[]⟩ : ByteArray)] 37 (0, 0)) ∧ w1.heap[gr]? = some (.cells #[.int .u8 0, .int .u64 0, .int .u64 0, .int .u64 0, .int .u64 0, .bool false, .slice none 0 0, .int .u64 0, .int .u64 0, .slice none 0 0, .string (⟨#[]⟩ : ByteArray)] 37 (0, 0)) ∧ w1.heap[ga]? = some (.cells #[.pointer (some ⟨g, 0, none⟩)] 54 (0, 0)) ∧ IsS87 w0 w1 g _ _ ∧ Below w0.heap.size w0 w1 ∧ KeepBut w w1 g none) ⟨?_, (by (iterate 3 refine blk_far (p := ⟨gm, _, none⟩) ?_ NBr_m.out _); exact BKr.out), (by (iterate 3 refine blk_far (p := ⟨gm, _, none⟩) ?_ NBa_m.out _); exact BKa.out), (by (iterate 3 refine IsS87.far (p := ⟨gm, _, none⟩) ?_ (Ne.symm Nm.out) _); exact HI.out), (by (iterate 3 refine Below.setCell (p := ⟨gm, _, none⟩) ?_ GMm.out _); exact HB.out), (by (iterate 3 refine keep_far (p := ⟨gm, _, none⟩) ?_ GEm.out _); exact KP.out)⟩ ?_
  · refine Eq.trans (blk_set (blk_set (blk_set BKm.out 2 _) 3 _) 4 _) ?_
    simp only [List.setIfInBounds_toArray, List.set_cons_zero, List.set_cons_succ]
  clear BKm BKr BKa HI HB KP
  rintro w1 ⟨BKm, BKr, BKa, HI, HB, KP⟩
  have hxa := (blk_cell BKa 0).trans rfl
  have HS := a_ KP.1
  have BKn : w1.heap[gm]? = some (.cells (Array.setIfInBounds #[.int .u8 3, .int .u64 t, .int .u64 x3, .int .u64 x4, .int .u64 x5, .bool false, .slice none 0 0, .int .u64 0, .int .u64 0, .slice none 0 0, .string (⟨#[]⟩ : ByteArray)] 6 (.slice none 0 0)) 37 (0, 0)) := by simp only [List.setIfInBounds_toArray, List.set_cons_zero, List.set_cons_succ]; exact BKm
  go_upto_region 17 with (go_at_call 55; (refine msg_many.walk k g gm ga s5 b5 l s6 b6 #[.int .u8 3, .int .u64 t, .int .u64 x3, .int .u64 x4, .int .u64 x5, .bool false, .slice none 0 0, .int .u64 0, .int .u64 0, .slice none 0 0, .string (⟨#[]⟩ : ByteArray)] w0 _ _ HI HB BKn ?h6 BKa GMm.out A6.out ?_); (case h6 => exact Nat.lt_of_lt_of_eq (by decide : 6 < 11) rfl); intro v' w5 hm' ho hi hb hk; replace BKr := hk.2 gr (blk_lt BKr) (fun h => h.elim Nr.out NBr_m.out) |>.trans BKr; replace BKm := hm'; have HO6 := a_ (Kd.S_lower ho HS.out); replace HI := hi; replace HB := hb; replace KP := Kept.keepG KP hk (fun i hi => hi.elim .inl (fun e => .inr (e ▸ GEm.out))); clear hm' ho hi hb hk)
  obtain ⟨Av, cv, hv⟩ := Kd.S_slice HO6.out
  subst hv
  have HO9 := a_ (Kd.R_nil (Kd.int .i64) 3 w5 w.heap.size (fun _ => True))
  replace HO6 := a_ (Kd.S_mono (ok' := fun i => some i ≠ (Value.slice none 0 0).ownBlock) HO6.out (fun _ _ => by simp [Value.ownBlock]))
  simp only [List.setIfInBounds_toArray, List.set_cons_zero, List.set_cons_succ] at BKm
 rotate_left
 rw [if_neg c3] at H
 by_cases c4 : kd = 4
 focus
  subst c4
  rw [if_pos rfl] at H
  replace H := Option.bind_eq_some_iff.mp H
  obtain ⟨⟨x3, s3, b3⟩, h3, H⟩ := H
  dsimp only at H
  replace H := Option.bind_eq_some_iff.mp H
  obtain ⟨⟨x4, s4, b4⟩, h4, H⟩ := H
  dsimp only at H
  simp only [Option.some.injEq, Prod.mk.injEq] at H
  obtain ⟨rfl, rfl, rfl, rfl, rfl, rfl, rfl, rfl, rfl, rfl, rfl, rfl, rfl⟩ := H
  have A3 := a_ h3
  have A4 := a_ h4
  clear h3 h4
  go_upto_region 12 with fail
  replace BKm := a_ (blk_drew BKm.out)
  replace BKr := a_ (blk_drew BKr.out)
  replace BKa := a_ (blk_drew BKa.out)
  replace HI := a_ HI.out.drew
  replace HB := a_ HB.out.drew
  replace KP := a_ (keep_drew KP.out)
  refine start_ (n := 12) (S := fun w' => w'.cell? ⟨ga, 0, none⟩ = some (.pointer (some ⟨g, 0, none⟩))) (ds := []) #[false, false, false, false, false, false, false, false, false, false, false, false] (by kernel_rfl) rfl rfl ((blk_cell BKa.out 0).trans rfl) (fun hHeld => ?_)
  refine pk_ 2 (some 77) ?_
  refine tk_ 0 (some 75) hHeld ?_
  refine tk_ 3 (some 78) hHeld ?_
  refine pk_ 4 (some 79) ?_
  refine pk_ 5 (some 80) ?_
  refine pk_ 6 (some 81) ?_
  refine ok_ 1 (some 76) (fun K hK => ?_)
  refine goes_ Try.func54 (by kernel_rfl) rfl #[.agg #[.pointer (some ⟨g, 0, none⟩)]] (by rfl) rfl rfl (by simp only [List.map_toArray, List.map_cons, List.map_nil]; rfl) ?_
  with_reducible refine (msg_tflag.calls k g s2 b2 x3 s3 b3 w0 _ HI.out HB.out A3.out).mono ?_
  rintro e w4 ⟨rfl, hi, hb, hk⟩
  refine ⟨_, rfl, ?_⟩
  replace HI := a_ hi
  replace HB := a_ hb
  replace BKa := a_ (keep_blk hk Na.out BKa.out)
  replace BKr := a_ (keep_blk hk Nr.out BKr.out)
  replace BKm := a_ (keep_blk hk Nm.out BKm.out)
  replace KP := a_ (KP.out.trans hk (.inl rfl))
  clear hi hb hk
  refine hK.out _ _ ((blk_cell BKa.out 0).trans rfl) (fun hHeld => ?_)
  clear hK K
  refine norm_ (a' := ?_) ?_ ?_
  rotate_left
  · show Act.put _ (some 76) _ = _
    simp only [Act.put, List.setIfInBounds_toArray, List.set_cons_zero, List.set_cons_succ, i64_w, i32_w]
    rfl
  refine pk_ 8 (some 83) ?_
  refine ok_ 7 (some 82) (fun K hK => ?_)
  refine goes_ Try.func53 (by kernel_rfl) rfl #[.pointer (some ⟨g, 0, none⟩)] (by rfl) rfl rfl (by simp only [List.map_toArray, List.map_cons, List.map_nil]; rfl) ?_
  with_reducible refine (wal_Taker_Number.calls k g s3 (b3 || decide (x3 > 1)) x4 s4 b4 w0 _ HI.out HB.out A4.out).mono ?_
  rintro e w4 ⟨rfl, hi, hb, hk⟩
  refine ⟨_, rfl, ?_⟩
  replace HI := a_ hi
  replace HB := a_ hb
  replace BKa := a_ (keep_blk hk Na.out BKa.out)
  replace BKr := a_ (keep_blk hk Nr.out BKr.out)
  replace BKm := a_ (keep_blk hk Nm.out BKm.out)
  replace KP := a_ (KP.out.trans hk (.inl rfl))
  clear hi hb hk
  have hz_2 := (blk_cell BKm.out 2).trans rfl
  have hz_5 := (blk_cell BKm.out 5).trans rfl
  have hy_2 := blk_frozen BKm.out 2
  have hy_5 := blk_frozen BKm.out 5
  refine hK.out _ _ ((blk_cell BKa.out 0).trans rfl) (fun hHeld => ?_)
  clear hK K
  refine norm_ (a' := ?_) ?_ ?_
  rotate_left
  · show Act.put _ (some 82) _ = _
    simp only [Act.put, List.setIfInBounds_toArray, List.set_cons_zero, List.set_cons_succ, i64_w, i32_w]
    rfl
  refine ok_ 9 (none) (fun K hK => ?_)
  refine skip_ (w1 := ?_) (by rfl) rfl ?_ ?_
  rotate_left
  · go_simp
    rfl
  refine hK.out _ _ ((blk_cell (blk_far BKa.out (p := ⟨gm, _, none⟩) NBa_m.out _) 0).trans rfl) (fun hHeld => ?_)
  clear hK K
  refine pk_ 10 (some 84) ?_
  refine ok_ 11 (none) (fun K hK => ?_)
  refine skip_ (w1 := ?_) (by rfl) rfl ?_ ?_
  rotate_left
  · go_simp
    rfl
  refine hK.out _ _ ((blk_cell (blk_far (blk_far BKa.out (p := ⟨gm, _, none⟩) NBa_m.out _) (p := ⟨gm, _, none⟩) NBa_m.out _) 0).trans rfl) (fun hHeld => ?_)
  clear hK K
  refine done_ (by kernel_rfl) ?_
  go_upto_region 17 with fail
  refine gen_world (fun w1 => w1.heap[gm]? = some (.cells #[.int .u8 4, .int .u64 t, .int .u64 x4, .int .u64 0, .int .u64 0, .bool (x3 == 1), .slice none 0 0, .int .u64 0, .int .u64 0, .slice none 0 0, .string (⟨#[]⟩ : ByteArray)] 37 (0, 0)) ∧ w1.heap[gr]? = some (.cells #[.int .u8 0, .int .u64 0, .int .u64 0, .int .u64 0, .int .u64 0, .bool false, .slice none 0 0, .int .u64 0, .int .u64 0, .slice none 0 0, .string (⟨#[]⟩ : ByteArray)] 37 (0, 0)) ∧ IsS87 w0 w1 g _ _ ∧ Below w0.heap.size w0 w1 ∧ KeepBut w w1 g none) ⟨?_, (by (iterate 2 refine blk_far (p := ⟨gm, _, none⟩) ?_ NBr_m.out _); exact BKr.out), (by (iterate 2 refine IsS87.far (p := ⟨gm, _, none⟩) ?_ (Ne.symm Nm.out) _); exact HI.out), (by (iterate 2 refine Below.setCell (p := ⟨gm, _, none⟩) ?_ GMm.out _); exact HB.out), (by (iterate 2 refine keep_far (p := ⟨gm, _, none⟩) ?_ GEm.out _); exact KP.out)⟩ ?_
  · refine Eq.trans (blk_set (blk_set BKm.out 5 _) 2 _) ?_
    simp only [List.setIfInBounds_toArray, List.set_cons_zero, List.set_cons_succ]
  clear BKm BKr BKa HI HB KP
  rintro w1 ⟨BKm, BKr, HI, HB, KP⟩
  have HO6 := a_ (Kd.S_nil k67 67 w1 w.heap.size (fun i => some i ≠ (Value.slice none 0 0).ownBlock))
  have HO9 := a_ (Kd.R_nil (Kd.int .i64) 3 w1 w.heap.size (fun _ => True))
 rotate_left
 rw [if_neg c4] at H
 by_cases c5 : kd = 5
 focus
  subst c5
  rw [if_pos rfl] at H
  replace H := Option.bind_eq_some_iff.mp H
  obtain ⟨⟨x3, s3, b3⟩, h3, H⟩ := H
  dsimp only at H
  replace H := Option.bind_eq_some_iff.mp H
  obtain ⟨⟨q0, q1, q2, q3, why⟩, h4, H⟩ := H
  dsimp only at H
  simp only [Option.some.injEq, Prod.mk.injEq] at H
  obtain ⟨rfl, rfl, rfl, rfl, rfl, rfl, rfl, rfl, rfl, rfl, rfl, rfl, rfl⟩ := H
  have A3 := a_ h3
  have A4 := a_ h4
  clear h3 h4
  have hxa := (blk_cell BKa.out 0).trans rfl
  go_upto_region 15 with (first | (go_at_call 59; (with_reducible refine (wal_Taker_Text.calls k g s2 b2 x3 s3 b3 w0 _ HI.out HB.out A3.out).mono ?_); rintro e w4 ⟨rfl, hi, hb, hk⟩; replace HI := a_ hi; replace HB := a_ hb; replace BKa := a_ (keep_blk hk Na.out BKa.out); replace BKr := a_ (keep_blk hk Nr.out BKr.out); replace BKm := a_ (keep_blk hk Nm.out BKm.out); replace KP := a_ (KP.out.trans hk (.inl rfl)); clear hi hb hk) | (go_at_call 58; (with_reducible refine (snap_Decode.calls k x3 q0 q1 q2 q3 why _ A4.out).mono ?_); rintro e w5 ⟨v, rfl, ho, hb⟩; have HO := a_ ho; replace BKm := bB_ BKm hb; replace BKr := bB_ BKr hb; replace BKa := bB_ BKa hb; replace HI := a_ (IsS87.below HI.out hb); replace HB := a_ (HB.out.trans (below_up hb HB.out.size)); have HS := a_ KP.out.1; replace KP := a_ (KP.out.trans (KeepBut.of_below hb g none) (.inl rfl)); clear ho hb; obtain ⟨Ao, co, hvo⟩ := Kd.R_slice HO.out; subst hvo))
  have Nms := a_ (Nat.ne_of_lt (blk_lt BKm.out))
  have Nrs := a_ (Nat.ne_of_lt (blk_lt BKr.out))
  have Ngs := a_ (Nat.ne_of_gt HI.out.lt)
  refine gen_world (fun w1 => w1.heap[w5.heap.size]? = some (.cells #[.int .u64 q0, .int .u64 q1, .slice Ao q2.length co, .string q3] 35 (0, 0)) ∧ w1.heap[gm]? = some (.cells #[.int .u8 5, .int .u64 t, .int .u64 0, .int .u64 0, .int .u64 0, .bool false, .slice none 0 0, .int .u64 0, .int .u64 0, .slice none 0 0, .string (⟨#[]⟩ : ByteArray)] 37 (0, 0)) ∧ w1.heap[gr]? = some (.cells #[.int .u8 0, .int .u64 0, .int .u64 0, .int .u64 0, .int .u64 0, .bool false, .slice none 0 0, .int .u64 0, .int .u64 0, .slice none 0 0, .string (⟨#[]⟩ : ByteArray)] 37 (0, 0)) ∧ w1.heap[ga]? = some (.cells #[.pointer (some ⟨g, 0, none⟩)] 54 (0, 0)) ∧ IsS87 w0 w1 g s3 b3 ∧ Below w0.heap.size w0 w1 ∧ KeepBut w w1 g none ∧ Kd.R (Kd.int .i64) 3 w1 w.heap.size (fun _ => True) (.slice Ao q2.length co) q2) ⟨alloc_newD _ _, blk_alloc BKm.out _, blk_alloc BKr.out _, blk_alloc BKa.out _, HI.out.alloc _, HB.out.alloc HB.out.size _, keep_alloc KP.out _, Kd.R_alloc (Kd.R_lower HO.out HS.out) _⟩ ?_
  clear BKm BKr BKa HI HB KP HO hxa hx0 A3 A4
  rintro w1 ⟨BKs, BKm, BKr, BKa, HI, HB, KP, HO⟩
  generalize w5.heap.size = gs at *
  go_cut [] (fun wc => Aside0 (wc.heap[gs]? = some (.cells #[.int .u64 q0, .int .u64 q1, .slice Ao q2.length co, .string q3] 35 (0, 0)) ∧ wc.heap[gm]? = some (.cells #[.int .u8 5, .int .u64 t, .int .u64 0, .int .u64 0, .int .u64 0, .bool false, .slice none 0 0, .int .u64 0, .int .u64 0, .slice none 0 0, .string (⟨#[]⟩ : ByteArray)] 37 (0, 0)) ∧ wc.heap[gr]? = some (.cells #[.int .u8 0, .int .u64 0, .int .u64 0, .int .u64 0, .int .u64 0, .bool false, .slice none 0 0, .int .u64 0, .int .u64 0, .slice none 0 0, .string (⟨#[]⟩ : ByteArray)] 37 (0, 0)) ∧ IsS87 w0 wc g s3 (b3 || (why != 0)) ∧ Below w0.heap.size w0 wc ∧ KeepBut w wc g none ∧ Kd.R (Kd.int .i64) 3 wc w.heap.size (fun k => True ∧ k ≠ g) (.slice Ao q2.length co) q2))
  case first =>
   have hxa := (blk_cell BKa 0).trans rfl
   obtain ⟨hs0, hs1, hf0, hf1⟩ := isS_cell0 HI
   cases b3
   all_goals cases hn : (why != 0)
   all_goals go_region
   all_goals (go_wp2_with fail)
   all_goals go_meet
   all_goals (try rw [hn])
   all_goals exact ⟨blk_drew (blk_far BKs (p := ⟨g, 1, none⟩) Ngs.out _), blk_drew (blk_far BKm (p := ⟨g, 1, none⟩) Nm.out _), blk_drew (blk_far BKr (p := ⟨g, 1, none⟩) Nr.out _), IsS87.drew (IsS87.set_1 HI _), Below.drew (Below.setCell (p := ⟨g, 1, none⟩) HB (IsS87.ge HI) _), keep_drew (KeepBut.set_ KP 1 _), Kd.R_drew (Kd.R_far (p := ⟨g, 1, none⟩) (IsS87.apart HI HO (by decide)) (fun _ hk => hk.2) _)⟩
  case' rest =>
   clear BKs BKm BKr BKa HI HB KP HO
   obtain ⟨⟨BKs, BKm, BKr, HI, HB, KP, HO⟩⟩ := hcut
   obtain ⟨hs0, hs1, hs2, hs3, -⟩ := c4_ (a_ BKs)
   have hz7 := (blk_cell BKm 7).trans rfl
   have hy7 := blk_frozen BKm 7
   have hz8 := (blk_cell BKm 8).trans rfl
   have hy8 := blk_frozen BKm 8
   have hz9 := (blk_cell BKm 9).trans rfl
   have hy9 := blk_frozen BKm 9
   have hz10 := (blk_cell BKm 10).trans rfl
   have hy10 := blk_frozen BKm 10
   have hgs := Nms.out
   have HO2 := a_ (Kd.R_types HO BKm (by decide))
   clear HO
   replace BKm := a_ BKm
   replace BKr := a_ BKr
   replace HI := a_ HI
   replace HB := a_ HB
   replace KP := a_ KP
   go_upto_region 17 with fail
   refine gen_world (fun w1 => w1.heap[gm]? = some (.cells #[.int .u8 5, .int .u64 t, .int .u64 0, .int .u64 0, .int .u64 0, .bool false, .slice none 0 0, .int .u64 q0, .int .u64 q1, .slice Ao q2.length co, .string q3] 37 (0, 0)) ∧ w1.heap[gr]? = some (.cells #[.int .u8 0, .int .u64 0, .int .u64 0, .int .u64 0, .int .u64 0, .bool false, .slice none 0 0, .int .u64 0, .int .u64 0, .slice none 0 0, .string (⟨#[]⟩ : ByteArray)] 37 (0, 0)) ∧ IsS87 w0 w1 g _ _ ∧ Below w0.heap.size w0 w1 ∧ KeepBut w w1 g none ∧ Kd.R (Kd.int .i64) 3 w1 w.heap.size (fun k => (True ∧ k ≠ g) ∧ k ≠ gm) (.slice Ao q2.length co) q2) ⟨?_, (by (iterate 4 refine blk_far (p := ⟨gm, _, none⟩) ?_ NBr_m.out _); exact BKr.out), (by (iterate 4 refine IsS87.far (p := ⟨gm, _, none⟩) ?_ (Ne.symm Nm.out) _); exact HI.out), (by (iterate 4 refine Below.setCell (p := ⟨gm, _, none⟩) ?_ GMm.out _); exact HB.out), (by (iterate 4 refine keep_far (p := ⟨gm, _, none⟩) ?_ GEm.out _); exact KP.out), (by (iterate 4 refine Kd.R_far (p := ⟨gm, _, none⟩) ?_ (fun _ hk => hk.2) _); exact HO2.out)⟩ ?_
   · refine Eq.trans (blk_set (blk_set (blk_set (blk_set BKm.out 7 _) 8 _) 9 _) 10 _) ?_
     simp only [List.setIfInBounds_toArray, List.set_cons_zero, List.set_cons_succ]
   clear BKm BKr HI HB KP HO2
   rintro w1 ⟨BKm, BKr, HI, HB, KP, HO⟩
   have HO9 := a_ (Kd.R_mono (ok' := fun _ => True) HO (fun _ _ => trivial))
   have HO6 := a_ (Kd.S_nil k67 67 w1 w.heap.size (fun i => some i ≠ (Value.slice Ao q2.length co).ownBlock))
 rotate_left
 rw [if_neg c5] at H
 focus
  have q1 : (kd == 1) = false := beq_eq_false_iff_ne.mpr c1
  have u1 : decide (kd = 1) = false := decide_eq_false c1
  have q2 : (kd == 2) = false := beq_eq_false_iff_ne.mpr c2
  have u2 : decide (kd = 2) = false := decide_eq_false c2
  have q3 : (kd == 3) = false := beq_eq_false_iff_ne.mpr c3
  have u3 : decide (kd = 3) = false := decide_eq_false c3
  have q4 : (kd == 4) = false := beq_eq_false_iff_ne.mpr c4
  have u4 : decide (kd = 4) = false := decide_eq_false c4
  have q5 : (kd == 5) = false := beq_eq_false_iff_ne.mpr c5
  have u5 : decide (kd = 5) = false := decide_eq_false c5
  simp only [Option.some.injEq, Prod.mk.injEq] at H
  obtain ⟨rfl, rfl, rfl, rfl, rfl, rfl, rfl, rfl, rfl, rfl, rfl, rfl, rfl⟩ := H
  go_upto_region 17 with fail
  replace BKm := BKm.out
  replace BKr := BKr.out
  replace HI := HI.out
  replace HB := HB.out
  replace KP := KP.out
  have HO6 := a_ (Kd.S_nil k67 67 w1 w.heap.size (fun i => some i ≠ (Value.slice none 0 0).ownBlock))
  have HO9 := a_ (Kd.R_nil (Kd.int .i64) 3 w1 w.heap.size (fun _ => True))
 all_goals have hp0 := (blk_cell BKm 0).trans rfl
 all_goals have hr0 := (blk_cell BKr 0).trans rfl
 all_goals have ht0 := blk_frozen BKr 0
 all_goals have hp1 := (blk_cell BKm 1).trans rfl
 all_goals have hr1 := (blk_cell BKr 1).trans rfl
 all_goals have ht1 := blk_frozen BKr 1
 all_goals have hp2 := (blk_cell BKm 2).trans rfl
 all_goals have hr2 := (blk_cell BKr 2).trans rfl
 all_goals have ht2 := blk_frozen BKr 2
 all_goals have hp3 := (blk_cell BKm 3).trans rfl
 all_goals have hr3 := (blk_cell BKr 3).trans rfl
 all_goals have ht3 := blk_frozen BKr 3
 all_goals have hp4 := (blk_cell BKm 4).trans rfl
 all_goals have hr4 := (blk_cell BKr 4).trans rfl
 all_goals have ht4 := blk_frozen BKr 4
 all_goals have hp5 := (blk_cell BKm 5).trans rfl
 all_goals have hr5 := (blk_cell BKr 5).trans rfl
 all_goals have ht5 := blk_frozen BKr 5
 all_goals have hp6 := (blk_cell BKm 6).trans rfl
 all_goals have hr6 := (blk_cell BKr 6).trans rfl
 all_goals have ht6 := blk_frozen BKr 6
 all_goals have hp7 := (blk_cell BKm 7).trans rfl
 all_goals have hr7 := (blk_cell BKr 7).trans rfl
 all_goals have ht7 := blk_frozen BKr 7
 all_goals have hp8 := (blk_cell BKm 8).trans rfl
 all_goals have hr8 := (blk_cell BKr 8).trans rfl
 all_goals have ht8 := blk_frozen BKr 8
 all_goals have hp9 := (blk_cell BKm 9).trans rfl
 all_goals have hr9 := (blk_cell BKr 9).trans rfl
 all_goals have ht9 := blk_frozen BKr 9
 all_goals have hp10 := (blk_cell BKm 10).trans rfl
 all_goals have hr10 := (blk_cell BKr 10).trans rfl
 all_goals have ht10 := blk_frozen BKr 10
 all_goals go_wp2
 all_goals refine bodyPost_ret (results_cell_row rfl _ _ gr 37 _ (0, 0) _ rfl (blk_set (blk_set (blk_set (blk_set (blk_set (blk_set (blk_set (blk_set (blk_set (blk_set (blk_set BKr 0 _) 1 _) 2 _) 3 _) 4 _) 5 _) 6 _) 7 _) 8 _) 9 _) 10 _) Try.underlying37 rfl (by kernel_rfl)) rfl ?_
 all_goals have F := msg_tmsg.fin HO6.out HO9.out HI HB KP BKr Nr.out GMr.out GEr.out
 all_goals have EE : ∀ a b W, a = b → Post (.returned (.agg a)) W → Post (.returned (.agg b)) W := fun a b W e h => e ▸ h
 all_goals refine EE _ _ _ ?_ (HP.out _ _ _ (F _ _ _ _ _ _ _ _ _ _ _).1 (F _ _ _ _ _ _ _ _ _ _ _).2.1 (F _ _ _ _ _ _ _ _ _ _ _).2.2.1 (F _ _ _ _ _ _ _ _ _ _ _).2.2.2.1 (F _ _ _ _ _ _ _ _ _ _ _).2.2.2.2)
 all_goals (simp only [List.setIfInBounds_toArray, List.set_cons_zero, List.set_cons_succ]; done)
theorem msg_Decode.fin {w w1 : World} {gr : Nat} {V6 V9 : Value} {l6 : List S67} {l9 : List Int} {cs : Array Value} (HO6 : Kd.S k67 67 w1 w.heap.size (fun i => some i ≠ V9.ownBlock) V6 l6) (HO9 : Kd.R (Kd.int .i64) 3 w1 w.heap.size (fun _ => True) V9 l9) (HB : Below w.heap.size w w1) (BKr : w1.heap[gr]? = some (.cells cs 37 (0, 0))) (GEr : w.heap.size ≤ gr) (u0 u1 u2 u3 u4 u5 u6 u7 u8 u9 u10 : Value) :
  Kd.S k67 67 (World.setCell (World.setCell (World.setCell (World.setCell (World.setCell (World.setCell (World.setCell (World.setCell (World.setCell (World.setCell (World.setCell w1 ⟨gr, 0, none⟩ u0) ⟨gr, 1, none⟩ u1) ⟨gr, 2, none⟩ u2) ⟨gr, 3, none⟩ u3) ⟨gr, 4, none⟩ u4) ⟨gr, 5, none⟩ u5) ⟨gr, 6, none⟩ u6) ⟨gr, 7, none⟩ u7) ⟨gr, 8, none⟩ u8) ⟨gr, 9, none⟩ u9) ⟨gr, 10, none⟩ u10) w.heap.size (fun i => some i ≠ V9.ownBlock) V6 l6 ∧ Kd.R (Kd.int .i64) 3 (World.setCell (World.setCell (World.setCell (World.setCell (World.setCell (World.setCell (World.setCell (World.setCell (World.setCell (World.setCell (World.setCell w1 ⟨gr, 0, none⟩ u0) ⟨gr, 1, none⟩ u1) ⟨gr, 2, none⟩ u2) ⟨gr, 3, none⟩ u3) ⟨gr, 4, none⟩ u4) ⟨gr, 5, none⟩ u5) ⟨gr, 6, none⟩ u6) ⟨gr, 7, none⟩ u7) ⟨gr, 8, none⟩ u8) ⟨gr, 9, none⟩ u9) ⟨gr, 10, none⟩ u10) w.heap.size (fun _ => True) V9 l9 ∧ Below w.heap.size w (World.setCell (World.setCell (World.setCell (World.setCell (World.setCell (World.setCell (World.setCell (World.setCell (World.setCell (World.setCell (World.setCell w1 ⟨gr, 0, none⟩ u0) ⟨gr, 1, none⟩ u1) ⟨gr, 2, none⟩ u2) ⟨gr, 3, none⟩ u3) ⟨gr, 4, none⟩ u4) ⟨gr, 5, none⟩ u5) ⟨gr, 6, none⟩ u6) ⟨gr, 7, none⟩ u7) ⟨gr, 8, none⟩ u8) ⟨gr, 9, none⟩ u9) ⟨gr, 10, none⟩ u10) := by
 refine ⟨Kd.S_mono (ok := fun i => some i ≠ V9.ownBlock ∧ i ≠ gr) ?_ (fun _ hk => hk.1), Kd.R_mono (ok := fun i => True ∧ i ≠ gr) ?_ (fun _ _ => trivial), ?_⟩
 · (iterate 11 refine Kd.S_far (p := ⟨gr, _, none⟩) ?_ (fun _ hk => hk.2) _); exact Kd.S_types HO6 BKr (by decide)
 · (iterate 11 refine Kd.R_far (p := ⟨gr, _, none⟩) ?_ (fun _ hk => hk.2) _); exact Kd.R_types HO9 BKr (by decide)
 · (iterate 11 refine Below.setCell (p := ⟨gr, _, none⟩) ?_ GEr _); exact HB
def msg_Decode.f (k : Nat) (a0 : ByteArray) : Option (Int × Int × Int × Int × Int × Bool × List S67 × Int × Int × List Int × ByteArray × Int) := (pack_TakeFrame.f k a0).bind fun T => (msg_tmsg.f k T.1 false).bind fun m => (if T.2.2 = 0 then (if T.2.1.toList = ([] : List UInt8) then ((order_Taker_Over.f m.2.2.2.2.2.2.2.2.2.2.2.1 m.2.2.2.2.2.2.2.2.2.2.2.2).bind fun v => (if v.1 = true then ((msg_Check.f k m.1 m.2.1 m.2.2.1 m.2.2.2.1 m.2.2.2.2.1 m.2.2.2.2.2.1 m.2.2.2.2.2.2.1 m.2.2.2.2.2.2.2.1 m.2.2.2.2.2.2.2.2.1 m.2.2.2.2.2.2.2.2.2.1 m.2.2.2.2.2.2.2.2.2.2.1).bind fun c => (if c = 0 then (some (m.1, m.2.1, m.2.2.1, m.2.2.2.1, m.2.2.2.2.1, m.2.2.2.2.2.1, m.2.2.2.2.2.2.1, m.2.2.2.2.2.2.2.1, m.2.2.2.2.2.2.2.2.1, m.2.2.2.2.2.2.2.2.2.1, m.2.2.2.2.2.2.2.2.2.2.1, 0)) else (some (0, 0, 0, 0, 0, false, ([] : List S67), 0, 0, ([] : List Int), (⟨#[]⟩ : ByteArray), 4)))) else (some (0, 0, 0, 0, 0, false, ([] : List S67), 0, 0, ([] : List Int), (⟨#[]⟩ : ByteArray), 4)))) else (some (0, 0, 0, 0, 0, false, ([] : List S67), 0, 0, ([] : List Int), (⟨#[]⟩ : ByteArray), 4))) else (some (0, 0, 0, 0, 0, false, ([] : List S67), 0, 0, ([] : List Int), (⟨#[]⟩ : ByteArray), 4)))
theorem msg_Decode.mono : ∀ a0 k, LeO (msg_Decode.f k a0) (msg_Decode.f (k + 1) a0) := by
 intro a0 k
 unfold msg_Decode.f
 repeat' with_reducible first | apply pack_TakeFrame.mono | apply msg_tmsg.mono | apply msg_Check.mono | apply LeO.refl | apply LeO.none | apply LeO.ite | refine LeO.bind ?_ (fun _ => ?_)
set_option maxHeartbeats 80000000 in
set_option maxRecDepth 100000 in
theorem msg_Decode.walk (k : Nat) (a0 : ByteArray) (r1 r2 r3 r4 r5 : Int) (r6 : Bool) (r7 : List S67) (r8 r9 : Int) (r10 : List Int) (r11 : ByteArray) (r12 : Int) (w : World) (Post : Ending → World → Prop) (h : msg_Decode.f k a0 = some (r1, r2, r3, r4, r5, r6, r7, r8, r9, r10, r11, r12))
  (hP : ∀ v6 v9 w', Kd.S k67 67 w' w.heap.size (fun i => some i ≠ v9.ownBlock) v6 r7 → Kd.R (Kd.int .i64) 3 w' w.heap.size (fun _ => True) v9 r10 → Below w.heap.size w w' → Post (.returned (.tuple #[.agg #[.int .u8 r1, .int .u64 r2, .int .u64 r3, .int .u64 r4, .int .u64 r5, .bool r6, v6, .int .u64 r8, .int .u64 r9, v9, .string r11], .int .i64 r12])) w') :
  Calls Try.prog 15 #[.string a0] w Post := by
 have HB := a_ (Below.refl w.heap.size w)
 obtain ⟨⟨p, rest, why⟩, h0, H1⟩ := Option.bind_eq_some_iff.mp h
 obtain ⟨⟨m0, m1, m2, m3, m4, m5, m6, m7, m8, m9, m10, s2, b2⟩, h1, H⟩ := Option.bind_eq_some_iff.mp H1
 clear H1
 dsimp only at H
 have A0 := a_ h0
 have A1 := a_ h1
 have H0 := a_ H
 have HP := a_ hP
 clear h0 h1 h H hP
 go_enter Try.func15, Try.ntmps15
 go_upto_region 3 with (first | ((with_reducible refine gd_ 2 ?_); refine bx_ 2 #[.int .u8 0, .int .u64 0, .int .u64 0, .int .u64 0, .int .u64 0, .bool false, .slice none 0 0, .int .u64 0, .int .u64 0, .slice none 0 0, .string (⟨#[]⟩ : ByteArray)] 37 ?_; intro gr hg w_ hbox hb; have BKr := a_ hbox; have GEr := a_ (bs_0 hg HB); replace HB := hB_ (bl_ HB) hb; clear hb hbox hg) | (go_at_call 12; (with_reducible refine (pack_TakeFrame.calls k a0 p rest why _ A0.out).mono ?_); rintro e w4 ⟨rfl, hb⟩; replace BKr := bB_ BKr hb; replace HB := hB_ (bl_1 HB GEr) hb; clear hb) | (go_at_call 27; (with_reducible refine (order_From.calls p _).mono ?_); rintro e w5 ⟨rfl, hs, hb⟩; have NRg := a_ (Nat.ne_of_lt (blk_lt BKr.out)); have GEg := a_ HB.out.size; replace BKr := bB_ BKr hb; have HI := a_ (show IsS87 w _ _ p false from ⟨91, by decide, hs, GEg.out⟩); replace HB := hB_ (bl_1 HB GEr) hb; clear hb hs))
 have NRt := a_ (Nat.ne_of_lt (blk_lt BKr.out))
 have NTg := a_ (Nat.ne_of_gt HI.out.lt)
 refine gen_world (fun w1 => w1.heap[w5.heap.size]? = some (.cells #[.pointer (some ⟨w4.heap.size, 0, none⟩)] 54 (0, 0)) ∧ w1.heap[gr]? = some (.cells #[.int .u8 0, .int .u64 0, .int .u64 0, .int .u64 0, .int .u64 0, .bool false, .slice none 0 0, .int .u64 0, .int .u64 0, .slice none 0 0, .string (⟨#[]⟩ : ByteArray)] 37 (0, 0)) ∧ IsS87 w w1 w4.heap.size p false ∧ Below w.heap.size w w1) ⟨alloc_newD _ _, blk_alloc BKr.out _, HI.out.alloc _, HB.out.alloc HB.out.size _⟩ ?_
 clear BKr HI HB
 rintro w1 ⟨BKt, BKr, HI, HB⟩
 generalize w5.heap.size = gt at *
 generalize w4.heap.size = g at *
 replace BKt := a_ BKt
 replace BKr := a_ BKr
 replace HI := a_ HI
 replace HB := a_ HB
 have hxt := (blk_cell BKt.out 0).trans rfl
 go_upto_region 4 with (first | (go_at_call 28; (refine msg_tmsg.walk k g p false m0 m1 m2 m3 m4 m5 m6 m7 m8 m9 m10 s2 b2 w _ _ HI.out HB.out A1.out ?_); intro v6 v9 w6 ho6 ho9 hi hb hk; have HO6 := a_ (Kd.S_lower ho6 HB.out.size); have HO9 := a_ (Kd.R_lower ho9 HB.out.size); obtain ⟨A6, c6, hv6⟩ := Kd.S_slice HO6.out; subst hv6; obtain ⟨A9, c9, hv9⟩ := Kd.R_slice HO9.out; subst hv9; replace HI := a_ hi; replace BKr := a_ (keep_blk hk NRg.out BKr.out); replace BKt := a_ (keep_blk hk NTg.out BKt.out); replace HB := a_ hb; clear hi hb hk ho6 ho9))
 have NMg := a_ (Nat.ne_of_gt HI.out.lt)
 have NRm := a_ (Nat.ne_of_lt (blk_lt BKr.out))
 refine gen_world (fun w1 => w1.heap[w6.heap.size]? = some (.cells #[.int .u8 m0, .int .u64 m1, .int .u64 m2, .int .u64 m3, .int .u64 m4, .bool m5, .slice A6 m6.length c6, .int .u64 m7, .int .u64 m8, .slice A9 m9.length c9, .string m10] 37 (0, 0)) ∧ w1.heap[gt]? = some (.cells #[.pointer (some ⟨g, 0, none⟩)] 54 (0, 0)) ∧ w1.heap[gr]? = some (.cells #[.int .u8 0, .int .u64 0, .int .u64 0, .int .u64 0, .int .u64 0, .bool false, .slice none 0 0, .int .u64 0, .int .u64 0, .slice none 0 0, .string (⟨#[]⟩ : ByteArray)] 37 (0, 0)) ∧ IsS87 w w1 g s2 b2 ∧ Below w.heap.size w w1 ∧ Kd.S k67 67 w1 w.heap.size (fun i => some i ≠ (Value.slice A9 m9.length c9).ownBlock) (.slice A6 m6.length c6) m6 ∧ Kd.R (Kd.int .i64) 3 w1 w.heap.size (fun _ => True) (.slice A9 m9.length c9) m9) ⟨alloc_newD _ _, blk_alloc BKt.out _, blk_alloc BKr.out _, HI.out.alloc _, HB.out.alloc HB.out.size _, Kd.S_alloc HO6.out _, Kd.R_alloc HO9.out _⟩ ?_
 clear BKr BKt HI HB hxt HO6 HO9
 rintro w9 ⟨BKm, BKt, BKr, HI, HB, HO6, HO9⟩
 generalize w6.heap.size = gm at *
 replace BKm := a_ BKm
 replace BKt := a_ BKt
 replace BKr := a_ BKr
 replace HI := a_ HI
 replace HB := a_ HB
 replace HO6 := a_ HO6
 replace HO9 := a_ HO9
 have hxt := (blk_cell BKt.out 0).trans rfl
 have hxm_0 := (blk_cell BKm.out 0).trans rfl
 have hxr_0 := (blk_cell BKr.out 0).trans rfl
 have hxs_0 := blk_frozen BKr.out 0
 have hxm_1 := (blk_cell BKm.out 1).trans rfl
 have hxr_1 := (blk_cell BKr.out 1).trans rfl
 have hxs_1 := blk_frozen BKr.out 1
 have hxm_2 := (blk_cell BKm.out 2).trans rfl
 have hxr_2 := (blk_cell BKr.out 2).trans rfl
 have hxs_2 := blk_frozen BKr.out 2
 have hxm_3 := (blk_cell BKm.out 3).trans rfl
 have hxr_3 := (blk_cell BKr.out 3).trans rfl
 have hxs_3 := blk_frozen BKr.out 3
 have hxm_4 := (blk_cell BKm.out 4).trans rfl
 have hxr_4 := (blk_cell BKr.out 4).trans rfl
 have hxs_4 := blk_frozen BKr.out 4
 have hxm_5 := (blk_cell BKm.out 5).trans rfl
 have hxr_5 := (blk_cell BKr.out 5).trans rfl
 have hxs_5 := blk_frozen BKr.out 5
 have hxm_6 := (blk_cell BKm.out 6).trans rfl
 have hxr_6 := (blk_cell BKr.out 6).trans rfl
 have hxs_6 := blk_frozen BKr.out 6
 have hxm_7 := (blk_cell BKm.out 7).trans rfl
 have hxr_7 := (blk_cell BKr.out 7).trans rfl
 have hxs_7 := blk_frozen BKr.out 7
 have hxm_8 := (blk_cell BKm.out 8).trans rfl
 have hxr_8 := (blk_cell BKr.out 8).trans rfl
 have hxs_8 := blk_frozen BKr.out 8
 have hxm_9 := (blk_cell BKm.out 9).trans rfl
 have hxr_9 := (blk_cell BKr.out 9).trans rfl
 have hxs_9 := blk_frozen BKr.out 9
 have hxm_10 := (blk_cell BKm.out 10).trans rfl
 have hxr_10 := (blk_cell BKr.out 10).trans rfl
 have hxs_10 := blk_frozen BKr.out 10
 have H := H0.out
 clear H0
 have EE : ∀ a b n W, a = b → Post (.returned (.tuple #[.agg a, n])) W → Post (.returned (.tuple #[.agg b, n])) W := fun a b n W e h => e ▸ h
 by_cases c1 : why = 0
 rotate_left
 · rw [if_neg c1] at H
   have c1b := beq_eq_false_iff_ne.mpr c1
   have c1d : (why != 0) = true := bne_iff_ne.mpr c1
   clear c1
   simp only [Option.some.injEq, Prod.mk.injEq] at H
   obtain ⟨rfl, rfl, rfl, rfl, rfl, rfl, rfl, rfl, rfl, rfl, rfl, rfl⟩ := H
   go_wp2
   have F := msg_Decode.fin (Kd.S_nil k67 67 _ w.heap.size (fun i => some i ≠ (Value.slice none 0 0).ownBlock)) (Kd.R_nil (Kd.int .i64) 3 _ w.heap.size (fun _ => True)) HB.out BKr.out GEr.out
   refine bodyPost_ret (results_ct rfl _ _ gr 37 _ (0, 0) _ rfl (blk_set (blk_set (blk_set (blk_set (blk_set (blk_set (blk_set (blk_set (blk_set (blk_set (blk_set BKr.out 0 _) 1 _) 2 _) 3 _) 4 _) 5 _) 6 _) 7 _) 8 _) 9 _) 10 _) Try.underlying37 rfl (by kernel_rfl)) rfl ?_
   refine EE _ _ _ _ ?_ (HP.out _ _ _ (F _ _ _ _ _ _ _ _ _ _ _).1 (F _ _ _ _ _ _ _ _ _ _ _).2.1 (F _ _ _ _ _ _ _ _ _ _ _).2.2)
   simp only [List.setIfInBounds_toArray, List.set_cons_zero, List.set_cons_succ]
 rw [if_pos c1] at H
 have c1b : (why == 0) = true := beq_iff_eq.mpr c1
 have c1d : (why != 0) = false := bne_eq_false_iff_eq.mpr c1
 clear c1
 by_cases c2 : rest.toList = ([] : List UInt8)
 rotate_left
 · rw [if_neg c2] at H
   have c2b : (rest.toList == ([] : List UInt8)) = false := beq_eq_false_iff_ne.mpr c2
   have c2d : (rest.toList != ([] : List UInt8)) = true := bne_iff_ne.mpr c2
   clear c2
   simp only [Option.some.injEq, Prod.mk.injEq] at H
   obtain ⟨rfl, rfl, rfl, rfl, rfl, rfl, rfl, rfl, rfl, rfl, rfl, rfl⟩ := H
   go_wp2
   have F := msg_Decode.fin (Kd.S_nil k67 67 _ w.heap.size (fun i => some i ≠ (Value.slice none 0 0).ownBlock)) (Kd.R_nil (Kd.int .i64) 3 _ w.heap.size (fun _ => True)) HB.out BKr.out GEr.out
   refine bodyPost_ret (results_ct rfl _ _ gr 37 _ (0, 0) _ rfl (blk_set (blk_set (blk_set (blk_set (blk_set (blk_set (blk_set (blk_set (blk_set (blk_set (blk_set BKr.out 0 _) 1 _) 2 _) 3 _) 4 _) 5 _) 6 _) 7 _) 8 _) 9 _) 10 _) Try.underlying37 rfl (by kernel_rfl)) rfl ?_
   refine EE _ _ _ _ ?_ (HP.out _ _ _ (F _ _ _ _ _ _ _ _ _ _ _).1 (F _ _ _ _ _ _ _ _ _ _ _).2.1 (F _ _ _ _ _ _ _ _ _ _ _).2.2)
   simp only [List.setIfInBounds_toArray, List.set_cons_zero, List.set_cons_succ]
 rw [if_pos c2] at H
 have c2b : (rest.toList == ([] : List UInt8)) = true := beq_iff_eq.mpr c2
 have c2d : (rest.toList != ([] : List UInt8)) = false := bne_eq_false_iff_eq.mpr c2
 clear c2
 obtain ⟨⟨v1, v2, v3⟩, AV0, H⟩ := Option.bind_eq_some_iff.mp H
 have AV := a_ AV0
 clear AV0
 dsimp only at H
 cases v1
 · rw [if_neg (by decide)] at H
   simp only [Option.some.injEq, Prod.mk.injEq] at H
   obtain ⟨rfl, rfl, rfl, rfl, rfl, rfl, rfl, rfl, rfl, rfl, rfl, rfl⟩ := H
   go_wp2_with (first | (go_at_call 29; (with_reducible refine (order_Taker_Over.calls g s2 b2 _ v2 v3 w _ HI.out HB.out AV.out).mono ?_); rintro e w7 ⟨rfl, hi, hb, hk⟩; replace HO6 := a_ (Kd.S_mono (ok' := fun i => some i ≠ (Value.slice A9 m9.length c9).ownBlock) (Kd.S_keep (IsS87.apartS HI.out HO6.out (by decide)) hk (fun _ h => h.2)) (fun _ h => h.1)); replace HO9 := a_ (Kd.R_mono (ok' := fun _ => True) (Kd.R_keep (IsS87.apart HI.out HO9.out (by decide)) hk (fun _ h => h.2)) (fun _ _ => trivial)); replace HI := a_ hi; replace BKr := a_ (keep_blk hk NRg.out BKr.out); replace BKm := a_ (keep_blk hk NMg.out BKm.out); replace HB := a_ hb; clear hi hb hk; have ho_0 := (blk_cell BKm.out 0).trans rfl; have hp_0 := (blk_cell BKr.out 0).trans rfl; have hq_0 := blk_frozen BKr.out 0; have ho_1 := (blk_cell BKm.out 1).trans rfl; have hp_1 := (blk_cell BKr.out 1).trans rfl; have hq_1 := blk_frozen BKr.out 1; have ho_2 := (blk_cell BKm.out 2).trans rfl; have hp_2 := (blk_cell BKr.out 2).trans rfl; have hq_2 := blk_frozen BKr.out 2; have ho_3 := (blk_cell BKm.out 3).trans rfl; have hp_3 := (blk_cell BKr.out 3).trans rfl; have hq_3 := blk_frozen BKr.out 3; have ho_4 := (blk_cell BKm.out 4).trans rfl; have hp_4 := (blk_cell BKr.out 4).trans rfl; have hq_4 := blk_frozen BKr.out 4; have ho_5 := (blk_cell BKm.out 5).trans rfl; have hp_5 := (blk_cell BKr.out 5).trans rfl; have hq_5 := blk_frozen BKr.out 5; have ho_6 := (blk_cell BKm.out 6).trans rfl; have hp_6 := (blk_cell BKr.out 6).trans rfl; have hq_6 := blk_frozen BKr.out 6; have ho_7 := (blk_cell BKm.out 7).trans rfl; have hp_7 := (blk_cell BKr.out 7).trans rfl; have hq_7 := blk_frozen BKr.out 7; have ho_8 := (blk_cell BKm.out 8).trans rfl; have hp_8 := (blk_cell BKr.out 8).trans rfl; have hq_8 := blk_frozen BKr.out 8; have ho_9 := (blk_cell BKm.out 9).trans rfl; have hp_9 := (blk_cell BKr.out 9).trans rfl; have hq_9 := blk_frozen BKr.out 9; have ho_10 := (blk_cell BKm.out 10).trans rfl; have hp_10 := (blk_cell BKr.out 10).trans rfl; have hq_10 := blk_frozen BKr.out 10))
   have F := msg_Decode.fin (Kd.S_nil k67 67 _ w.heap.size (fun i => some i ≠ (Value.slice none 0 0).ownBlock)) (Kd.R_nil (Kd.int .i64) 3 _ w.heap.size (fun _ => True)) HB.out BKr.out GEr.out
   refine bodyPost_ret (results_ct rfl _ _ gr 37 _ (0, 0) _ rfl (blk_set (blk_set (blk_set (blk_set (blk_set (blk_set (blk_set (blk_set (blk_set (blk_set (blk_set BKr.out 0 _) 1 _) 2 _) 3 _) 4 _) 5 _) 6 _) 7 _) 8 _) 9 _) 10 _) Try.underlying37 rfl (by kernel_rfl)) rfl ?_
   refine EE _ _ _ _ ?_ (HP.out _ _ _ (F _ _ _ _ _ _ _ _ _ _ _).1 (F _ _ _ _ _ _ _ _ _ _ _).2.1 (F _ _ _ _ _ _ _ _ _ _ _).2.2)
   simp only [List.setIfInBounds_toArray, List.set_cons_zero, List.set_cons_succ]
 rw [if_pos rfl] at H
 obtain ⟨c, AC0, H⟩ := Option.bind_eq_some_iff.mp H
 have AC := a_ AC0
 clear AC0
 by_cases c3 : c = 0
 rotate_left
 · rw [if_neg c3] at H
   have c3b : (c == 0) = false := beq_eq_false_iff_ne.mpr c3
   have c3d : (c != 0) = true := bne_iff_ne.mpr c3
   clear c3
   simp only [Option.some.injEq, Prod.mk.injEq] at H
   obtain ⟨rfl, rfl, rfl, rfl, rfl, rfl, rfl, rfl, rfl, rfl, rfl, rfl⟩ := H
   go_wp2_with (first | (go_at_call 29; (with_reducible refine (order_Taker_Over.calls g s2 b2 _ v2 v3 w _ HI.out HB.out AV.out).mono ?_); rintro e w7 ⟨rfl, hi, hb, hk⟩; replace HO6 := a_ (Kd.S_mono (ok' := fun i => some i ≠ (Value.slice A9 m9.length c9).ownBlock) (Kd.S_keep (IsS87.apartS HI.out HO6.out (by decide)) hk (fun _ h => h.2)) (fun _ h => h.1)); replace HO9 := a_ (Kd.R_mono (ok' := fun _ => True) (Kd.R_keep (IsS87.apart HI.out HO9.out (by decide)) hk (fun _ h => h.2)) (fun _ _ => trivial)); replace HI := a_ hi; replace BKr := a_ (keep_blk hk NRg.out BKr.out); replace BKm := a_ (keep_blk hk NMg.out BKm.out); replace HB := a_ hb; clear hi hb hk; have ho_0 := (blk_cell BKm.out 0).trans rfl; have hp_0 := (blk_cell BKr.out 0).trans rfl; have hq_0 := blk_frozen BKr.out 0; have ho_1 := (blk_cell BKm.out 1).trans rfl; have hp_1 := (blk_cell BKr.out 1).trans rfl; have hq_1 := blk_frozen BKr.out 1; have ho_2 := (blk_cell BKm.out 2).trans rfl; have hp_2 := (blk_cell BKr.out 2).trans rfl; have hq_2 := blk_frozen BKr.out 2; have ho_3 := (blk_cell BKm.out 3).trans rfl; have hp_3 := (blk_cell BKr.out 3).trans rfl; have hq_3 := blk_frozen BKr.out 3; have ho_4 := (blk_cell BKm.out 4).trans rfl; have hp_4 := (blk_cell BKr.out 4).trans rfl; have hq_4 := blk_frozen BKr.out 4; have ho_5 := (blk_cell BKm.out 5).trans rfl; have hp_5 := (blk_cell BKr.out 5).trans rfl; have hq_5 := blk_frozen BKr.out 5; have ho_6 := (blk_cell BKm.out 6).trans rfl; have hp_6 := (blk_cell BKr.out 6).trans rfl; have hq_6 := blk_frozen BKr.out 6; have ho_7 := (blk_cell BKm.out 7).trans rfl; have hp_7 := (blk_cell BKr.out 7).trans rfl; have hq_7 := blk_frozen BKr.out 7; have ho_8 := (blk_cell BKm.out 8).trans rfl; have hp_8 := (blk_cell BKr.out 8).trans rfl; have hq_8 := blk_frozen BKr.out 8; have ho_9 := (blk_cell BKm.out 9).trans rfl; have hp_9 := (blk_cell BKr.out 9).trans rfl; have hq_9 := blk_frozen BKr.out 9; have ho_10 := (blk_cell BKm.out 10).trans rfl; have hp_10 := (blk_cell BKr.out 10).trans rfl; have hq_10 := blk_frozen BKr.out 10) | (go_at_call 19; (with_reducible refine (msg_Check.calls k m0 m1 m2 m3 m4 m5 A6 c6 m6 m7 m8 A9 c9 m9 m10 c _ ?k1 ?k2 ?k3 ?k4 AC.out).mono ?_); (case k1 => exact (Kd.S_reads' HO6.out).2.2); (case k2 => exact (Kd.S_reads' HO6.out).2.1); (case k3 => exact (Kd.R_reads' HO9.out).2.2); (case k4 => exact (Kd.R_reads' HO9.out).2.1); rintro e w8 ⟨rfl, hb⟩; replace HO6 := a_ (Kd.S_below HO6.out hb); replace HO9 := a_ (Kd.R_below HO9.out hb); replace BKr := bB_ BKr hb; replace BKm := bB_ BKm hb; replace HB := a_ (HB.out.trans (below_up hb HB.out.size)); clear hb; have ht_0 := (blk_cell BKm.out 0).trans rfl; have hu_0 := (blk_cell BKr.out 0).trans rfl; have hv_0 := blk_frozen BKr.out 0; have ht_1 := (blk_cell BKm.out 1).trans rfl; have hu_1 := (blk_cell BKr.out 1).trans rfl; have hv_1 := blk_frozen BKr.out 1; have ht_2 := (blk_cell BKm.out 2).trans rfl; have hu_2 := (blk_cell BKr.out 2).trans rfl; have hv_2 := blk_frozen BKr.out 2; have ht_3 := (blk_cell BKm.out 3).trans rfl; have hu_3 := (blk_cell BKr.out 3).trans rfl; have hv_3 := blk_frozen BKr.out 3; have ht_4 := (blk_cell BKm.out 4).trans rfl; have hu_4 := (blk_cell BKr.out 4).trans rfl; have hv_4 := blk_frozen BKr.out 4; have ht_5 := (blk_cell BKm.out 5).trans rfl; have hu_5 := (blk_cell BKr.out 5).trans rfl; have hv_5 := blk_frozen BKr.out 5; have ht_6 := (blk_cell BKm.out 6).trans rfl; have hu_6 := (blk_cell BKr.out 6).trans rfl; have hv_6 := blk_frozen BKr.out 6; have ht_7 := (blk_cell BKm.out 7).trans rfl; have hu_7 := (blk_cell BKr.out 7).trans rfl; have hv_7 := blk_frozen BKr.out 7; have ht_8 := (blk_cell BKm.out 8).trans rfl; have hu_8 := (blk_cell BKr.out 8).trans rfl; have hv_8 := blk_frozen BKr.out 8; have ht_9 := (blk_cell BKm.out 9).trans rfl; have hu_9 := (blk_cell BKr.out 9).trans rfl; have hv_9 := blk_frozen BKr.out 9; have ht_10 := (blk_cell BKm.out 10).trans rfl; have hu_10 := (blk_cell BKr.out 10).trans rfl; have hv_10 := blk_frozen BKr.out 10))
   have F := msg_Decode.fin (Kd.S_nil k67 67 _ w.heap.size (fun i => some i ≠ (Value.slice none 0 0).ownBlock)) (Kd.R_nil (Kd.int .i64) 3 _ w.heap.size (fun _ => True)) HB.out BKr.out GEr.out
   refine bodyPost_ret (results_ct rfl _ _ gr 37 _ (0, 0) _ rfl (blk_set (blk_set (blk_set (blk_set (blk_set (blk_set (blk_set (blk_set (blk_set (blk_set (blk_set BKr.out 0 _) 1 _) 2 _) 3 _) 4 _) 5 _) 6 _) 7 _) 8 _) 9 _) 10 _) Try.underlying37 rfl (by kernel_rfl)) rfl ?_
   refine EE _ _ _ _ ?_ (HP.out _ _ _ (F _ _ _ _ _ _ _ _ _ _ _).1 (F _ _ _ _ _ _ _ _ _ _ _).2.1 (F _ _ _ _ _ _ _ _ _ _ _).2.2)
   simp only [List.setIfInBounds_toArray, List.set_cons_zero, List.set_cons_succ]
 rw [if_pos c3] at H
 have c3b : (c == 0) = true := beq_iff_eq.mpr c3
 have c3d : (c != 0) = false := bne_eq_false_iff_eq.mpr c3
 clear c3
 simp only [Option.some.injEq, Prod.mk.injEq] at H
 obtain ⟨rfl, rfl, rfl, rfl, rfl, rfl, rfl, rfl, rfl, rfl, rfl, rfl⟩ := H
 go_wp2_with (first | (go_at_call 29; (with_reducible refine (order_Taker_Over.calls g s2 b2 _ v2 v3 w _ HI.out HB.out AV.out).mono ?_); rintro e w7 ⟨rfl, hi, hb, hk⟩; replace HO6 := a_ (Kd.S_mono (ok' := fun i => some i ≠ (Value.slice A9 m9.length c9).ownBlock) (Kd.S_keep (IsS87.apartS HI.out HO6.out (by decide)) hk (fun _ h => h.2)) (fun _ h => h.1)); replace HO9 := a_ (Kd.R_mono (ok' := fun _ => True) (Kd.R_keep (IsS87.apart HI.out HO9.out (by decide)) hk (fun _ h => h.2)) (fun _ _ => trivial)); replace HI := a_ hi; replace BKr := a_ (keep_blk hk NRg.out BKr.out); replace BKm := a_ (keep_blk hk NMg.out BKm.out); replace HB := a_ hb; clear hi hb hk; have ho_0 := (blk_cell BKm.out 0).trans rfl; have hp_0 := (blk_cell BKr.out 0).trans rfl; have hq_0 := blk_frozen BKr.out 0; have ho_1 := (blk_cell BKm.out 1).trans rfl; have hp_1 := (blk_cell BKr.out 1).trans rfl; have hq_1 := blk_frozen BKr.out 1; have ho_2 := (blk_cell BKm.out 2).trans rfl; have hp_2 := (blk_cell BKr.out 2).trans rfl; have hq_2 := blk_frozen BKr.out 2; have ho_3 := (blk_cell BKm.out 3).trans rfl; have hp_3 := (blk_cell BKr.out 3).trans rfl; have hq_3 := blk_frozen BKr.out 3; have ho_4 := (blk_cell BKm.out 4).trans rfl; have hp_4 := (blk_cell BKr.out 4).trans rfl; have hq_4 := blk_frozen BKr.out 4; have ho_5 := (blk_cell BKm.out 5).trans rfl; have hp_5 := (blk_cell BKr.out 5).trans rfl; have hq_5 := blk_frozen BKr.out 5; have ho_6 := (blk_cell BKm.out 6).trans rfl; have hp_6 := (blk_cell BKr.out 6).trans rfl; have hq_6 := blk_frozen BKr.out 6; have ho_7 := (blk_cell BKm.out 7).trans rfl; have hp_7 := (blk_cell BKr.out 7).trans rfl; have hq_7 := blk_frozen BKr.out 7; have ho_8 := (blk_cell BKm.out 8).trans rfl; have hp_8 := (blk_cell BKr.out 8).trans rfl; have hq_8 := blk_frozen BKr.out 8; have ho_9 := (blk_cell BKm.out 9).trans rfl; have hp_9 := (blk_cell BKr.out 9).trans rfl; have hq_9 := blk_frozen BKr.out 9; have ho_10 := (blk_cell BKm.out 10).trans rfl; have hp_10 := (blk_cell BKr.out 10).trans rfl; have hq_10 := blk_frozen BKr.out 10) | (go_at_call 19; (with_reducible refine (msg_Check.calls k m0 m1 m2 m3 m4 m5 A6 c6 m6 m7 m8 A9 c9 m9 m10 c _ ?k1 ?k2 ?k3 ?k4 AC.out).mono ?_); (case k1 => exact (Kd.S_reads' HO6.out).2.2); (case k2 => exact (Kd.S_reads' HO6.out).2.1); (case k3 => exact (Kd.R_reads' HO9.out).2.2); (case k4 => exact (Kd.R_reads' HO9.out).2.1); rintro e w8 ⟨rfl, hb⟩; replace HO6 := a_ (Kd.S_below HO6.out hb); replace HO9 := a_ (Kd.R_below HO9.out hb); replace BKr := bB_ BKr hb; replace BKm := bB_ BKm hb; replace HB := a_ (HB.out.trans (below_up hb HB.out.size)); clear hb; have ht_0 := (blk_cell BKm.out 0).trans rfl; have hu_0 := (blk_cell BKr.out 0).trans rfl; have hv_0 := blk_frozen BKr.out 0; have ht_1 := (blk_cell BKm.out 1).trans rfl; have hu_1 := (blk_cell BKr.out 1).trans rfl; have hv_1 := blk_frozen BKr.out 1; have ht_2 := (blk_cell BKm.out 2).trans rfl; have hu_2 := (blk_cell BKr.out 2).trans rfl; have hv_2 := blk_frozen BKr.out 2; have ht_3 := (blk_cell BKm.out 3).trans rfl; have hu_3 := (blk_cell BKr.out 3).trans rfl; have hv_3 := blk_frozen BKr.out 3; have ht_4 := (blk_cell BKm.out 4).trans rfl; have hu_4 := (blk_cell BKr.out 4).trans rfl; have hv_4 := blk_frozen BKr.out 4; have ht_5 := (blk_cell BKm.out 5).trans rfl; have hu_5 := (blk_cell BKr.out 5).trans rfl; have hv_5 := blk_frozen BKr.out 5; have ht_6 := (blk_cell BKm.out 6).trans rfl; have hu_6 := (blk_cell BKr.out 6).trans rfl; have hv_6 := blk_frozen BKr.out 6; have ht_7 := (blk_cell BKm.out 7).trans rfl; have hu_7 := (blk_cell BKr.out 7).trans rfl; have hv_7 := blk_frozen BKr.out 7; have ht_8 := (blk_cell BKm.out 8).trans rfl; have hu_8 := (blk_cell BKr.out 8).trans rfl; have hv_8 := blk_frozen BKr.out 8; have ht_9 := (blk_cell BKm.out 9).trans rfl; have hu_9 := (blk_cell BKr.out 9).trans rfl; have hv_9 := blk_frozen BKr.out 9; have ht_10 := (blk_cell BKm.out 10).trans rfl; have hu_10 := (blk_cell BKr.out 10).trans rfl; have hv_10 := blk_frozen BKr.out 10))
 have F := msg_Decode.fin HO6.out HO9.out HB.out BKr.out GEr.out
 refine bodyPost_ret (results_ct rfl _ _ gr 37 _ (0, 0) _ rfl (blk_set (blk_set (blk_set (blk_set (blk_set (blk_set (blk_set (blk_set (blk_set (blk_set (blk_set BKr.out 0 _) 1 _) 2 _) 3 _) 4 _) 5 _) 6 _) 7 _) 8 _) 9 _) 10 _) Try.underlying37 rfl (by kernel_rfl)) rfl ?_
 refine EE _ _ _ _ ?_ (HP.out _ _ _ (F _ _ _ _ _ _ _ _ _ _ _).1 (F _ _ _ _ _ _ _ _ _ _ _).2.1 (F _ _ _ _ _ _ _ _ _ _ _).2.2)
 simp only [List.setIfInBounds_toArray, List.set_cons_zero, List.set_cons_succ]
theorem msg_Decode.calls (k : Nat) (a0 : ByteArray) (r1 : Int) (r2 : Int) (r3 : Int) (r4 : Int) (r5 : Int) (r6 : Bool) (r7 : List (S67)) (r8 : Int) (r9 : Int) (r10 : List Int) (r11 : ByteArray) (r12 : Int) (w : World) (h : msg_Decode.f k a0 = some (r1, r2, r3, r4, r5, r6, r7, r8, r9, r10, r11, r12)) :
  Calls Try.prog 15 #[.string a0] w fun e w' => ∃ v6_ v9_ : Value, e = .returned (.tuple #[.agg #[.int .u8 r1, .int .u64 r2, .int .u64 r3, .int .u64 r4, .int .u64 r5, .bool r6, v6_, .int .u64 r8, .int .u64 r9, v9_, .string r11], .int .i64 r12]) ∧ Kd.S k67 67 w' w.heap.size (fun k_ => some k_ ≠ (v9_ : Value).ownBlock) v6_ r7 ∧ Kd.R (Kd.int .i64) 3 w' w.heap.size (fun _ => True) v9_ r10 ∧ Below w.heap.size w w' := by
 refine msg_Decode.walk k a0 r1 r2 r3 r4 r5 r6 r7 r8 r9 r10 r11 r12 w _ h (fun v6 v9 w' h6 h9 hb => ?_)
 exact ⟨_, _, rfl, (by first | exact h6 | exact Kd.S_R h6 | exact Kd.R_mono (Kd.S_R h6) (fun _ _ => trivial)), (by exact h9), hb⟩

end Go.Proofs.Ytcdibodjkdoknaa.PM
