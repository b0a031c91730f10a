-- By a program of this session.
import Derived.Test.YtcdibodjkdoknaaPMx0
import Derived.Test.YtcdibodjkdoknaaPMx1
import Derived.Test.YtcdibodjkdoknaaPMx4
import Derived.Test.YtcdibodjkdoknaaPMx5
namespace Go.Proofs.Ytcdibodjkdoknaa.PM
open Go.RowKit YtcdibodjkdoknaaW.PrintWords YtcdibodjkdoknaaW.PrintLast YtcdibodjkdoknaaW.PrintMore Sh Ytcdibodjkdoknaa.Op
attribute [local go_sem] max2_int min2_int max_two min_two max_three min_three max_four min_four
set_option linter.unusedVariables false
set_option maxHeartbeats 80000000
set_option maxRecDepth 100000
set_option linter.unusedSimpArgs false

def msg_bytes.nums (k : Nat) : ByteArray → List Int → Option ByteArray
 | s, [] => some s
 | s, x :: r => (pack_Number.f k x).bind fun t => (if s.size + t.size ≤ 140737488355328 then msg_bytes.nums k (s ++ t) r else none)
theorem row_cell {w : World} {g j : Nat} {T : TypeId} {xs : List Int} (h : w.heap[g]? = some (.cells (xs.map (Value.int .u64)).toArray T (0, 0))) (hj : j < xs.length) : w.cell? ⟨g, j, none⟩ = some (.int .u64 (xs.getD j 0)) := by
 rw [Lib.cell_of_heap h]
 simp [List.getD_eq_getElem?_getD, List.getElem?_eq_getElem hj]
theorem msg_bytes.nums_calls (k B b g c : Nat) (s r : ByteArray) (l : List Int) (w : World) (hI : Go.Proofs.Ytcdibodjkdoknaa.Mk.IsM w B b s) (hB : B ≤ w.heap.size) (hg : g ≠ b) (hrow : w.heap[g]? = some (.cells (l.map (Value.int .u64)).toArray 31 (0, 0))) (hc : l.length ≤ c) (hl : l.length ≤ 9) (h : msg_bytes.nums k s l = some r) :
  Calls Try.prog 40 #[.pointer (some ⟨b, 0, none⟩), .slice (some ⟨g, 0, none⟩) l.length c] w fun e w' => e = .returned (.tuple #[]) ∧ Go.Proofs.Ytcdibodjkdoknaa.Mk.IsM w' B b r ∧ Below B w w' ∧ Lib.OthersKept 5 (some b) w w' := by
 have BI := a_ hI
 have HR := a_ hrow
 have HB := a_ (Below.refl B w)
 have HO := a_ (Lib.OthersKept.refl 5 (some b) w)
 have GS := a_ hB
 have H0 := a_ h
 clear hI hrow h hB
 go_enter Try.func40, Try.ntmps40
 go_wp2
 go_loopg [8] l.length (fun m v8 w' => ∃ (j : Nat) (s' : ByteArray), j + m = l.length ∧ v8 = .int .i64 (j : Int) ∧ Aside0 (msg_bytes.nums k s' (l.drop j) = some r) ∧ Aside0 (Go.Proofs.Ytcdibodjkdoknaa.Mk.IsM w' B b s') ∧ Aside0 (w'.heap[g]? = some (.cells (l.map (Value.int .u64)).toArray 31 (0, 0))) ∧ Aside0 (B ≤ w'.heap.size) ∧ Aside0 (Below B w w') ∧ Aside0 (Lib.OthersKept 5 (some b) w w'))
 case atStart => exact ⟨0, s, by omega, rfl, H0, BI, HR, GS, HB, HO⟩
 case round =>
  clear BI HR GS HB HO H0
  obtain ⟨j, s', hj, rfl, H0, BI, HR, GS, HB, HO⟩ := hrel
  cases gk with
  | zero =>
   obtain rfl : j = l.length := by omega
   have hd : decide ((l.length : Int) < (l.length : Int)) = false := decide_eq_false (by omega)
   have e : s' = r := by have h := H0.out; rw [List.drop_length] at h; exact Option.some.inj h
   subst e
   go_wp2
   go_end0
   exact ⟨rfl, BI.out, HB.out, HO.out⟩
  | succ m =>
   have hlt : j < l.length := by omega
   have hd : decide ((j : Int) < (l.length : Int)) = true := decide_eq_true (by omega)
   have hd2 : decide (0 ≤ (j : Int)) = true := decide_eq_true (by omega)
   have hc0 := row_cell HR.out hlt
   have H1 : ((pack_Number.f k l[j]).bind fun t => (if s'.size + t.size ≤ 140737488355328 then msg_bytes.nums k (s' ++ t) (l.drop (j + 1)) else none)) = some r := by
    have h := H0.out
    rw [List.drop_eq_getElem_cons hlt] at h
    exact h
   obtain ⟨t, A10, H⟩ := Option.bind_eq_some_iff.mp H1
   by_cases c5 : s'.size + t.size ≤ 140737488355328
   case neg => rw [if_neg c5] at H; cases H
   rw [if_pos c5] at H
   have A1 := a_ A10
   have L5 := a_ c5
   have H' := a_ H
   clear H0 H1 A10 H c5
   go_wp2
   have BId := a_ (show Go.Proofs.Ytcdibodjkdoknaa.Mk.IsM wr.drew B b s' from BI.out)
   have HRd := a_ (show wr.drew.heap[g]? = some (.cells (l.map (Value.int .u64)).toArray 31 (0, 0)) from HR.out)
   have HBd := a_ (show Below B w wr.drew from HB.out.drew)
   have HOd := a_ (show Lib.OthersKept 5 (some b) w wr.drew from HO.out.drew)
   have GSd := a_ (show B ≤ wr.drew.heap.size from GS.out)
   clear BI HR HB HO GS
   go_region_with (first | (go_at_call 73; (with_reducible refine (pack_Number.calls k l[j] t _ A1.out).mono ?_); rintro e w4 ⟨rfl, hb⟩; replace BId := a_ (Go.Proofs.Ytcdibodjkdoknaa.Mk.IsM.below BId.out hb); replace HRd := a_ ((hb.block g (blk_lt HRd.out)).trans HRd.out); replace HBd := a_ (HBd.out.trans (below_up hb GSd.out)); replace HOd := a_ (HOd.out.trans (fun k o hk _ _ => (hb.block k (blk_lt hk)).trans hk)); replace GSd := a_ (Nat.le_trans GSd.out hb.size); clear hb) | (go_at_call 72; (with_reducible refine (Go.Proofs.Ytcdibodjkdoknaa.Mk.write B b s' t _ BId.out L5.out GSd.out).mono ?_); rintro e w5 ⟨rfl, bi, hb, ho⟩; replace BId := a_ bi; replace HRd := a_ (ho g _ HRd.out (fun e => hg (Option.some.inj e)) (fun c fz e => by injection e with _ e2 _; exact absurd e2 (by decide))); replace HBd := a_ (HBd.out.trans hb); replace HOd := a_ (HOd.out.trans ho); replace GSd := a_ (Nat.le_trans GSd.out hb.size); clear bi hb ho))
   all_goals go_wp2
   all_goals go_roundg m
   case rel => exact ⟨j + 1, s' ++ t, by omega, fz_, H', BId, HRd, GSd, HBd, HOd⟩
   case measure => omega
def msg_bytes.txts (k : Nat) : ByteArray → List ByteArray → Option ByteArray
 | s, [] => some s
 | s, x :: r => (pack_Text.f k x).bind fun t => (if s.size + t.size ≤ 140737488355328 then msg_bytes.txts k (s ++ t) r else none)
theorem row_cellS {w : World} {g j : Nat} {T : TypeId} {xs : List ByteArray} (h : w.heap[g]? = some (.cells (xs.map Value.string).toArray T (0, 0))) (hj : j < xs.length) : w.cell? ⟨g, j, none⟩ = some (.string (xs.getD j ⟨#[]⟩)) := by
 rw [Lib.cell_of_heap h]
 simp [List.getD_eq_getElem?_getD, List.getElem?_eq_getElem hj]
theorem msg_bytes.txts_calls (k B b g c : Nat) (s r : ByteArray) (l : List ByteArray) (w : World) (hI : Go.Proofs.Ytcdibodjkdoknaa.Mk.IsM w B b s) (hB : B ≤ w.heap.size) (hg : g ≠ b) (hrow : w.heap[g]? = some (.cells (l.map Value.string).toArray 9 (0, 0))) (hc : l.length ≤ c) (hl : l.length ≤ 9) (h : msg_bytes.txts k s l = some r) :
  Calls Try.prog 42 #[.pointer (some ⟨b, 0, none⟩), .slice (some ⟨g, 0, none⟩) l.length c] w fun e w' => e = .returned (.tuple #[]) ∧ Go.Proofs.Ytcdibodjkdoknaa.Mk.IsM w' B b r ∧ Below B w w' ∧ Lib.OthersKept 5 (some b) w w' := by
 have BI := a_ hI
 have HR := a_ hrow
 have HB := a_ (Below.refl B w)
 have HO := a_ (Lib.OthersKept.refl 5 (some b) w)
 have GS := a_ hB
 have H0 := a_ h
 clear hI hrow h hB
 go_enter Try.func42, Try.ntmps42
 go_wp2
 go_loopg [8] l.length (fun m v8 w' => ∃ (j : Nat) (s' : ByteArray), j + m = l.length ∧ v8 = .int .i64 (j : Int) ∧ Aside0 (msg_bytes.txts k s' (l.drop j) = some r) ∧ Aside0 (Go.Proofs.Ytcdibodjkdoknaa.Mk.IsM w' B b s') ∧ Aside0 (w'.heap[g]? = some (.cells (l.map Value.string).toArray 9 (0, 0))) ∧ Aside0 (B ≤ w'.heap.size) ∧ Aside0 (Below B w w') ∧ Aside0 (Lib.OthersKept 5 (some b) w w'))
 case atStart => exact ⟨0, s, by omega, rfl, H0, BI, HR, GS, HB, HO⟩
 case round =>
  clear BI HR GS HB HO H0
  obtain ⟨j, s', hj, rfl, H0, BI, HR, GS, HB, HO⟩ := hrel
  cases gk with
  | zero =>
   obtain rfl : j = l.length := by omega
   have hd : decide ((l.length : Int) < (l.length : Int)) = false := decide_eq_false (by omega)
   have e : s' = r := by have h := H0.out; rw [List.drop_length] at h; exact Option.some.inj h
   subst e
   go_wp2
   go_end0
   exact ⟨rfl, BI.out, HB.out, HO.out⟩
  | succ m =>
   have hlt : j < l.length := by omega
   have hd : decide ((j : Int) < (l.length : Int)) = true := decide_eq_true (by omega)
   have hd2 : decide (0 ≤ (j : Int)) = true := decide_eq_true (by omega)
   have hc0 := row_cellS HR.out hlt
   have H1 : ((pack_Text.f k l[j]).bind fun t => (if s'.size + t.size ≤ 140737488355328 then msg_bytes.txts k (s' ++ t) (l.drop (j + 1)) else none)) = some r := by
    have h := H0.out
    rw [List.drop_eq_getElem_cons hlt] at h
    exact h
   obtain ⟨t, A10, H⟩ := Option.bind_eq_some_iff.mp H1
   by_cases c5 : s'.size + t.size ≤ 140737488355328
   case neg => rw [if_neg c5] at H; cases H
   rw [if_pos c5] at H
   have A1 := a_ A10
   have L5 := a_ c5
   have H' := a_ H
   clear H0 H1 A10 H c5
   go_wp2
   have BId := a_ (show Go.Proofs.Ytcdibodjkdoknaa.Mk.IsM wr.drew B b s' from BI.out)
   have HRd := a_ (show wr.drew.heap[g]? = some (.cells (l.map Value.string).toArray 9 (0, 0)) from HR.out)
   have HBd := a_ (show Below B w wr.drew from HB.out.drew)
   have HOd := a_ (show Lib.OthersKept 5 (some b) w wr.drew from HO.out.drew)
   have GSd := a_ (show B ≤ wr.drew.heap.size from GS.out)
   clear BI HR HB HO GS
   go_region_with (first | (go_at_call 74; (with_reducible refine (pack_Text.calls k l[j] t _ A1.out).mono ?_); rintro e w4 ⟨rfl, hb⟩; replace BId := a_ (Go.Proofs.Ytcdibodjkdoknaa.Mk.IsM.below BId.out hb); replace HRd := a_ ((hb.block g (blk_lt HRd.out)).trans HRd.out); replace HBd := a_ (HBd.out.trans (below_up hb GSd.out)); replace HOd := a_ (HOd.out.trans (fun k o hk _ _ => (hb.block k (blk_lt hk)).trans hk)); replace GSd := a_ (Nat.le_trans GSd.out hb.size); clear hb) | (go_at_call 72; (with_reducible refine (Go.Proofs.Ytcdibodjkdoknaa.Mk.write B b s' t _ BId.out L5.out GSd.out).mono ?_); rintro e w5 ⟨rfl, bi, hb, ho⟩; replace BId := a_ bi; replace HRd := a_ (ho g _ HRd.out (fun e => hg (Option.some.inj e)) (fun c fz e => by injection e with _ e2 _; exact absurd e2 (by decide))); replace HBd := a_ (HBd.out.trans hb); replace HOd := a_ (HOd.out.trans ho); replace GSd := a_ (Nat.le_trans GSd.out hb.size); clear bi hb ho))
   all_goals go_wp2
   all_goals go_roundg m
   case rel => exact ⟨j + 1, s' ++ t, by omega, fz_, H', BId, HRd, GSd, HBd, HOd⟩
   case measure => omega

theorem alloc_new (w : World) (o : Obj) : (w.alloc o).heap[w.heap.size]? = some o := by simp [World.alloc, -World.alloc_eq]
theorem isM_alloc {w : World} {B b : Nat} {s : ByteArray} (h : Go.Proofs.Ytcdibodjkdoknaa.Mk.IsM w B b s) (o : Obj) : Go.Proofs.Ytcdibodjkdoknaa.Mk.IsM (w.alloc o) B b s := Go.Proofs.Ytcdibodjkdoknaa.Mk.IsM.below h ((Below.refl _ _).alloc (Nat.le_refl _) o)
theorem msg_bytes.nums_arm (k b : Nat) (s r : ByteArray) (l : List Int) {w : World} {os : Array Value} {n : Nat} (hI : Go.Proofs.Ytcdibodjkdoknaa.Mk.IsM w b b s) (h : msg_bytes.nums k s l = some r) (hos : os = (l.map (Value.int .u64)).toArray := by rfl) (hn : n = l.length := by rfl) (hl : l.length ≤ 9 := by decide) :
  Calls Try.prog 40 #[.pointer (some ⟨b, 0, none⟩), .slice (some ⟨w.heap.size, 0, none⟩) n n] (w.alloc (.cells os 31)) fun e w' => e = .returned (.tuple #[]) ∧ Go.Proofs.Ytcdibodjkdoknaa.Mk.IsM w' b b r ∧ Below b w w' := by
 subst hn hos
 have hlt := Go.Proofs.Ytcdibodjkdoknaa.Mk.IsM.lt hI
 have hb : Below b w (w.alloc (.cells (l.map (Value.int .u64)).toArray 31)) := (Below.refl _ _).alloc (by omega) _
 refine (msg_bytes.nums_calls k b b w.heap.size l.length s r l _ (isM_alloc hI _) (Nat.le_trans (Nat.le_of_lt hlt) hb.size) (by omega) (alloc_new _ _) (Nat.le_refl _) hl h).mono ?_
 rintro e w' ⟨rfl, h1, h2, _⟩
 exact ⟨rfl, h1, hb.trans h2⟩
theorem msg_bytes.txts_arm (k b : Nat) (s r : ByteArray) (l : List ByteArray) {w : World} {os : Array Value} {n : Nat} (hI : Go.Proofs.Ytcdibodjkdoknaa.Mk.IsM w b b s) (h : msg_bytes.txts k s l = some r) (hos : os = (l.map Value.string).toArray := by rfl) (hn : n = l.length := by rfl) (hl : l.length ≤ 9 := by decide) :
  Calls Try.prog 42 #[.pointer (some ⟨b, 0, none⟩), .slice (some ⟨w.heap.size, 0, none⟩) n n] (w.alloc (.cells os 9)) fun e w' => e = .returned (.tuple #[]) ∧ Go.Proofs.Ytcdibodjkdoknaa.Mk.IsM w' b b r ∧ Below b w w' ∧ Lib.OthersKept 5 (some b) w w' := by
 subst hn hos
 have hlt := Go.Proofs.Ytcdibodjkdoknaa.Mk.IsM.lt hI
 have hb : Below b w (w.alloc (.cells (l.map Value.string).toArray 9)) := (Below.refl _ _).alloc (by omega) _
 refine (msg_bytes.txts_calls k b b w.heap.size l.length s r l _ (isM_alloc hI _) (Nat.le_trans (Nat.le_of_lt hlt) hb.size) (by omega) (alloc_new _ _) (Nat.le_refl _) hl h).mono ?_
 rintro e w' ⟨rfl, h1, h2, h3⟩
 exact ⟨rfl, h1, hb.trans h2, ((Lib.OthersKept.refl _ _ _).alloc _).trans h3⟩

theorem nums_pos {k : Nat} : ∀ {s r : ByteArray} {l : List Int}, msg_bytes.nums k s l = some r → s.size ≠ 0 → r.size ≠ 0
 | s, r, [], h, hs => by cases h; exact hs
 | s, r, x :: l, h, hs => by
  obtain ⟨t, _, H⟩ := Option.bind_eq_some_iff.mp h
  split at H
  · exact nums_pos H (by rw [ByteArray.size_append]; omega)
  · cases H
theorem txts_pos {k : Nat} : ∀ {s r : ByteArray} {l : List ByteArray}, msg_bytes.txts k s l = some r → s.size ≠ 0 → r.size ≠ 0
 | s, r, [], h, hs => by cases h; exact hs
 | s, r, x :: l, h, hs => by
  obtain ⟨t, _, H⟩ := Option.bind_eq_some_iff.mp h
  split at H
  · exact txts_pos H (by rw [ByteArray.size_append]; omega)
  · cases H

def msg_bytes.ents (k : Nat) : ByteArray → List S67 → Option ByteArray
 | s, [] => some s
 | s, x :: r => (wal_Bytes.f k x.f0 x.f1 x.f2 x.f3 x.f4).bind fun t => (msg_bytes.txts k s [t]).bind fun s' => msg_bytes.ents k s' r
def msg_bytes.f (k : Nat) (a0_0 a0_1 a0_2 a0_3 a0_4 : Int) (a0_5 : Bool) (l0_6 : List S67) (a0_7 a0_8 : Int) (l0_9 : List Int) (a0_10 : ByteArray) : Option ByteArray := (msg_bytes.nums k ⟨#[]⟩ [IntKind.u64.wrap a0_0, a0_1]).bind fun s => (if s.size = 0 then none else (if a0_0 = 1 then (msg_bytes.nums k s [a0_2, a0_3]) else (if a0_0 = 2 then ((msg_flag.f a0_5).bind fun g => msg_bytes.nums k s [g]) else (if a0_0 = 3 then (if l0_6.length ≤ 4611686018427387904 then ((msg_bytes.nums k s [a0_2, a0_3, a0_4, IntKind.u64.wrap (l0_6.length : Int)]).bind fun s2 => msg_bytes.ents k s2 l0_6) else none) else (if a0_0 = 4 then ((msg_flag.f a0_5).bind fun g => msg_bytes.nums k s [g, a0_2]) else (if a0_0 = 5 then ((snap_Bytes.f k a0_7 a0_8 l0_9 a0_10).bind fun t => msg_bytes.txts k s [t]) else (some s)))))))
theorem msg_bytes.nums_mono : ∀ (l : List Int) (s : ByteArray) (k : Nat), LeO (msg_bytes.nums k s l) (msg_bytes.nums (k + 1) s l)
 | [], s, k => LeO.refl _
 | x :: r, s, k => LeO.bind (pack_Number.mono _ k) (fun t => LeO.ite (msg_bytes.nums_mono r _ k) (LeO.none _))
theorem msg_bytes.txts_mono : ∀ (l : List ByteArray) (s : ByteArray) (k : Nat), LeO (msg_bytes.txts k s l) (msg_bytes.txts (k + 1) s l)
 | [], s, k => LeO.refl _
 | x :: r, s, k => LeO.bind (pack_Text.mono _ k) (fun t => LeO.ite (msg_bytes.txts_mono r _ k) (LeO.none _))
theorem msg_bytes.ents_mono : ∀ (l : List S67) (s : ByteArray) (k : Nat), LeO (msg_bytes.ents k s l) (msg_bytes.ents (k + 1) s l)
 | [], s, k => LeO.refl _
 | x :: r, s, k => LeO.bind (wal_Bytes.mono _ _ _ _ _ k) (fun t => LeO.bind (msg_bytes.txts_mono _ _ k) (fun _ => msg_bytes.ents_mono r _ k))
theorem msg_bytes.mono : ∀ a0 a1 a2 a3 a4 a5 a6 a7 a8 a9 a10 k, LeO (msg_bytes.f k a0 a1 a2 a3 a4 a5 a6 a7 a8 a9 a10) (msg_bytes.f (k + 1) a0 a1 a2 a3 a4 a5 a6 a7 a8 a9 a10) := by
 intro a0 a1 a2 a3 a4 a5 a6 a7 a8 a9 a10 k
 unfold msg_bytes.f
 repeat' with_reducible first | exact msg_bytes.nums_mono _ _ _ | exact msg_bytes.txts_mono _ _ _ | exact msg_bytes.ents_mono _ _ _ | apply snap_Bytes.mono | apply LeO.refl | apply LeO.none | apply LeO.ite | refine LeO.bind ?_ (fun _ => ?_)
theorem msg_bytes.calls (k : Nat) (a0_0 : Int) (a0_1 : Int) (a0_2 : Int) (a0_3 : Int) (a0_4 : Int) (a0_5 : Bool) (A0_6 : Option Addr) (c0_6 : Nat) (l0_6 : List (S67)) (a0_7 : Int) (a0_8 : Int) (A0_9 : Option Addr) (c0_9 : Nat) (l0_9 : List Int) (a0_10 : ByteArray) (r : ByteArray) (w : World) (hr0_6 : Kd.C k67 w A0_6 l0_6.length l0_6) (hc0_6 : l0_6.length ≤ c0_6) (hr0_9 : Kd.C (Kd.int .i64) w A0_9 l0_9.length l0_9) (hc0_9 : l0_9.length ≤ c0_9) (h : msg_bytes.f k a0_0 a0_1 a0_2 a0_3 a0_4 a0_5 l0_6 a0_7 a0_8 l0_9 a0_10 = some r) :
  Calls Try.prog 24 #[.agg #[.int .u8 a0_0, .int .u64 a0_1, .int .u64 a0_2, .int .u64 a0_3, .int .u64 a0_4, .bool a0_5, .slice A0_6 l0_6.length c0_6, .int .u64 a0_7, .int .u64 a0_8, .slice A0_9 l0_9.length c0_9, .string a0_10]] w fun e w' => e = .returned (.string r) ∧ Below w.heap.size w w' := by
 have HR_1 := a_ hr0_6
 have HC_1 := a_ hc0_6
 have HR_2 := a_ hr0_9
 have HC_2 := a_ hc0_9
 have HB := a_ (Below.refl w.heap.size w)
 have hu_1 := Try.underlying37
 obtain ⟨s, A_1, H⟩ := Option.bind_eq_some_iff.mp (show ((msg_bytes.nums k ⟨#[]⟩ [IntKind.u64.wrap a0_0, a0_1]).bind fun s => (if s.size = 0 then none else (if a0_0 = 1 then (msg_bytes.nums k s [a0_2, a0_3]) else (if a0_0 = 2 then ((msg_flag.f a0_5).bind fun g => msg_bytes.nums k s [g]) else (if a0_0 = 3 then (if l0_6.length ≤ 4611686018427387904 then ((msg_bytes.nums k s [a0_2, a0_3, a0_4, IntKind.u64.wrap (l0_6.length : Int)]).bind fun s2 => msg_bytes.ents k s2 l0_6) else none) else (if a0_0 = 4 then ((msg_flag.f a0_5).bind fun g => msg_bytes.nums k s [g, a0_2]) else (if a0_0 = 5 then ((snap_Bytes.f k a0_7 a0_8 l0_9 a0_10).bind fun t => msg_bytes.txts k s [t]) else (some s)))))))) = some r from h)
 have A_2 := a_ A_1
 clear h A_1 hr0_6 hc0_6 hr0_9 hc0_9
 by_cases c_1 : s.size = 0
 case pos => rw [if_pos c_1] at H; cases H
 rw [if_neg c_1] at H
 have C_1 := a_ c_1
 have H_1 := a_ H
 clear c_1 H
 by_cases c_2 : a0_0 = 1
 focus
  have H_2 := H_1.out
  rw [if_pos c_2] at H_2
  replace H_1 := a_ H_2
  clear H_2
  have e_1 : (a0_0 == 1) = true := beq_iff_eq.mpr c_2
  clear c_2
  have A_3 := H_1
  have C_2 := a_ (nums_pos A_3.out C_1.out)
  clear H_1
  have L0_ := trivial
 rotate_left
 focus
  have H_2 := H_1.out
  rw [if_neg c_2] at H_2
  replace H_1 := a_ H_2
  clear H_2
  have e_1 : (a0_0 == 1) = false := beq_eq_false_iff_ne.mpr c_2
  clear c_2
  by_cases c_3 : a0_0 = 2
  focus
   have H_2 := H_1.out
   rw [if_pos c_3] at H_2
   replace H_1 := a_ H_2
   clear H_2
   have e_2 : (a0_0 == 2) = true := beq_iff_eq.mpr c_3
   clear c_3
   obtain ⟨g, A_3, H⟩ := Option.bind_eq_some_iff.mp H_1.out
   have A_4 := a_ A_3
   have A_5 := a_ H
   have C_2 := a_ (nums_pos A_5.out C_1.out)
   clear A_3 H H_1
   have L1_ := trivial
  rotate_left
  focus
   have H_2 := H_1.out
   rw [if_neg c_3] at H_2
   replace H_1 := a_ H_2
   clear H_2
   have e_2 : (a0_0 == 2) = false := beq_eq_false_iff_ne.mpr c_3
   clear c_3
   by_cases c_4 : a0_0 = 3
   focus
    have H_2 := H_1.out
    rw [if_pos c_4] at H_2
    by_cases cl : l0_6.length ≤ 4611686018427387904
    case neg => rw [if_neg cl] at H_2; cases H_2
    rw [if_pos cl] at H_2
    have CL := a_ cl
    clear cl
    obtain ⟨s_1, A_3, H⟩ := Option.bind_eq_some_iff.mp H_2
    have A_4 := a_ A_3
    have A_5 := a_ H
    have C_2 := a_ (nums_pos A_4.out C_1.out)
    have e_3 : (a0_0 == 3) = true := beq_iff_eq.mpr c_4
    clear c_4 A_3 H H_1 H_2
    have L2_ := trivial
   rotate_left
   focus
    have H_2 := H_1.out
    rw [if_neg c_4] at H_2
    replace H_1 := a_ H_2
    clear H_2
    have e_3 : (a0_0 == 3) = false := beq_eq_false_iff_ne.mpr c_4
    clear c_4
    by_cases c_5 : a0_0 = 4
    focus
     have H_2 := H_1.out
     rw [if_pos c_5] at H_2
     replace H_1 := a_ H_2
     clear H_2
     have e_4 : (a0_0 == 4) = true := beq_iff_eq.mpr c_5
     clear c_5
     obtain ⟨g, A_3, H⟩ := Option.bind_eq_some_iff.mp H_1.out
     have A_4 := a_ A_3
     have A_5 := a_ H
     have C_2 := a_ (nums_pos A_5.out C_1.out)
     clear A_3 H H_1
     have L3_ := trivial
    rotate_left
    focus
     have H_2 := H_1.out
     rw [if_neg c_5] at H_2
     replace H_1 := a_ H_2
     clear H_2
     have e_4 : (a0_0 == 4) = false := beq_eq_false_iff_ne.mpr c_5
     clear c_5
     by_cases c_6 : a0_0 = 5
     focus
      have H_2 := H_1.out
      rw [if_pos c_6] at H_2
      replace H_1 := a_ H_2
      clear H_2
      have e_5 : (a0_0 == 5) = true := beq_iff_eq.mpr c_6
      clear c_6
      obtain ⟨t, A_3, H⟩ := Option.bind_eq_some_iff.mp H_1.out
      have A_4 := a_ A_3
      have A_5 := a_ H
      have C_2 := a_ (txts_pos A_5.out C_1.out)
      clear A_3 H H_1
      have L1_ := trivial
     rotate_left
     have H_2 := H_1.out
     rw [if_neg c_6] at H_2
     replace H_1 := a_ H_2
     clear H_2
     have e_5 : (a0_0 == 5) = false := beq_eq_false_iff_ne.mpr c_6
     clear c_6
     have e_6 := Option.some.inj H_1.out
     subst e_6
     clear H_1
     have C_2 := C_1
     have L4_ := trivial
 all_goals
  go_enter Try.func24, Try.ntmps24
  first
  | (have _ := L0_
     go_wp2_with (first | ((with_reducible refine gd_ 1 ?_); refine bx_ 1 #[.int .u8 a0_0, .int .u64 a0_1, .int .u64 a0_2, .int .u64 a0_3, .int .u64 a0_4, .bool a0_5, .slice A0_6 l0_6.length c0_6, .int .u64 a0_7, .int .u64 a0_8, .slice A0_9 l0_9.length c0_9, .string a0_10] 37 ?_; intro ge hg w_ hbox hb; have BKe := a_ hbox; have GEe := a_ (bs_0 hg HB); replace HB := hB_ (bl_ HB) hb; clear hb hbox hg) | ((with_reducible refine gd_ 7 ?_); refine bx_ 7 #[.pointer none, .slice none 0 0] 75 ?_; intro gb hg w_ hbox hb; have GEb := a_ (bs_1 hg HB GEe); have NBe_b := nB_ hg BKe; have NBb_e := nC_ hg BKe; have GLT := a_ (show ge < gb from by rw [hg]; exact blk_lt (bk_ BKe)); have BI := a_ (Go.Proofs.Ytcdibodjkdoknaa.Mk.IsM.fresh (Nat.le_refl gb) hbox); replace BKe := bB_ BKe hb; replace HB := hB_ (bl_1 HB GEe) hb; clear hb hbox hg; have hcca_1 := (blk_cell BKe.out 0).trans rfl; have hcca_2 := (blk_cell BKe.out 1).trans rfl; have hn_1 := NBe_b.out; have hn_2 := NBb_e.out) | (go_at_call 40; (with_reducible refine (msg_bytes.nums_arm k gb ⟨#[]⟩ s [IntKind.u64.wrap a0_0, a0_1] BI.out A_2.out ?hos ?hn ?hl).mono ?_); (case hos => rfl); (case hn => rfl); (case hl => exact Nat.le_of_ble_eq_true rfl); rintro e w_1 ⟨rfl, bi, hb⟩; replace BI := a_ bi; replace BKe := blk_up BKe hb GLT.out; replace HB := a_ (HB.out.trans (below_up hb GEb.out)); clear bi hb; obtain ⟨hccb_1, hccb_2, hccb_3, hccb_4, hccb_5, hccb_6, hccb_7, hccb_8, hccb_9, hccb_10, hccb_11, -⟩ := c11_ BKe) | (go_at_call 40; (with_reducible refine (msg_bytes.nums_arm k gb s r [a0_2, a0_3] BI.out A_3.out ?hos ?hn ?hl).mono ?_); (case hos => rfl); (case hn => rfl); (case hl => exact Nat.le_of_ble_eq_true rfl); rintro e w_1 ⟨rfl, bi, hb⟩; replace BI := a_ bi; replace BKe := blk_up BKe hb GLT.out; replace HB := a_ (HB.out.trans (below_up hb GEb.out)); clear bi hb; have hccc_1 := (blk_cell BKe.out 0).trans rfl) | (go_at_call 45; (with_reducible refine (Go.Proofs.Ytcdibodjkdoknaa.Mk.str gb gb r _ BI.out C_2.out).mono ?_); rintro e w_2 ⟨rfl, hb⟩; replace HB := a_ (HB.out.trans (below_up hb GEb.out)); clear hb))
     go_ret
     exact ⟨rfl, bl_1 HB GEe⟩)
  | (have _ := L1_
     go_wp2_with (first | ((with_reducible refine gd_ 1 ?_); refine bx_ 1 #[.int .u8 a0_0, .int .u64 a0_1, .int .u64 a0_2, .int .u64 a0_3, .int .u64 a0_4, .bool a0_5, .slice A0_6 l0_6.length c0_6, .int .u64 a0_7, .int .u64 a0_8, .slice A0_9 l0_9.length c0_9, .string a0_10] 37 ?_; intro ge hg w_ hbox hb; have BKe := a_ hbox; have GEe := a_ (bs_0 hg HB); replace HB := hB_ (bl_ HB) hb; clear hb hbox hg) | ((with_reducible refine gd_ 7 ?_); refine bx_ 7 #[.pointer none, .slice none 0 0] 75 ?_; intro gb hg w_ hbox hb; have GEb := a_ (bs_1 hg HB GEe); have NBe_b := nB_ hg BKe; have NBb_e := nC_ hg BKe; have GLT := a_ (show ge < gb from by rw [hg]; exact blk_lt (bk_ BKe)); have BI := a_ (Go.Proofs.Ytcdibodjkdoknaa.Mk.IsM.fresh (Nat.le_refl gb) hbox); replace BKe := bB_ BKe hb; replace HB := hB_ (bl_1 HB GEe) hb; clear hb hbox hg; have hcca_1 := (blk_cell BKe.out 0).trans rfl; have hcca_2 := (blk_cell BKe.out 1).trans rfl; have hn_1 := NBe_b.out; have hn_2 := NBb_e.out) | (go_at_call 40; (with_reducible refine (msg_bytes.nums_arm k gb ⟨#[]⟩ s [IntKind.u64.wrap a0_0, a0_1] BI.out A_2.out ?hos ?hn ?hl).mono ?_); (case hos => rfl); (case hn => rfl); (case hl => exact Nat.le_of_ble_eq_true rfl); rintro e w_1 ⟨rfl, bi, hb⟩; replace BI := a_ bi; replace BKe := blk_up BKe hb GLT.out; replace HB := a_ (HB.out.trans (below_up hb GEb.out)); clear bi hb; obtain ⟨hccb_1, hccb_2, hccb_3, hccb_4, hccb_5, hccb_6, hccb_7, hccb_8, hccb_9, hccb_10, hccb_11, -⟩ := c11_ BKe) | (go_at_call 41; (with_reducible refine (msg_flag.calls a0_5 g _ A_4.out).mono ?_); rintro e w_2 ⟨rfl, hd⟩; have hb := hd.below; replace BI := a_ (Go.Proofs.Ytcdibodjkdoknaa.Mk.IsM.below BI.out hb); replace BKe := bB_ BKe hb; replace HB := hB_ (bl_1 HB GEe) hb; clear hb hd; have hccf_1 := (blk_cell BKe.out 2).trans rfl) | (go_at_call 40; (with_reducible refine (msg_bytes.nums_arm k gb s r [g] BI.out A_5.out ?hos ?hn ?hl).mono ?_); (case hos => rfl); (case hn => rfl); (case hl => exact Nat.le_of_ble_eq_true rfl); rintro e w_1 ⟨rfl, bi, hb⟩; replace BI := a_ bi; replace BKe := blk_up BKe hb GLT.out; replace HB := a_ (HB.out.trans (below_up hb GEb.out)); clear bi hb; have hccc_1 := (blk_cell BKe.out 0).trans rfl) | (go_at_call 45; (with_reducible refine (Go.Proofs.Ytcdibodjkdoknaa.Mk.str gb gb r _ BI.out C_2.out).mono ?_); rintro e w_3 ⟨rfl, hb⟩; replace HB := a_ (HB.out.trans (below_up hb GEb.out)); clear hb) | (go_at_call 44; (with_reducible refine (snap_Bytes.calls k a0_7 a0_8 _ _ l0_9 a0_10 t _ ?side1 ?side2 A_4.out).mono ?_); (case side1 => exact cl_ (Kd.C_below HR_2.out HB.out)); (case side2 => exact HC_2.out); rintro e w_2 ⟨rfl, hb⟩; replace BI := a_ (Go.Proofs.Ytcdibodjkdoknaa.Mk.IsM.below BI.out hb); replace BKe := bB_ BKe hb; replace HB := hB_ (bl_1 HB GEe) hb; clear hb) | (go_at_call 42; (with_reducible refine (msg_bytes.txts_arm k gb s r [t] BI.out A_5.out ?hos ?hn ?hl).mono ?_); (case hos => rfl); (case hn => rfl); (case hl => exact Nat.le_of_ble_eq_true rfl); rintro e w_1 ⟨rfl, bi, hb, ho⟩; replace BI := a_ bi; replace BKe := blk_up BKe hb GLT.out; replace HB := a_ (HB.out.trans (below_up hb GEb.out)); clear bi hb ho))
     go_ret
     exact ⟨rfl, bl_1 HB GEe⟩)
  | (have _ := L2_
     go_wp2_with (first | ((with_reducible refine gd_ 1 ?_); refine bx_ 1 #[.int .u8 a0_0, .int .u64 a0_1, .int .u64 a0_2, .int .u64 a0_3, .int .u64 a0_4, .bool a0_5, .slice A0_6 l0_6.length c0_6, .int .u64 a0_7, .int .u64 a0_8, .slice A0_9 l0_9.length c0_9, .string a0_10] 37 ?_; intro ge hg w_ hbox hb; have BKe := a_ hbox; have GEe := a_ (bs_0 hg HB); replace HB := hB_ (bl_ HB) hb; clear hb hbox hg) | ((with_reducible refine gd_ 7 ?_); refine bx_ 7 #[.pointer none, .slice none 0 0] 75 ?_; intro gb hg w_ hbox hb; have GEb := a_ (bs_1 hg HB GEe); have NBe_b := nB_ hg BKe; have NBb_e := nC_ hg BKe; have GLT := a_ (show ge < gb from by rw [hg]; exact blk_lt (bk_ BKe)); have BI := a_ (Go.Proofs.Ytcdibodjkdoknaa.Mk.IsM.fresh (Nat.le_refl gb) hbox); replace BKe := bB_ BKe hb; replace HB := hB_ (bl_1 HB GEe) hb; clear hb hbox hg; have hcca_1 := (blk_cell BKe.out 0).trans rfl; have hcca_2 := (blk_cell BKe.out 1).trans rfl; have hn_1 := NBe_b.out; have hn_2 := NBb_e.out) | (go_at_call 40; (with_reducible refine (msg_bytes.nums_arm k gb ⟨#[]⟩ s [IntKind.u64.wrap a0_0, a0_1] BI.out A_2.out ?hos ?hn ?hl).mono ?_); (case hos => rfl); (case hn => rfl); (case hl => exact Nat.le_of_ble_eq_true rfl); rintro e w_1 ⟨rfl, bi, hb⟩; replace BI := a_ bi; replace BKe := blk_up BKe hb GLT.out; replace HB := a_ (HB.out.trans (below_up hb GEb.out)); clear bi hb; obtain ⟨hccb_1, hccb_2, hccb_3, hccb_4, hccb_5, hccb_6, hccb_7, hccb_8, hccb_9, hccb_10, hccb_11, -⟩ := c11_ BKe) | (go_at_call 40; (with_reducible refine (msg_bytes.nums_arm k gb s s_1 [a0_2, a0_3, a0_4, IntKind.u64.wrap (l0_6.length : Int)] BI.out A_4.out ?hos ?hn ?hl).mono ?_); (case hos => rfl); (case hn => rfl); (case hl => exact Nat.le_of_ble_eq_true rfl); rintro e w_1 ⟨rfl, bi, hb⟩; replace BI := a_ bi; replace BKe := blk_up BKe hb GLT.out; replace HB := a_ (HB.out.trans (below_up hb GEb.out)); clear bi hb; have hccc_1 := (blk_cell BKe.out 0).trans rfl; have hccc_2 := (blk_cell BKe.out 6).trans rfl))
     go_loopg [53] l0_6.length (fun m v53 w' => ∃ (j : Nat) (s3 : ByteArray), j + m = l0_6.length ∧ v53 = .int .i64 (j : Int) ∧ Aside0 (msg_bytes.ents k s3 (l0_6.drop j) = some r) ∧ Aside0 (s3.size ≠ 0) ∧ Aside0 (Go.Proofs.Ytcdibodjkdoknaa.Mk.IsM w' gb gb s3) ∧ Aside0 (Below w.heap.size w w'))
     case atStart => exact ⟨0, s_1, by omega, fz_, A_5, C_2, BI, ⟨bl_1 HB GEe⟩⟩
     case round =>
      clear A_5 C_2 BI HB BKe hccc_1 hccc_2
      obtain ⟨j, s_2, hj, rfl, A_5, C_3, BI, HB⟩ := hrel
      cases gk with
      | zero =>
       obtain rfl : j = l0_6.length := by omega
       have hd : decide ((l0_6.length : Int) < (l0_6.length : Int)) = false := decide_eq_false (by omega)
       have e : s_2 = r := by have h := A_5.out; rw [List.drop_length] at h; exact Option.some.inj h
       subst e
       go_wp2_with (first | (go_at_call 45; (with_reducible refine (Go.Proofs.Ytcdibodjkdoknaa.Mk.str gb gb s_2 _ BI.out C_3.out).mono ?_); rintro e w_2 ⟨rfl, hb⟩; replace HB := a_ (HB.out.trans (below_up hb GEb.out)); clear hb))
       go_ret
       exact ⟨rfl, bl_1 HB GEe⟩
      | succ m =>
       have hlt : j < l0_6.length := by omega
       have ex : (rd_T67 l0_6 (j : Int)) = l0_6[j] := by show l0_6.getD j z67 = _; rw [List.getD_eq_getElem?_getD, List.getElem?_eq_getElem hlt]; rfl
       have H_1 := A_5.out
       rw [List.drop_eq_getElem_cons hlt, ← ex] at H_1
       obtain ⟨t, A_6, H⟩ := Option.bind_eq_some_iff.mp H_1
       obtain ⟨s_3, A_7, H⟩ := Option.bind_eq_some_iff.mp H
       have A_8 := a_ A_6
       have A_9 := a_ A_7
       have A_10 := a_ H
       have C_4 := a_ (txts_pos A_9.out C_3.out)
       have hd : decide ((j : Int) < (l0_6.length : Int)) = true := decide_eq_true (by omega)
       have hd_1 : decide (0 ≤ (j : Int)) = true := decide_eq_true (by omega)
       have hwr : wrap64 ((j : Int) + 1) = (j : Int) + 1 := by have := CL.out; unfold wrap64; omega
       obtain ⟨ad, B_1, c_5, ea, hx_1, hx_2, hx_3, hx_4, hx_5, hl_1, hi_1⟩ := at_T67 HR_1.out (j : Int) (by omega) (by omega)
       cases ea
       replace hx_1 := hc_ HB hx_1
       replace hx_2 := hc_ HB hx_2
       replace hx_3 := hc_ HB hx_3
       replace hx_4 := hc_ HB hx_4
       replace hx_5 := hc_ HB hx_5
       simp only [Int.toNat_natCast] at hx_1 hx_2 hx_3 hx_4 hx_5
       have HR_3 := a_ hi_1
       have HC_3 := a_ hl_1
       clear hi_1 hl_1 H_1 A_6 A_7 H ex A_5
       go_wp2_with (first | (go_at_call 43; (with_reducible refine (wal_Bytes.calls k _ _ _ _ _ _ _ t _ ?side1 ?side2 A_8.out).mono ?_); (case side1 => exact Kd.C_below HR_3.out (HB.out.alloc HB.out.size _)); (case side2 => exact HC_3.out); rintro e w_3 ⟨rfl, hb⟩; replace BI := a_ (Go.Proofs.Ytcdibodjkdoknaa.Mk.IsM.below (isM_alloc BI.out _) hb); replace HB := hB_ (HB.out.alloc HB.out.size _) hb; clear hb) | (go_at_call 42; (with_reducible refine (msg_bytes.txts_arm k gb s_2 s_3 [t] BI.out A_9.out ?hos ?hn ?hl).mono ?_); (case hos => rfl); (case hn => rfl); (case hl => exact Nat.le_of_ble_eq_true rfl); rintro e w_1 ⟨rfl, bi, hb, ho⟩; replace BI := a_ bi; replace HB := a_ (HB.out.trans (below_up hb GEb.out)); clear bi hb ho))
       go_roundg m
       case measure => omega
       case rel => exact ⟨j + 1, s_3, by omega, fz_, A_10, C_4, BI, ⟨bl_1 HB GEe⟩⟩)
  | (have _ := L3_
     go_wp2_with (first | ((with_reducible refine gd_ 1 ?_); refine bx_ 1 #[.int .u8 a0_0, .int .u64 a0_1, .int .u64 a0_2, .int .u64 a0_3, .int .u64 a0_4, .bool a0_5, .slice A0_6 l0_6.length c0_6, .int .u64 a0_7, .int .u64 a0_8, .slice A0_9 l0_9.length c0_9, .string a0_10] 37 ?_; intro ge hg w_ hbox hb; have BKe := a_ hbox; have GEe := a_ (bs_0 hg HB); replace HB := hB_ (bl_ HB) hb; clear hb hbox hg) | ((with_reducible refine gd_ 7 ?_); refine bx_ 7 #[.pointer none, .slice none 0 0] 75 ?_; intro gb hg w_ hbox hb; have GEb := a_ (bs_1 hg HB GEe); have NBe_b := nB_ hg BKe; have NBb_e := nC_ hg BKe; have GLT := a_ (show ge < gb from by rw [hg]; exact blk_lt (bk_ BKe)); have BI := a_ (Go.Proofs.Ytcdibodjkdoknaa.Mk.IsM.fresh (Nat.le_refl gb) hbox); replace BKe := bB_ BKe hb; replace HB := hB_ (bl_1 HB GEe) hb; clear hb hbox hg; have hcca_1 := (blk_cell BKe.out 0).trans rfl; have hcca_2 := (blk_cell BKe.out 1).trans rfl; have hn_1 := NBe_b.out; have hn_2 := NBb_e.out) | (go_at_call 40; (with_reducible refine (msg_bytes.nums_arm k gb ⟨#[]⟩ s [IntKind.u64.wrap a0_0, a0_1] BI.out A_2.out ?hos ?hn ?hl).mono ?_); (case hos => rfl); (case hn => rfl); (case hl => exact Nat.le_of_ble_eq_true rfl); rintro e w_1 ⟨rfl, bi, hb⟩; replace BI := a_ bi; replace BKe := blk_up BKe hb GLT.out; replace HB := a_ (HB.out.trans (below_up hb GEb.out)); clear bi hb; obtain ⟨hccb_1, hccb_2, hccb_3, hccb_4, hccb_5, hccb_6, hccb_7, hccb_8, hccb_9, hccb_10, hccb_11, -⟩ := c11_ BKe))
     replace BI := a_ (show Go.Proofs.Ytcdibodjkdoknaa.Mk.IsM w_1.drew gb gb s from BI.out)
     replace BKe := a_ (show w_1.drew.heap[ge]? = some (.cells #[.int .u8 a0_0, .int .u64 a0_1, .int .u64 a0_2, .int .u64 a0_3, .int .u64 a0_4, .bool a0_5, .slice A0_6 l0_6.length c0_6, .int .u64 a0_7, .int .u64 a0_8, .slice A0_9 l0_9.length c0_9, .string a0_10] 37 (0, 0)) from BKe.out)
     replace HB := a_ (show Below w.heap.size w w_1.drew from HB.out.drew)
     go_region_with (first | (go_at_call 41; (with_reducible refine (msg_flag.calls a0_5 g _ A_4.out).mono ?_); rintro e w_2 ⟨rfl, hd⟩; have hb := hd.below; replace BI := a_ (Go.Proofs.Ytcdibodjkdoknaa.Mk.IsM.below BI.out hb); replace BKe := bB_ BKe hb; replace HB := hB_ (bl_1 HB GEe) hb; clear hb hd; have hccf_1 := (blk_cell BKe.out 2).trans rfl) | (go_at_call 40; (with_reducible refine (msg_bytes.nums_arm k gb s r [g, a0_2] BI.out A_5.out ?hos ?hn ?hl).mono ?_); (case hos => rfl); (case hn => rfl); (case hl => exact Nat.le_of_ble_eq_true rfl); rintro e w_1 ⟨rfl, bi, hb⟩; replace BI := a_ bi; replace BKe := blk_up BKe hb GLT.out; replace HB := a_ (HB.out.trans (below_up hb GEb.out)); clear bi hb; have hccc_1 := (blk_cell BKe.out 0).trans rfl))
     all_goals go_wp2_with (first | (go_at_call 45; (with_reducible refine (Go.Proofs.Ytcdibodjkdoknaa.Mk.str gb gb r _ BI.out C_2.out).mono ?_); rintro e w_3 ⟨rfl, hb⟩; replace HB := a_ (HB.out.trans (below_up hb GEb.out)); clear hb))
     all_goals go_ret
     all_goals exact ⟨rfl, bl_1 HB GEe⟩)
  | (have _ := L4_
     go_wp2_with (first | ((with_reducible refine gd_ 1 ?_); refine bx_ 1 #[.int .u8 a0_0, .int .u64 a0_1, .int .u64 a0_2, .int .u64 a0_3, .int .u64 a0_4, .bool a0_5, .slice A0_6 l0_6.length c0_6, .int .u64 a0_7, .int .u64 a0_8, .slice A0_9 l0_9.length c0_9, .string a0_10] 37 ?_; intro ge hg w_ hbox hb; have BKe := a_ hbox; have GEe := a_ (bs_0 hg HB); replace HB := hB_ (bl_ HB) hb; clear hb hbox hg) | ((with_reducible refine gd_ 7 ?_); refine bx_ 7 #[.pointer none, .slice none 0 0] 75 ?_; intro gb hg w_ hbox hb; have GEb := a_ (bs_1 hg HB GEe); have NBe_b := nB_ hg BKe; have NBb_e := nC_ hg BKe; have GLT := a_ (show ge < gb from by rw [hg]; exact blk_lt (bk_ BKe)); have BI := a_ (Go.Proofs.Ytcdibodjkdoknaa.Mk.IsM.fresh (Nat.le_refl gb) hbox); replace BKe := bB_ BKe hb; replace HB := hB_ (bl_1 HB GEe) hb; clear hb hbox hg; have hcca_1 := (blk_cell BKe.out 0).trans rfl; have hcca_2 := (blk_cell BKe.out 1).trans rfl; have hn_1 := NBe_b.out; have hn_2 := NBb_e.out) | (go_at_call 40; (with_reducible refine (msg_bytes.nums_arm k gb ⟨#[]⟩ s [IntKind.u64.wrap a0_0, a0_1] BI.out A_2.out ?hos ?hn ?hl).mono ?_); (case hos => rfl); (case hn => rfl); (case hl => exact Nat.le_of_ble_eq_true rfl); rintro e w_1 ⟨rfl, bi, hb⟩; replace BI := a_ bi; replace BKe := blk_up BKe hb GLT.out; replace HB := a_ (HB.out.trans (below_up hb GEb.out)); clear bi hb; obtain ⟨hccb_1, hccb_2, hccb_3, hccb_4, hccb_5, hccb_6, hccb_7, hccb_8, hccb_9, hccb_10, hccb_11, -⟩ := c11_ BKe) | (go_at_call 45; (with_reducible refine (Go.Proofs.Ytcdibodjkdoknaa.Mk.str gb gb s _ BI.out C_2.out).mono ?_); rintro e w_2 ⟨rfl, hb⟩; replace HB := a_ (HB.out.trans (below_up hb GEb.out)); clear hb))
     go_ret
     exact ⟨rfl, bl_1 HB GEe⟩)

def msg_Encode.f (k : Nat) (a0_0 : Int) (a0_1 : Int) (a0_2 : Int) (a0_3 : Int) (a0_4 : Int) (a0_5 : Bool) (l0_6 : List (S67)) (a0_7 : Int) (a0_8 : Int) (l0_9 : List Int) (a0_10 : ByteArray) : Option (ByteArray × Int) := (msg_Check.f k a0_0 a0_1 a0_2 a0_3 a0_4 a0_5 l0_6 a0_7 a0_8 l0_9 a0_10).bind fun t136 => (if t136 = 0 then ((msg_bytes.f k a0_0 a0_1 a0_2 a0_3 a0_4 a0_5 l0_6 a0_7 a0_8 l0_9 a0_10).bind fun t137 => ((pack_Frame.f k t137).bind fun bt138 => (some (bt138.1, bt138.2)))) else (some ((⟨#[]⟩ : ByteArray), t136)))
theorem msg_Encode.mono : ∀ a0 a1 a2 a3 a4 a5 a6 a7 a8 a9 a10 k, LeO (msg_Encode.f k a0 a1 a2 a3 a4 a5 a6 a7 a8 a9 a10) (msg_Encode.f (k + 1) a0 a1 a2 a3 a4 a5 a6 a7 a8 a9 a10) := by
 intro a0 a1 a2 a3 a4 a5 a6 a7 a8 a9 a10 k
 unfold msg_Encode.f
 repeat' with_reducible first | apply msg_Check.mono | apply msg_bytes.mono | apply pack_Frame.mono | apply LeO.refl | apply LeO.none | apply LeO.ite | refine LeO.bind ?_ (fun _ => ?_)
theorem msg_Encode.calls (k : Nat) (a0_0 : Int) (a0_1 : Int) (a0_2 : Int) (a0_3 : Int) (a0_4 : Int) (a0_5 : Bool) (A0_6 : Option Addr) (c0_6 : Nat) (l0_6 : List (S67)) (a0_7 : Int) (a0_8 : Int) (A0_9 : Option Addr) (c0_9 : Nat) (l0_9 : List Int) (a0_10 : ByteArray) (r1 : ByteArray) (r2 : Int) (w : World) (hr0_6 : Kd.C k67 w A0_6 l0_6.length l0_6) (hc0_6 : l0_6.length ≤ c0_6) (hr0_9 : Kd.C (Kd.int .i64) w A0_9 l0_9.length l0_9) (hc0_9 : l0_9.length ≤ c0_9) (h : msg_Encode.f k a0_0 a0_1 a0_2 a0_3 a0_4 a0_5 l0_6 a0_7 a0_8 l0_9 a0_10 = some (r1, r2)) :
  Calls Try.prog 13 #[.agg #[.int .u8 a0_0, .int .u64 a0_1, .int .u64 a0_2, .int .u64 a0_3, .int .u64 a0_4, .bool a0_5, .slice A0_6 l0_6.length c0_6, .int .u64 a0_7, .int .u64 a0_8, .slice A0_9 l0_9.length c0_9, .string a0_10]] w fun e w' => e = .returned (.tuple #[.string r1, .int .i64 r2]) ∧ Below w.heap.size w w' := by
 have hu37 := Try.underlying37
 have HR0_6 := a_ hr0_6
 have HC0_6 := a_ hc0_6
 clear hr0_6 hc0_6
 have HR0_9 := a_ hr0_9
 have HC0_9 := a_ hc0_9
 clear hr0_9 hc0_9
 have HB := a_ (Below.refl w.heap.size w)
 have H := h
 unfold msg_Encode.f at H
 clear h
 obtain ⟨t136, A20, H⟩ := Option.bind_eq_some_iff.mp H
 try dsimp only at H
 have A2 := a_ A20
 clear A20
 by_cases c3 : t136 = 0
 rotate_left
 ·rw [if_neg c3] at H
  have c3b0 : (t136 == 0) = false := beq_eq_false_iff_ne.mpr c3
  have c3b1 : (t136 != 0) = true := bne_iff_ne.mpr c3
  simp only [Option.some.injEq, Prod.mk.injEq] at H
  obtain ⟨rfl, rfl⟩ := H
  go_enter Try.func13, Try.ntmps13
  go_wp2_with (first | ((with_reducible refine gd_ 1 ?_); refine bx_ 1 #[.int .u8 a0_0, .int .u64 a0_1, .int .u64 a0_2, .int .u64 a0_3, .int .u64 a0_4, .bool a0_5, .slice A0_6 l0_6.length c0_6, .int .u64 a0_7, .int .u64 a0_8, .slice A0_9 l0_9.length c0_9, .string a0_10] 37 ?_; intro gb135 hg w12 hbox hb; have BK135 := a_ (hbox); have GE135 := a_ (bs_0 hg HB); replace HB := hB_ (bl_ HB) hb; clear hb hbox hg; obtain ⟨hcz13_0, hcz13_1, hcz13_2, hcz13_3, hcz13_4, hcz13_5, hcz13_6, hcz13_7, hcz13_8, hcz13_9, hcz13_10, hfz13_0, hfz13_1, hfz13_2, hfz13_3, hfz13_4, hfz13_5, hfz13_6, hfz13_7, hfz13_8, hfz13_9, hfz13_10⟩ := c11_ BK135) | ((with_reducible refine gk_ 19 ?_); refine gl_ (some 6) Try.func19 #[.agg #[.int .u8 a0_0, .int .u64 a0_1, .int .u64 a0_2, .int .u64 a0_3, .int .u64 a0_4, .bool a0_5, .slice A0_6 l0_6.length c0_6, .int .u64 a0_7, .int .u64 a0_8, .slice A0_9 l0_9.length c0_9, .string a0_10]] ?_; (with_reducible refine (msg_Check.calls k a0_0 a0_1 a0_2 a0_3 a0_4 a0_5 _ _ l0_6 a0_7 a0_8 _ _ l0_9 a0_10 t136 _ ?side1 ?side2 ?side3 ?side4 A2.out).mono ?_); (case side1 => exact cl_ (Kd.C_below HR0_6.out HB.out)); (case side2 => exact HC0_6.out); (case side3 => exact cl_ (Kd.C_below HR0_9.out HB.out)); (case side4 => exact HC0_9.out); rintro e w14 ⟨rfl, hb⟩; refine ⟨_, rfl, ?_⟩; replace BK135 := bB_ BK135 hb; replace HB := hB_ (bl_1 HB GE135) hb; (try clear hb)))
  go_ret2
  exact ⟨fz_, bl_1 HB GE135⟩


 rw [if_pos c3] at H
 have c3b0 : (t136 == 0) = true := beq_iff_eq.mpr c3
 have c3b1 : (t136 != 0) = false := bne_eq_false_iff_eq.mpr c3
 clear c3
 obtain ⟨t137, A40, H⟩ := Option.bind_eq_some_iff.mp H
 try dsimp only at H
 have A4 := a_ A40
 clear A40
 obtain ⟨⟨t138, t139⟩, A50, H⟩ := Option.bind_eq_some_iff.mp H
 try dsimp only at H
 have A5 := a_ A50
 clear A50
 simp only [Option.some.injEq, Prod.mk.injEq] at H
 obtain ⟨rfl, rfl⟩ := H
 go_enter Try.func13, Try.ntmps13
 go_wp2_with (first | ((with_reducible refine gd_ 1 ?_); refine bx_ 1 #[.int .u8 a0_0, .int .u64 a0_1, .int .u64 a0_2, .int .u64 a0_3, .int .u64 a0_4, .bool a0_5, .slice A0_6 l0_6.length c0_6, .int .u64 a0_7, .int .u64 a0_8, .slice A0_9 l0_9.length c0_9, .string a0_10] 37 ?_; intro gb135 hg w6 hbox hb; have BK135 := a_ (hbox); have GE135 := a_ (bs_0 hg HB); replace HB := hB_ (bl_ HB) hb; clear hb hbox hg; obtain ⟨hcz7_0, hcz7_1, hcz7_2, hcz7_3, hcz7_4, hcz7_5, hcz7_6, hcz7_7, hcz7_8, hcz7_9, hcz7_10, hfz7_0, hfz7_1, hfz7_2, hfz7_3, hfz7_4, hfz7_5, hfz7_6, hfz7_7, hfz7_8, hfz7_9, hfz7_10⟩ := c11_ BK135) | ((with_reducible refine gk_ 19 ?_); refine gl_ (some 6) Try.func19 #[.agg #[.int .u8 a0_0, .int .u64 a0_1, .int .u64 a0_2, .int .u64 a0_3, .int .u64 a0_4, .bool a0_5, .slice A0_6 l0_6.length c0_6, .int .u64 a0_7, .int .u64 a0_8, .slice A0_9 l0_9.length c0_9, .string a0_10]] ?_; (with_reducible refine (msg_Check.calls k a0_0 a0_1 a0_2 a0_3 a0_4 a0_5 _ _ l0_6 a0_7 a0_8 _ _ l0_9 a0_10 t136 _ ?side1 ?side2 ?side3 ?side4 A2.out).mono ?_); (case side1 => exact cl_ (Kd.C_below HR0_6.out HB.out)); (case side2 => exact HC0_6.out); (case side3 => exact cl_ (Kd.C_below HR0_9.out HB.out)); (case side4 => exact HC0_9.out); rintro e w8 ⟨rfl, hb⟩; refine ⟨_, rfl, ?_⟩; replace BK135 := bB_ BK135 hb; replace HB := hB_ (bl_1 HB GE135) hb; (try clear hb); obtain ⟨hcz9_0, hcz9_1, hcz9_2, hcz9_3, hcz9_4, hcz9_5, hcz9_6, hcz9_7, hcz9_8, hcz9_9, hcz9_10, hfz9_0, hfz9_1, hfz9_2, hfz9_3, hfz9_4, hfz9_5, hfz9_6, hfz9_7, hfz9_8, hfz9_9, hfz9_10⟩ := c11_ BK135) | ((with_reducible refine gk_ 24 ?_); refine gl_ (some 11) Try.func24 #[.agg #[.int .u8 a0_0, .int .u64 a0_1, .int .u64 a0_2, .int .u64 a0_3, .int .u64 a0_4, .bool a0_5, .slice A0_6 l0_6.length c0_6, .int .u64 a0_7, .int .u64 a0_8, .slice A0_9 l0_9.length c0_9, .string a0_10]] ?_; (with_reducible refine (msg_bytes.calls k a0_0 a0_1 a0_2 a0_3 a0_4 a0_5 _ _ l0_6 a0_7 a0_8 _ _ l0_9 a0_10 t137 _ ?side1 ?side2 ?side3 ?side4 A4.out).mono ?_); (case side1 => exact cl_ (Kd.C_below HR0_6.out HB.out)); (case side2 => exact HC0_6.out); (case side3 => exact cl_ (Kd.C_below HR0_9.out HB.out)); (case side4 => exact HC0_9.out); rintro e w10 ⟨rfl, hb⟩; refine ⟨_, rfl, ?_⟩; replace BK135 := bB_ BK135 hb; replace HB := hB_ (bl_1 HB GE135) hb; (try clear hb)) | ((with_reducible refine gk_ 11 ?_); refine gl_ (some 12) Try.func11 #[.string t137] ?_; (with_reducible refine (pack_Frame.calls k t137 t138 t139 _ A5.out).mono ?_); rintro e w11 ⟨rfl, hb⟩; refine ⟨_, rfl, ?_⟩; replace BK135 := bB_ BK135 hb; replace HB := hB_ (bl_1 HB GE135) hb; (try clear hb)))
 go_ret2
 exact ⟨fz_, bl_1 HB GE135⟩
def gafferref03_SameInts.l0 : Nat → List Int → List Int → Int → Int → Option (Bool)
 | 0, _, _, _, _ => none
 | k + 1, x0, x1, x12, x13 => if x13 < x12 then (if 0 ≤ x13 then (if x13 < (x0.length : Int) then (if x13 < (x1.length : Int) then (if (rd x0 x13) = (rd x1 x13) then (gafferref03_SameInts.l0 k x0 x1 x12 (wrap64 (x13 + 1))) else (some false)) else (none)) else (none)) else (none)) else (some true)
def gafferref03_SameInts.f (k : Nat) (l0 : List Int) (l1 : List Int) : Option (Bool) := if (l0.length : Int) = (l1.length : Int) then (gafferref03_SameInts.l0 k l0 l1 (l0.length : Int) 0) else (some false)
theorem gafferref03_SameInts.mono_l : ∀ k, (∀ y0 y1 y2 y3, LeO (gafferref03_SameInts.l0 k y0 y1 y2 y3) (gafferref03_SameInts.l0 (k + 1) y0 y1 y2 y3))
 | 0 => fun _ _ _ _ r h => by simp [gafferref03_SameInts.l0] at h
 | k + 1 => by
  have ih0 := gafferref03_SameInts.mono_l k
  ·intro y0 y1 y2 y3
   unfold gafferref03_SameInts.l0
   repeat' with_reducible first | apply ih0 | apply LeO.refl | apply LeO.none | apply LeO.ite | refine LeO.bind ?_ (fun _ => ?_)
theorem gafferref03_SameInts.mono : ∀ a0 a1 k, LeO (gafferref03_SameInts.f k a0 a1) (gafferref03_SameInts.f (k + 1) a0 a1) := by
 intro a0 a1 k
 have ih0 := gafferref03_SameInts.mono_l k
 unfold gafferref03_SameInts.f
 repeat' with_reducible first | apply ih0 | apply LeO.refl | apply LeO.none | apply LeO.ite | refine LeO.bind ?_ (fun _ => ?_)
theorem gafferref03_SameInts.calls (k : Nat) (A0 : Option Addr) (c0 : Nat) (l0 : List Int) (A1 : Option Addr) (c1 : Nat) (l1 : List Int) (r : Bool) (w : World) (hr0 : Kd.C (Kd.int .i64) w A0 l0.length l0) (hc0 : l0.length ≤ c0) (hr1 : Kd.C (Kd.int .i64) w A1 l1.length l1) (hc1 : l1.length ≤ c1) (h : gafferref03_SameInts.f k l0 l1 = some r) :
  Calls Try.prog 66 #[.slice A0 l0.length c0, .slice A1 l1.length c1] w fun e w' => e = .returned (.bool r) ∧ Drawn0 w w' := by
 have HR0 := a_ hr0
 have HC0 := a_ hc0
 clear hr0 hc0
 have HR1 := a_ hr1
 have HC1 := a_ hc1
 clear hr1 hc1
 have H := h
 unfold gafferref03_SameInts.f at H
 clear h
 by_cases c3 : (l0.length : Int) = (l1.length : Int)
 rotate_left
 ·rw [if_neg c3] at H
  have c3b0 : ((l0.length : Int) == (l1.length : Int)) = false := beq_eq_false_iff_ne.mpr c3
  have c3b1 : ((l0.length : Int) != (l1.length : Int)) = true := bne_iff_ne.mpr c3
  have c3b2 : (l0.length == l1.length) = false := by first | simpa using c3 | (simp at c3 ⊢; omega)
  obtain rfl := Option.some.inj H
  go_enter Try.func66, Try.ntmps66
  go_wp2
  repeat (go_quiet (fail); try go_wp2)
  go_ret
  exact ⟨fz_, dr_⟩


 rw [if_pos c3] at H
 have c3b0 : ((l0.length : Int) == (l1.length : Int)) = true := beq_iff_eq.mpr c3
 have c3b1 : ((l0.length : Int) != (l1.length : Int)) = false := bne_eq_false_iff_eq.mpr c3
 have c3b2 : (l0.length == l1.length) = true := by first | simpa using c3 | (simp at c3 ⊢; omega)
 clear c3
 have H' := a_ H
 clear H
 go_enter Try.func66, Try.ntmps66
 go_wp2
 repeat (go_quiet (fail); try go_wp2)
 go_loopg [13] k (fun kq v13 w' => ∃ (x13_1 : Int), v13 = .int .i64 x13_1 ∧ Aside0 (gafferref03_SameInts.l0 kq l0 l1 (l0.length : Int) x13_1 = some r) ∧ Aside0 (kq ≤ k) ∧ Drawn0 w w')
 case atStart => exact ⟨(0), fz_, H', ⟨Nat.le_refl _⟩, dr_⟩
 case round =>
  clear H'
  try clear c1
  try clear p2
  try clear c3
  try clear c3b0
  try clear c3b1
  try clear c3b2
  obtain ⟨x13_1, rfl, HA, HK1, ⟨m1, rfl⟩⟩ := hrel
  cases gk with
  | zero => exact absurd HA.out (by simp [gafferref03_SameInts.l0])
  | succ k1 =>
   have H := HA.out
   clear HA
   simp only [gafferref03_SameInts.l0] at H
   by_cases c4 : x13_1 < (l0.length : Int)
   rotate_left
   ·rw [if_neg c4] at H
    have c4b0 : decide (x13_1 < (l0.length : Int)) = false := decide_eq_false c4
    clear c4
    obtain rfl := Option.some.inj H
    go_wp2
    repeat (go_quiet (fail); try go_wp2)
    go_ret
    exact ⟨fz_, dr_⟩
   rw [if_pos c4] at H
   have c4b0 : decide (x13_1 < (l0.length : Int)) = true := decide_eq_true c4
   clear c4
   by_cases c5 : 0 ≤ x13_1
   rotate_left
   ·rw [if_neg c5] at H
    exact absurd H (by simp)
   rw [if_pos c5] at H
   have c5b0 : decide (0 ≤ x13_1) = true := decide_eq_true c5
   clear c5
   by_cases c6 : x13_1 < (l0.length : Int)
   rotate_left
   ·rw [if_neg c6] at H
    exact absurd H (by simp)
   rw [if_pos c6] at H
   have c6b0 : decide (x13_1 < (l0.length : Int)) = true := decide_eq_true c6
   clear c6
   by_cases c7 : x13_1 < (l1.length : Int)
   rotate_left
   ·rw [if_neg c7] at H
    exact absurd H (by simp)
   rw [if_pos c7] at H
   have c7b0 : decide (x13_1 < (l1.length : Int)) = true := decide_eq_true c7
   clear c7
   by_cases c8 : (rd l0 x13_1) = (rd l1 x13_1)
   rotate_left
   ·rw [if_neg c8] at H
    have c8b0 : ((rd l0 x13_1) == (rd l1 x13_1)) = false := beq_eq_false_iff_ne.mpr c8
    have c8b1 : ((rd l0 x13_1) != (rd l1 x13_1)) = true := bne_iff_ne.mpr c8
    obtain rfl := Option.some.inj H
    have p140 : 0 ≤ (x13_1 : Int) := od_
    have q140 : x13_1 < (l0.length : Int) := od_
    obtain ⟨ad140, e140, hx140_0⟩ := Kd.at_int HR0.out x13_1 p140 q140
    cases e140
    replace p140 := eq_true p140
    replace q140 := eq_true q140
    have p141 : 0 ≤ (x13_1 : Int) := od_
    have q141 : x13_1 < (l1.length : Int) := od_
    obtain ⟨ad141, e141, hx141_0⟩ := Kd.at_int HR1.out x13_1 p141 q141
    cases e141
    replace p141 := eq_true p141
    replace q141 := eq_true q141
    go_wp2
    repeat (go_quiet (fail); try go_wp2)
    go_ret
    exact ⟨fz_, dr_⟩
   rw [if_pos c8] at H
   have c8b0 : ((rd l0 x13_1) == (rd l1 x13_1)) = true := beq_iff_eq.mpr c8
   have c8b1 : ((rd l0 x13_1) != (rd l1 x13_1)) = false := bne_eq_false_iff_eq.mpr c8
   clear c8
   have H' := a_ H
   clear H
   have p140 : 0 ≤ (x13_1 : Int) := od_
   have q140 : x13_1 < (l0.length : Int) := od_
   obtain ⟨ad140, e140, hx140_0⟩ := Kd.at_int HR0.out x13_1 p140 q140
   cases e140
   replace p140 := eq_true p140
   replace q140 := eq_true q140
   have p141 : 0 ≤ (x13_1 : Int) := od_
   have q141 : x13_1 < (l1.length : Int) := od_
   obtain ⟨ad141, e141, hx141_0⟩ := Kd.at_int HR1.out x13_1 p141 q141
   cases e141
   replace p141 := eq_true p141
   replace q141 := eq_true q141
   go_wp2
   repeat (go_quiet (fail); try go_wp2)
   go_roundg k1
   case measure => have := HK1.out; omega
   case rel => exact ⟨(wrap64 (x13_1 + 1)), fz_, H', ⟨by have := HK1.out; omega⟩, dr_⟩
def gafferref05_Same.f (k : Nat) (a0_0 : Int) (a0_1 : Int) (l0_2 : List Int) (a0_3 : ByteArray) (a1_0 : Int) (a1_1 : Int) (l1_2 : List Int) (a1_3 : ByteArray) : Option (Bool) := if a0_0 = a1_0 then (if a0_1 = a1_1 then (if a0_3.toList = a1_3.toList then ((gafferref03_SameInts.f k l0_2 l1_2).bind fun t144 => (some t144)) else (some false)) else (some false)) else (some false)
theorem gafferref05_Same.mono : ∀ a0 a1 a2 a3 a4 a5 a6 a7 k, LeO (gafferref05_Same.f k a0 a1 a2 a3 a4 a5 a6 a7) (gafferref05_Same.f (k + 1) a0 a1 a2 a3 a4 a5 a6 a7) := by
 intro a0 a1 a2 a3 a4 a5 a6 a7 k
 unfold gafferref05_Same.f
 repeat' with_reducible first | apply gafferref03_SameInts.mono | apply LeO.refl | apply LeO.none | apply LeO.ite | refine LeO.bind ?_ (fun _ => ?_)
theorem gafferref05_Same.calls (k : Nat) (a0_0 : Int) (a0_1 : Int) (A0_2 : Option Addr) (c0_2 : Nat) (l0_2 : List Int) (a0_3 : ByteArray) (a1_0 : Int) (a1_1 : Int) (A1_2 : Option Addr) (c1_2 : Nat) (l1_2 : List Int) (a1_3 : ByteArray) (r : Bool) (w : World) (hr0_2 : Kd.C (Kd.int .i64) w A0_2 l0_2.length l0_2) (hc0_2 : l0_2.length ≤ c0_2) (hr1_2 : Kd.C (Kd.int .i64) w A1_2 l1_2.length l1_2) (hc1_2 : l1_2.length ≤ c1_2) (h : gafferref05_Same.f k a0_0 a0_1 l0_2 a0_3 a1_0 a1_1 l1_2 a1_3 = some r) :
  Calls Try.prog 34 #[.agg #[.int .u64 a0_0, .int .u64 a0_1, .slice A0_2 l0_2.length c0_2, .string a0_3], .agg #[.int .u64 a1_0, .int .u64 a1_1, .slice A1_2 l1_2.length c1_2, .string a1_3]] w fun e w' => e = .returned (.bool r) ∧ Below w.heap.size w w' := by
 have hu_1 := Try.underlying35
 have HR_1 := a_ hr0_2
 have HC_1 := a_ hc0_2
 clear hr0_2 hc0_2
 have HR_2 := a_ hr1_2
 have HC_2 := a_ hc1_2
 clear hr1_2 hc1_2
 have HB := a_ (Below.refl w.heap.size w)
 have H := h
 unfold gafferref05_Same.f at H
 clear h
 by_cases c_1 : a0_0 = a1_0
 rotate_left
 focus
  rw [if_neg c_1] at H
  have c_2 : (a0_0 == a1_0) = false := beq_eq_false_iff_ne.mpr c_1
  have c_3 : (a0_0 != a1_0) = true := bne_iff_ne.mpr c_1
  obtain rfl := Option.some.inj H
 rotate_left
 focus
  rw [if_pos c_1] at H
  have c_2 : (a0_0 == a1_0) = true := beq_iff_eq.mpr c_1
  have c_3 : (a0_0 != a1_0) = false := bne_eq_false_iff_eq.mpr c_1
  clear c_1
  by_cases c_4 : a0_1 = a1_1
  rotate_left
  focus
   rw [if_neg c_4] at H
   have c_5 : (a0_1 == a1_1) = false := beq_eq_false_iff_ne.mpr c_4
   have c_6 : (a0_1 != a1_1) = true := bne_iff_ne.mpr c_4
   obtain rfl := Option.some.inj H
  rotate_left
  focus
   rw [if_pos c_4] at H
   have c_5 : (a0_1 == a1_1) = true := beq_iff_eq.mpr c_4
   have c_6 : (a0_1 != a1_1) = false := bne_eq_false_iff_eq.mpr c_4
   clear c_4
   by_cases c_7 : a0_3.toList = a1_3.toList
   rotate_left
   focus
    rw [if_neg c_7] at H
    have c_8 : (a0_3.toList == a1_3.toList) = false := beq_eq_false_iff_ne.mpr c_7
    have c_9 : (a0_3.toList != a1_3.toList) = true := bne_iff_ne.mpr c_7
    obtain rfl := Option.some.inj H
   rotate_left
   rw [if_pos c_7] at H
   have c_8 : (a0_3.toList == a1_3.toList) = true := beq_iff_eq.mpr c_7
   have c_9 : (a0_3.toList != a1_3.toList) = false := bne_eq_false_iff_eq.mpr c_7
   clear c_7
   obtain ⟨t_1, A_1, H⟩ := Option.bind_eq_some_iff.mp H
   try dsimp only at H
   have A_2 := a_ A_1
   clear A_1
   obtain rfl := Option.some.inj H
 all_goals
  go_enter Try.func34, Try.ntmps34
  go_wp2_with (first | ((with_reducible refine gd_ 2 ?_); refine bx_ 2 #[.int .u64 a0_0, .int .u64 a0_1, .slice A0_2 l0_2.length c0_2, .string a0_3] 35 ?_; intro gb_1 hg w_1 hbox hb; have BK_1 := a_ (hbox); have GE_1 := a_ (bs_0 hg HB); replace HB := hB_ (bl_ HB) hb; clear hb hbox hg) | ((with_reducible refine gd_ 3 ?_); refine bx_ 3 #[.int .u64 a1_0, .int .u64 a1_1, .slice A1_2 l1_2.length c1_2, .string a1_3] 35 ?_; intro gb_2 hg w_2 hbox hb; have BK_2 := a_ (hbox); have GE_2 := a_ (bs_1 hg HB GE_1); replace HB := hB_ (bl_1 HB GE_1) hb; have NB_1 := nB_ hg BK_1; have NB_2 := nC_ hg BK_1; replace BK_1 := bB_ BK_1 hb; clear hb hbox hg; have hnb_1 := NB_1.out; have hnc_1 := NB_2.out; obtain ⟨_, _, _, _, _, _, _, _⟩ := c4_ BK_1; obtain ⟨_, _, _, _, _, _, _, _⟩ := c4_ BK_2) | (go_at_call 66; (with_reducible refine (gafferref03_SameInts.calls k _ _ l0_2 _ _ l1_2 t_1 _ ?side1 ?side2 ?side3 ?side4 A_2.out).mono ?_); (case side1 => exact cl_ (Kd.C_below HR_1.out HB.out)); (case side2 => exact HC_1.out); (case side3 => exact cl_ (Kd.C_below HR_2.out HB.out)); (case side4 => exact HC_2.out); rintro e w' ⟨rfl, ⟨nd, rfl⟩⟩))
  go_ret
  exact ⟨fz_, bl_2 HB GE_1 GE_2⟩

def gafferref05_nothing.f (a0_0 : Int) (a0_1 : Int) (l0_2 : List Int) (a0_3 : ByteArray) : Option (Bool) := if a0_0 = 0 then (if a0_1 = 0 then (if (l0_2.length : Int) = 0 then (some (a0_3.toList == ([] : List UInt8))) else (some false)) else (some false)) else (some false)
theorem gafferref05_nothing.calls (a0_0 : Int) (a0_1 : Int) (A0_2 : Option Addr) (c0_2 : Nat) (l0_2 : List Int) (a0_3 : ByteArray) (r : Bool) (w : World) (hr0_2 : Kd.C (Kd.int .i64) w A0_2 l0_2.length l0_2) (hc0_2 : l0_2.length ≤ c0_2) (h : gafferref05_nothing.f a0_0 a0_1 l0_2 a0_3 = some r) :
  Calls Try.prog 70 #[.agg #[.int .u64 a0_0, .int .u64 a0_1, .slice A0_2 l0_2.length c0_2, .string a0_3]] w fun e w' => e = .returned (.bool r) ∧ Below w.heap.size w w' := by
 have hu_1 := Try.underlying35
 have HR_1 := a_ hr0_2
 have HC_1 := a_ hc0_2
 clear hr0_2 hc0_2
 have HB := a_ (Below.refl w.heap.size w)
 have H := h
 unfold gafferref05_nothing.f at H
 clear h
 by_cases c_1 : a0_0 = 0
 rotate_left
 focus
  rw [if_neg c_1] at H
  have c_2 : (a0_0 == 0) = false := beq_eq_false_iff_ne.mpr c_1
  have c_3 : (a0_0 != 0) = true := bne_iff_ne.mpr c_1
  obtain rfl := Option.some.inj H
 rotate_left
 focus
  rw [if_pos c_1] at H
  have c_2 : (a0_0 == 0) = true := beq_iff_eq.mpr c_1
  have c_3 : (a0_0 != 0) = false := bne_eq_false_iff_eq.mpr c_1
  clear c_1
  by_cases c_4 : a0_1 = 0
  rotate_left
  focus
   rw [if_neg c_4] at H
   have c_5 : (a0_1 == 0) = false := beq_eq_false_iff_ne.mpr c_4
   have c_6 : (a0_1 != 0) = true := bne_iff_ne.mpr c_4
   obtain rfl := Option.some.inj H
  rotate_left
  focus
   rw [if_pos c_4] at H
   have c_5 : (a0_1 == 0) = true := beq_iff_eq.mpr c_4
   have c_6 : (a0_1 != 0) = false := bne_eq_false_iff_eq.mpr c_4
   clear c_4
   by_cases c_7 : (l0_2.length : Int) = 0
   focus
    rw [if_pos c_7] at H
    have c_8 : ((l0_2.length : Int) == 0) = true := beq_iff_eq.mpr c_7
    have c_9 : ((l0_2.length : Int) != 0) = false := bne_eq_false_iff_eq.mpr c_7
    clear c_7
    obtain rfl := Option.some.inj H
   rotate_left
   rw [if_neg c_7] at H
   have c_8 : ((l0_2.length : Int) == 0) = false := beq_eq_false_iff_ne.mpr c_7
   have c_9 : ((l0_2.length : Int) != 0) = true := bne_iff_ne.mpr c_7
   have c_10 : ¬ (l0_2 = []) := fun h_ => c_7 (by rw [h_]; rfl)
   obtain rfl := Option.some.inj H
 all_goals
  go_enter Try.func70, Try.ntmps70
  go_wp2_with ((with_reducible refine gd_ 1 ?_); (try (refine gate_guard (by rfl) ?_; dsimp only)); refine bx_ 1 #[.int .u64 a0_0, .int .u64 a0_1, .slice A0_2 l0_2.length c0_2, .string a0_3] 35 ?_; intro gb_1 hg w_1 hbox hb; have BK_1 := a_ (hbox); have GE_1 := a_ (bs_0 hg HB); replace HB := hB_ (bl_ HB) hb; clear hb hbox hg; obtain ⟨_, _, _, _, _, _, _, _⟩ := c4_ BK_1)
  go_ret
  exact ⟨fz_, bl_1 HB GE_1⟩

end Go.Proofs.Ytcdibodjkdoknaa.PM
