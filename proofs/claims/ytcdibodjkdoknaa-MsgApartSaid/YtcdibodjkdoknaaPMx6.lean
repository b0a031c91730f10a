-- Written for this claim by a program of this session. Lean checks it.
import Derived.Test.YtcdibodjkdoknaaPMx0
import Derived.Test.YtcdibodjkdoknaaPMx1
import Derived.Test.YtcdibodjkdoknaaPMx4
import Derived.Test.YtcdibodjkdoknaaPMx5
namespace Go.Proofs.Ytcdibodjkdoknaa.PM
open Go.RowKit Go.Proofs.YtcdibodjkdoknaaW.PrintWords Go.Proofs.YtcdibodjkdoknaaW.PrintLast Go.Proofs.YtcdibodjkdoknaaW.PrintMore Go.Proofs.Ytcdibodjkdoknaa.Sh Go.Proofs.Ytcdibodjkdoknaa.Op
attribute [local go_sem] max2_int min2_int max_two min_two max_three min_three max_four min_four   -- for this text's walks alone
set_option linter.unusedVariables false
set_option maxHeartbeats 80000000
set_option maxRecDepth 100000
set_option linter.unusedSimpArgs false

/-! ### msg_bytes: function 24 -/
def msg_bytes.nums (k : Nat) : ByteArray → List Int → Option ByteArray
 | s, [] => some s
 | s, x :: r => (pack_Number.f k x).bind fun t => (if s.size + t.size ≤ 140737488355328 then msg_bytes.nums k (s ++ t) r else none)
theorem row_cell {w : World} {g j : Nat} {T : TypeId} {xs : List Int} (h : w.heap[g]? = some (.cells (xs.map (Value.int .u64)).toArray T (0, 0))) (hj : j < xs.length) : w.cell? ⟨g, j, none⟩ = some (.int .u64 (xs.getD j 0)) := by
 rw [Lib.cell_of_heap h]
 simp [List.getD_eq_getElem?_getD, List.getElem?_eq_getElem hj]
theorem msg_bytes.nums_calls (k B b g c : Nat) (s r : ByteArray) (l : List Int) (w : World) (hI : Go.Proofs.Ytcdibodjkdoknaa.Mk.IsM w B b s) (hB : B ≤ w.heap.size) (hg : g ≠ b) (hrow : w.heap[g]? = some (.cells (l.map (Value.int .u64)).toArray 31 (0, 0))) (hc : l.length ≤ c) (hl : l.length ≤ 9) (h : msg_bytes.nums k s l = some r) :
  Calls Try.prog 40 #[.pointer (some ⟨b, 0, none⟩), .slice (some ⟨g, 0, none⟩) l.length c] w fun e w' => e = .returned (.tuple #[]) ∧ Go.Proofs.Ytcdibodjkdoknaa.Mk.IsM w' B b r ∧ Below B w w' ∧ Lib.OthersKept 5 (some b) w w' := by
 have BI := a_ hI
 have HR := a_ hrow
 have HB := a_ (Below.refl B w)
 have HO := a_ (Lib.OthersKept.refl 5 (some b) w)
 have GS := a_ hB
 have H0 := a_ h
 clear hI hrow h hB
 go_enter Try.func40, Try.ntmps40
 go_wp2
 go_loopg [8] l.length (fun m v8 w' => ∃ (j : Nat) (s' : ByteArray), j + m = l.length ∧ v8 = .int .i64 (j : Int) ∧ Aside0 (msg_bytes.nums k s' (l.drop j) = some r) ∧ Aside0 (Go.Proofs.Ytcdibodjkdoknaa.Mk.IsM w' B b s') ∧ Aside0 (w'.heap[g]? = some (.cells (l.map (Value.int .u64)).toArray 31 (0, 0))) ∧ Aside0 (B ≤ w'.heap.size) ∧ Aside0 (Below B w w') ∧ Aside0 (Lib.OthersKept 5 (some b) w w'))
 case atStart => exact ⟨0, s, by omega, rfl, H0, BI, HR, GS, HB, HO⟩
 case round =>
  clear BI HR GS HB HO H0
  obtain ⟨j, s', hj, rfl, H0, BI, HR, GS, HB, HO⟩ := hrel
  cases gk with
  | zero =>
   obtain rfl : j = l.length := by omega
   have hd : decide ((l.length : Int) < (l.length : Int)) = false := decide_eq_false (by omega)
   have e : s' = r := by have h := H0.out; rw [List.drop_length] at h; exact Option.some.inj h
   subst e
   go_wp2
   go_end0
   exact ⟨rfl, BI.out, HB.out, HO.out⟩
  | succ m =>
   have hlt : j < l.length := by omega
   have hd : decide ((j : Int) < (l.length : Int)) = true := decide_eq_true (by omega)
   have hd2 : decide (0 ≤ (j : Int)) = true := decide_eq_true (by omega)
   have hc0 := row_cell HR.out hlt
   have H1 : ((pack_Number.f k l[j]).bind fun t => (if s'.size + t.size ≤ 140737488355328 then msg_bytes.nums k (s' ++ t) (l.drop (j + 1)) else none)) = some r := by
    have h := H0.out
    rw [List.drop_eq_getElem_cons hlt] at h
    exact h
   obtain ⟨t, A10, H⟩ := Option.bind_eq_some_iff.mp H1
   by_cases c5 : s'.size + t.size ≤ 140737488355328
   case neg => rw [if_neg c5] at H; cases H
   rw [if_pos c5] at H
   have A1 := a_ A10
   have L5 := a_ c5
   have H' := a_ H
   clear H0 H1 A10 H c5
   go_wp2
   have BId := a_ (show Go.Proofs.Ytcdibodjkdoknaa.Mk.IsM wr.drew B b s' from BI.out)
   have HRd := a_ (show wr.drew.heap[g]? = some (.cells (l.map (Value.int .u64)).toArray 31 (0, 0)) from HR.out)
   have HBd := a_ (show Below B w wr.drew from HB.out.drew)
   have HOd := a_ (show Lib.OthersKept 5 (some b) w wr.drew from HO.out.drew)
   have GSd := a_ (show B ≤ wr.drew.heap.size from GS.out)
   clear BI HR HB HO GS
   go_region_with (first | (go_at_call 73; (with_reducible refine (pack_Number.calls k l[j] t _ A1.out).mono ?_); rintro e w4 ⟨rfl, hb⟩; replace BId := a_ (Go.Proofs.Ytcdibodjkdoknaa.Mk.IsM.below BId.out hb); replace HRd := a_ ((hb.block g (blk_lt HRd.out)).trans HRd.out); replace HBd := a_ (HBd.out.trans (below_up hb GSd.out)); replace HOd := a_ (HOd.out.trans (fun k o hk _ _ => (hb.block k (blk_lt hk)).trans hk)); replace GSd := a_ (Nat.le_trans GSd.out hb.size); clear hb) | (go_at_call 72; (with_reducible refine (Go.Proofs.Ytcdibodjkdoknaa.Mk.write B b s' t _ BId.out L5.out GSd.out).mono ?_); rintro e w5 ⟨rfl, bi, hb, ho⟩; replace BId := a_ bi; replace HRd := a_ (ho g _ HRd.out (fun e => hg (Option.some.inj e)) (fun c fz e => by injection e with _ e2 _; exact absurd e2 (by decide))); replace HBd := a_ (HBd.out.trans hb); replace HOd := a_ (HOd.out.trans ho); replace GSd := a_ (Nat.le_trans GSd.out hb.size); clear bi hb ho))
   all_goals go_wp2
   all_goals go_roundg m
   case rel => exact ⟨j + 1, s' ++ t, by omega, fz_, H', BId, HRd, GSd, HBd, HOd⟩
   case measure => omega
def msg_bytes.txts (k : Nat) : ByteArray → List ByteArray → Option ByteArray
 | s, [] => some s
 | s, x :: r => (pack_Text.f k x).bind fun t => (if s.size + t.size ≤ 140737488355328 then msg_bytes.txts k (s ++ t) r else none)
theorem row_cellS {w : World} {g j : Nat} {T : TypeId} {xs : List ByteArray} (h : w.heap[g]? = some (.cells (xs.map Value.string).toArray T (0, 0))) (hj : j < xs.length) : w.cell? ⟨g, j, none⟩ = some (.string (xs.getD j ⟨#[]⟩)) := by
 rw [Lib.cell_of_heap h]
 simp [List.getD_eq_getElem?_getD, List.getElem?_eq_getElem hj]
theorem msg_bytes.txts_calls (k B b g c : Nat) (s r : ByteArray) (l : List ByteArray) (w : World) (hI : Go.Proofs.Ytcdibodjkdoknaa.Mk.IsM w B b s) (hB : B ≤ w.heap.size) (hg : g ≠ b) (hrow : w.heap[g]? = some (.cells (l.map Value.string).toArray 9 (0, 0))) (hc : l.length ≤ c) (hl : l.length ≤ 9) (h : msg_bytes.txts k s l = some r) :
  Calls Try.prog 42 #[.pointer (some ⟨b, 0, none⟩), .slice (some ⟨g, 0, none⟩) l.length c] w fun e w' => e = .returned (.tuple #[]) ∧ Go.Proofs.Ytcdibodjkdoknaa.Mk.IsM w' B b r ∧ Below B w w' ∧ Lib.OthersKept 5 (some b) w w' := by
 have BI := a_ hI
 have HR := a_ hrow
 have HB := a_ (Below.refl B w)
 have HO := a_ (Lib.OthersKept.refl 5 (some b) w)
 have GS := a_ hB
 have H0 := a_ h
 clear hI hrow h hB
 go_enter Try.func42, Try.ntmps42
 go_wp2
 go_loopg [8] l.length (fun m v8 w' => ∃ (j : Nat) (s' : ByteArray), j + m = l.length ∧ v8 = .int .i64 (j : Int) ∧ Aside0 (msg_bytes.txts k s' (l.drop j) = some r) ∧ Aside0 (Go.Proofs.Ytcdibodjkdoknaa.Mk.IsM w' B b s') ∧ Aside0 (w'.heap[g]? = some (.cells (l.map Value.string).toArray 9 (0, 0))) ∧ Aside0 (B ≤ w'.heap.size) ∧ Aside0 (Below B w w') ∧ Aside0 (Lib.OthersKept 5 (some b) w w'))
 case atStart => exact ⟨0, s, by omega, rfl, H0, BI, HR, GS, HB, HO⟩
 case round =>
  clear BI HR GS HB HO H0
  obtain ⟨j, s', hj, rfl, H0, BI, HR, GS, HB, HO⟩ := hrel
  cases gk with
  | zero =>
   obtain rfl : j = l.length := by omega
   have hd : decide ((l.length : Int) < (l.length : Int)) = false := decide_eq_false (by omega)
   have e : s' = r := by have h := H0.out; rw [List.drop_length] at h; exact Option.some.inj h
   subst e
   go_wp2
   go_end0
   exact ⟨rfl, BI.out, HB.out, HO.out⟩
  | succ m =>
   have hlt : j < l.length := by omega
   have hd : decide ((j : Int) < (l.length : Int)) = true := decide_eq_true (by omega)
   have hd2 : decide (0 ≤ (j : Int)) = true := decide_eq_true (by omega)
   have hc0 := row_cellS HR.out hlt
   have H1 : ((pack_Text.f k l[j]).bind fun t => (if s'.size + t.size ≤ 140737488355328 then msg_bytes.txts k (s' ++ t) (l.drop (j + 1)) else none)) = some r := by
    have h := H0.out
    rw [List.drop_eq_getElem_cons hlt] at h
    exact h
   obtain ⟨t, A10, H⟩ := Option.bind_eq_some_iff.mp H1
   by_cases c5 : s'.size + t.size ≤ 140737488355328
   case neg => rw [if_neg c5] at H; cases H
   rw [if_pos c5] at H
   have A1 := a_ A10
   have L5 := a_ c5
   have H' := a_ H
   clear H0 H1 A10 H c5
   go_wp2
   have BId := a_ (show Go.Proofs.Ytcdibodjkdoknaa.Mk.IsM wr.drew B b s' from BI.out)
   have HRd := a_ (show wr.drew.heap[g]? = some (.cells (l.map Value.string).toArray 9 (0, 0)) from HR.out)
   have HBd := a_ (show Below B w wr.drew from HB.out.drew)
   have HOd := a_ (show Lib.OthersKept 5 (some b) w wr.drew from HO.out.drew)
   have GSd := a_ (show B ≤ wr.drew.heap.size from GS.out)
   clear BI HR HB HO GS
   go_region_with (first | (go_at_call 74; (with_reducible refine (pack_Text.calls k l[j] t _ A1.out).mono ?_); rintro e w4 ⟨rfl, hb⟩; replace BId := a_ (Go.Proofs.Ytcdibodjkdoknaa.Mk.IsM.below BId.out hb); replace HRd := a_ ((hb.block g (blk_lt HRd.out)).trans HRd.out); replace HBd := a_ (HBd.out.trans (below_up hb GSd.out)); replace HOd := a_ (HOd.out.trans (fun k o hk _ _ => (hb.block k (blk_lt hk)).trans hk)); replace GSd := a_ (Nat.le_trans GSd.out hb.size); clear hb) | (go_at_call 72; (with_reducible refine (Go.Proofs.Ytcdibodjkdoknaa.Mk.write B b s' t _ BId.out L5.out GSd.out).mono ?_); rintro e w5 ⟨rfl, bi, hb, ho⟩; replace BId := a_ bi; replace HRd := a_ (ho g _ HRd.out (fun e => hg (Option.some.inj e)) (fun c fz e => by injection e with _ e2 _; exact absurd e2 (by decide))); replace HBd := a_ (HBd.out.trans hb); replace HOd := a_ (HOd.out.trans ho); replace GSd := a_ (Nat.le_trans GSd.out hb.size); clear bi hb ho))
   all_goals go_wp2
   all_goals go_roundg m
   case rel => exact ⟨j + 1, s' ++ t, by omega, fz_, H', BId, HRd, GSd, HBd, HOd⟩
   case measure => omega

theorem alloc_new (w : World) (o : Obj) : (w.alloc o).heap[w.heap.size]? = some o := by simp [World.alloc, -World.alloc_eq]
theorem isM_alloc {w : World} {B b : Nat} {s : ByteArray} (h : Go.Proofs.Ytcdibodjkdoknaa.Mk.IsM w B b s) (o : Obj) : Go.Proofs.Ytcdibodjkdoknaa.Mk.IsM (w.alloc o) B b s := Go.Proofs.Ytcdibodjkdoknaa.Mk.IsM.below h ((Below.refl _ _).alloc (Nat.le_refl _) o)
theorem msg_bytes.nums_arm (k b : Nat) (s r : ByteArray) (l : List Int) {w : World} {os : Array Value} {n : Nat} (hI : Go.Proofs.Ytcdibodjkdoknaa.Mk.IsM w b b s) (h : msg_bytes.nums k s l = some r) (hos : os = (l.map (Value.int .u64)).toArray := by rfl) (hn : n = l.length := by rfl) (hl : l.length ≤ 9 := by decide) :
  Calls Try.prog 40 #[.pointer (some ⟨b, 0, none⟩), .slice (some ⟨w.heap.size, 0, none⟩) n n] (w.alloc (.cells os 31)) fun e w' => e = .returned (.tuple #[]) ∧ Go.Proofs.Ytcdibodjkdoknaa.Mk.IsM w' b b r ∧ Below b w w' := by
 subst hn hos
 have hlt := Go.Proofs.Ytcdibodjkdoknaa.Mk.IsM.lt hI
 have hb : Below b w (w.alloc (.cells (l.map (Value.int .u64)).toArray 31)) := (Below.refl _ _).alloc (by omega) _
 refine (msg_bytes.nums_calls k b b w.heap.size l.length s r l _ (isM_alloc hI _) (Nat.le_trans (Nat.le_of_lt hlt) hb.size) (by omega) (alloc_new _ _) (Nat.le_refl _) hl h).mono ?_
 rintro e w' ⟨rfl, h1, h2, _⟩
 exact ⟨rfl, h1, hb.trans h2⟩
theorem msg_bytes.txts_arm (k b : Nat) (s r : ByteArray) (l : List ByteArray) {w : World} {os : Array Value} {n : Nat} (hI : Go.Proofs.Ytcdibodjkdoknaa.Mk.IsM w b b s) (h : msg_bytes.txts k s l = some r) (hos : os = (l.map Value.string).toArray := by rfl) (hn : n = l.length := by rfl) (hl : l.length ≤ 9 := by decide) :
  Calls Try.prog 42 #[.pointer (some ⟨b, 0, none⟩), .slice (some ⟨w.heap.size, 0, none⟩) n n] (w.alloc (.cells os 9)) fun e w' => e = .returned (.tuple #[]) ∧ Go.Proofs.Ytcdibodjkdoknaa.Mk.IsM w' b b r ∧ Below b w w' ∧ Lib.OthersKept 5 (some b) w w' := by
 subst hn hos
 have hlt := Go.Proofs.Ytcdibodjkdoknaa.Mk.IsM.lt hI
 have hb : Below b w (w.alloc (.cells (l.map Value.string).toArray 9)) := (Below.refl _ _).alloc (by omega) _
 refine (msg_bytes.txts_calls k b b w.heap.size l.length s r l _ (isM_alloc hI _) (Nat.le_trans (Nat.le_of_lt hlt) hb.size) (by omega) (alloc_new _ _) (Nat.le_refl _) hl h).mono ?_
 rintro e w' ⟨rfl, h1, h2, h3⟩
 exact ⟨rfl, h1, hb.trans h2, ((Lib.OthersKept.refl _ _ _).alloc _).trans h3⟩

theorem nums_pos {k : Nat} : ∀ {s r : ByteArray} {l : List Int}, msg_bytes.nums k s l = some r → s.size ≠ 0 → r.size ≠ 0
 | s, r, [], h, hs => by cases h; exact hs
 | s, r, x :: l, h, hs => by
  obtain ⟨t, _, H⟩ := Option.bind_eq_some_iff.mp h
  split at H
  · exact nums_pos H (by rw [ByteArray.size_append]; omega)
  · cases H
theorem txts_pos {k : Nat} : ∀ {s r : ByteArray} {l : List ByteArray}, msg_bytes.txts k s l = some r → s.size ≠ 0 → r.size ≠ 0
 | s, r, [], h, hs => by cases h; exact hs
 | s, r, x :: l, h, hs => by
  obtain ⟨t, _, H⟩ := Option.bind_eq_some_iff.mp h
  split at H
  · exact txts_pos H (by rw [ByteArray.size_append]; omega)
  · cases H

def msg_bytes.ents (k : Nat) : ByteArray → List S67 → Option ByteArray
 | s, [] => some s
 | s, x :: r => (wal_Bytes.f k x.f0 x.f1 x.f2 x.f3 x.f4).bind fun t => (msg_bytes.txts k s [t]).bind fun s' => msg_bytes.ents k s' r
def msg_bytes.f (k : Nat) (a0_0 a0_1 a0_2 a0_3 a0_4 : Int) (a0_5 : Bool) (l0_6 : List S67) (a0_7 a0_8 : Int) (l0_9 : List Int) (a0_10 : ByteArray) : Option ByteArray := (msg_bytes.nums k ⟨#[]⟩ [IntKind.u64.wrap a0_0, a0_1]).bind fun s => (if s.size = 0 then none else (if a0_0 = 1 then (msg_bytes.nums k s [a0_2, a0_3]) else (if a0_0 = 2 then ((msg_flag.f a0_5).bind fun g => msg_bytes.nums k s [g]) else (if a0_0 = 3 then (if l0_6.length ≤ 4611686018427387904 then ((msg_bytes.nums k s [a0_2, a0_3, a0_4, IntKind.u64.wrap (l0_6.length : Int)]).bind fun s2 => msg_bytes.ents k s2 l0_6) else none) else (if a0_0 = 4 then ((msg_flag.f a0_5).bind fun g => msg_bytes.nums k s [g, a0_2]) else (if a0_0 = 5 then ((snap_Bytes.f k a0_7 a0_8 l0_9 a0_10).bind fun t => msg_bytes.txts k s [t]) else (some s)))))))
theorem msg_bytes.nums_mono : ∀ (l : List Int) (s : ByteArray) (k : Nat), LeO (msg_bytes.nums k s l) (msg_bytes.nums (k + 1) s l)
 | [], s, k => LeO.refl _
 | x :: r, s, k => LeO.bind (pack_Number.mono _ k) (fun t => LeO.ite (msg_bytes.nums_mono r _ k) (LeO.none _))
theorem msg_bytes.txts_mono : ∀ (l : List ByteArray) (s : ByteArray) (k : Nat), LeO (msg_bytes.txts k s l) (msg_bytes.txts (k + 1) s l)
 | [], s, k => LeO.refl _
 | x :: r, s, k => LeO.bind (pack_Text.mono _ k) (fun t => LeO.ite (msg_bytes.txts_mono r _ k) (LeO.none _))
theorem msg_bytes.ents_mono : ∀ (l : List S67) (s : ByteArray) (k : Nat), LeO (msg_bytes.ents k s l) (msg_bytes.ents (k + 1) s l)
 | [], s, k => LeO.refl _
 | x :: r, s, k => LeO.bind (wal_Bytes.mono _ _ _ _ _ k) (fun t => LeO.bind (msg_bytes.txts_mono _ _ k) (fun _ => msg_bytes.ents_mono r _ k))
theorem msg_bytes.mono : ∀ a0 a1 a2 a3 a4 a5 a6 a7 a8 a9 a10 k, LeO (msg_bytes.f k a0 a1 a2 a3 a4 a5 a6 a7 a8 a9 a10) (msg_bytes.f (k + 1) a0 a1 a2 a3 a4 a5 a6 a7 a8 a9 a10) := by
 intro a0 a1 a2 a3 a4 a5 a6 a7 a8 a9 a10 k
 unfold msg_bytes.f
 repeat' with_reducible first | exact msg_bytes.nums_mono _ _ _ | exact msg_bytes.txts_mono _ _ _ | exact msg_bytes.ents_mono _ _ _ | exact snap_Bytes.mono _ _ _ _ _ | exact LeO.refl _ | exact LeO.none _ | refine LeO.ite ?_ ?_ | refine LeO.bind ?_ (fun _ => ?_)
theorem msg_bytes.calls (k : Nat) (a0_0 : Int) (a0_1 : Int) (a0_2 : Int) (a0_3 : Int) (a0_4 : Int) (a0_5 : Bool) (A0_6 : Option Addr) (c0_6 : Nat) (l0_6 : List (S67)) (a0_7 : Int) (a0_8 : Int) (A0_9 : Option Addr) (c0_9 : Nat) (l0_9 : List Int) (a0_10 : ByteArray) (r : ByteArray) (w : World) (hr0_6 : Kd.C k67 w A0_6 l0_6.length l0_6) (hc0_6 : l0_6.length ≤ c0_6) (hr0_9 : Kd.C (Kd.int .i64) w A0_9 l0_9.length l0_9) (hc0_9 : l0_9.length ≤ c0_9) (h : msg_bytes.f k a0_0 a0_1 a0_2 a0_3 a0_4 a0_5 l0_6 a0_7 a0_8 l0_9 a0_10 = some r) :
  Calls Try.prog 24 #[.agg #[.int .u8 a0_0, .int .u64 a0_1, .int .u64 a0_2, .int .u64 a0_3, .int .u64 a0_4, .bool a0_5, .slice A0_6 l0_6.length c0_6, .int .u64 a0_7, .int .u64 a0_8, .slice A0_9 l0_9.length c0_9, .string a0_10]] w fun e w' => e = .returned (.string r) ∧ Below w.heap.size w w' := by
 have HR0_6 := a_ hr0_6
 have HC0_6 := a_ hc0_6
 have HR0_9 := a_ hr0_9
 have HC0_9 := a_ hc0_9
 have HB := a_ (Below.refl w.heap.size w)
 have hu37 := Try.underlying37
 obtain ⟨s, A10, H⟩ := Option.bind_eq_some_iff.mp (show ((msg_bytes.nums k ⟨#[]⟩ [IntKind.u64.wrap a0_0, a0_1]).bind fun s => (if s.size = 0 then none else (if a0_0 = 1 then (msg_bytes.nums k s [a0_2, a0_3]) else (if a0_0 = 2 then ((msg_flag.f a0_5).bind fun g => msg_bytes.nums k s [g]) else (if a0_0 = 3 then (if l0_6.length ≤ 4611686018427387904 then ((msg_bytes.nums k s [a0_2, a0_3, a0_4, IntKind.u64.wrap (l0_6.length : Int)]).bind fun s2 => msg_bytes.ents k s2 l0_6) else none) else (if a0_0 = 4 then ((msg_flag.f a0_5).bind fun g => msg_bytes.nums k s [g, a0_2]) else (if a0_0 = 5 then ((snap_Bytes.f k a0_7 a0_8 l0_9 a0_10).bind fun t => msg_bytes.txts k s [t]) else (some s)))))))) = some r from h)
 have A1 := a_ A10
 clear h A10 hr0_6 hc0_6 hr0_9 hc0_9
 by_cases c0 : s.size = 0
 case pos => rw [if_pos c0] at H; cases H
 rw [if_neg c0] at H
 have C0 := a_ c0
 have H1 := a_ H
 clear c0 H
 by_cases c1 : a0_0 = 1
 · have H2 := H1.out
   rw [if_pos c1] at H2
   replace H1 := a_ H2
   clear H2
   have e1 : (a0_0 == 1) = true := beq_iff_eq.mpr c1
   clear c1
   have A2 := H1
   have C1 := a_ (nums_pos A2.out C0.out)
   clear H1
   go_enter Try.func24, Try.ntmps24
   go_wp2_with (first | ((with_reducible refine gd_ 1 ?_); refine bx_ 1 #[.int .u8 a0_0, .int .u64 a0_1, .int .u64 a0_2, .int .u64 a0_3, .int .u64 a0_4, .bool a0_5, .slice A0_6 l0_6.length c0_6, .int .u64 a0_7, .int .u64 a0_8, .slice A0_9 l0_9.length c0_9, .string a0_10] 37 ?_; intro ge hg w_ hbox hb; have BKe := a_ hbox; have GEe := a_ (bs_0 hg HB); replace HB := hB_ (bl_ HB) hb; clear hb hbox hg) | ((with_reducible refine gd_ 7 ?_); refine bx_ 7 #[.pointer none, .slice none 0 0] 75 ?_; intro gb hg w_ hbox hb; have GEb := a_ (bs_1 hg HB GEe); have NBe_b := nB_ hg BKe; have NBb_e := nC_ hg BKe; have GLT := a_ (show ge < gb from by rw [hg]; exact blk_lt (bk_ BKe)); have BI := a_ (Go.Proofs.Ytcdibodjkdoknaa.Mk.IsM.fresh (Nat.le_refl gb) hbox); replace BKe := bB_ BKe hb; replace HB := hB_ (bl_1 HB GEe) hb; clear hb hbox hg; have hcca_0 := (blk_cell BKe.out 0).trans rfl; have hcca_1 := (blk_cell BKe.out 1).trans rfl; have hn1 := NBe_b.out; have hn2 := NBb_e.out) | (go_at_call 40; (with_reducible refine (msg_bytes.nums_arm k gb ⟨#[]⟩ s [IntKind.u64.wrap a0_0, a0_1] BI.out A1.out ?hos ?hn ?hl).mono ?_); (case hos => rfl); (case hn => rfl); (case hl => exact Nat.le_of_ble_eq_true rfl); rintro e w5 ⟨rfl, bi, hb⟩; replace BI := a_ bi; replace BKe := blk_up BKe hb GLT.out; replace HB := a_ (HB.out.trans (below_up hb GEb.out)); clear bi hb; have hccb_0 := (blk_cell BKe.out 0).trans rfl; have hccb_1 := (blk_cell BKe.out 1).trans rfl; have hccb_2 := (blk_cell BKe.out 2).trans rfl; have hccb_3 := (blk_cell BKe.out 3).trans rfl; have hccb_4 := (blk_cell BKe.out 4).trans rfl; have hccb_5 := (blk_cell BKe.out 5).trans rfl; have hccb_6 := (blk_cell BKe.out 6).trans rfl; have hccb_7 := (blk_cell BKe.out 7).trans rfl; have hccb_8 := (blk_cell BKe.out 8).trans rfl; have hccb_9 := (blk_cell BKe.out 9).trans rfl; have hccb_10 := (blk_cell BKe.out 10).trans rfl) | (go_at_call 40; (with_reducible refine (msg_bytes.nums_arm k gb s r [a0_2, a0_3] BI.out A2.out ?hos ?hn ?hl).mono ?_); (case hos => rfl); (case hn => rfl); (case hl => exact Nat.le_of_ble_eq_true rfl); rintro e w5 ⟨rfl, bi, hb⟩; replace BI := a_ bi; replace BKe := blk_up BKe hb GLT.out; replace HB := a_ (HB.out.trans (below_up hb GEb.out)); clear bi hb; have hccc_0 := (blk_cell BKe.out 0).trans rfl) | (go_at_call 45; (with_reducible refine (Go.Proofs.Ytcdibodjkdoknaa.Mk.str gb gb r _ BI.out C1.out).mono ?_); rintro e w6 ⟨rfl, hb⟩; replace HB := a_ (HB.out.trans (below_up hb GEb.out)); clear hb))
   go_ret
   exact ⟨rfl, bl_1 HB GEe⟩
 have H2 := H1.out
 rw [if_neg c1] at H2
 replace H1 := a_ H2
 clear H2
 have e1 : (a0_0 == 1) = false := beq_eq_false_iff_ne.mpr c1
 clear c1
 by_cases c2 : a0_0 = 2
 · have H2 := H1.out
   rw [if_pos c2] at H2
   replace H1 := a_ H2
   clear H2
   have e2 : (a0_0 == 2) = true := beq_iff_eq.mpr c2
   clear c2
   obtain ⟨g, A30, H⟩ := Option.bind_eq_some_iff.mp H1.out
   have A3 := a_ A30
   have A2 := a_ H
   have C1 := a_ (nums_pos A2.out C0.out)
   clear A30 H H1
   go_enter Try.func24, Try.ntmps24
   go_wp2_with (first | ((with_reducible refine gd_ 1 ?_); refine bx_ 1 #[.int .u8 a0_0, .int .u64 a0_1, .int .u64 a0_2, .int .u64 a0_3, .int .u64 a0_4, .bool a0_5, .slice A0_6 l0_6.length c0_6, .int .u64 a0_7, .int .u64 a0_8, .slice A0_9 l0_9.length c0_9, .string a0_10] 37 ?_; intro ge hg w_ hbox hb; have BKe := a_ hbox; have GEe := a_ (bs_0 hg HB); replace HB := hB_ (bl_ HB) hb; clear hb hbox hg) | ((with_reducible refine gd_ 7 ?_); refine bx_ 7 #[.pointer none, .slice none 0 0] 75 ?_; intro gb hg w_ hbox hb; have GEb := a_ (bs_1 hg HB GEe); have NBe_b := nB_ hg BKe; have NBb_e := nC_ hg BKe; have GLT := a_ (show ge < gb from by rw [hg]; exact blk_lt (bk_ BKe)); have BI := a_ (Go.Proofs.Ytcdibodjkdoknaa.Mk.IsM.fresh (Nat.le_refl gb) hbox); replace BKe := bB_ BKe hb; replace HB := hB_ (bl_1 HB GEe) hb; clear hb hbox hg; have hcca_0 := (blk_cell BKe.out 0).trans rfl; have hcca_1 := (blk_cell BKe.out 1).trans rfl; have hn1 := NBe_b.out; have hn2 := NBb_e.out) | (go_at_call 40; (with_reducible refine (msg_bytes.nums_arm k gb ⟨#[]⟩ s [IntKind.u64.wrap a0_0, a0_1] BI.out A1.out ?hos ?hn ?hl).mono ?_); (case hos => rfl); (case hn => rfl); (case hl => exact Nat.le_of_ble_eq_true rfl); rintro e w5 ⟨rfl, bi, hb⟩; replace BI := a_ bi; replace BKe := blk_up BKe hb GLT.out; replace HB := a_ (HB.out.trans (below_up hb GEb.out)); clear bi hb; have hccb_0 := (blk_cell BKe.out 0).trans rfl; have hccb_1 := (blk_cell BKe.out 1).trans rfl; have hccb_2 := (blk_cell BKe.out 2).trans rfl; have hccb_3 := (blk_cell BKe.out 3).trans rfl; have hccb_4 := (blk_cell BKe.out 4).trans rfl; have hccb_5 := (blk_cell BKe.out 5).trans rfl; have hccb_6 := (blk_cell BKe.out 6).trans rfl; have hccb_7 := (blk_cell BKe.out 7).trans rfl; have hccb_8 := (blk_cell BKe.out 8).trans rfl; have hccb_9 := (blk_cell BKe.out 9).trans rfl; have hccb_10 := (blk_cell BKe.out 10).trans rfl) | (go_at_call 41; (with_reducible refine (msg_flag.calls a0_5 g _ A3.out).mono ?_); rintro e w4 ⟨rfl, hd⟩; have hb := hd.below; replace BI := a_ (Go.Proofs.Ytcdibodjkdoknaa.Mk.IsM.below BI.out hb); replace BKe := bB_ BKe hb; replace HB := hB_ (bl_1 HB GEe) hb; clear hb hd; have hccf_2 := (blk_cell BKe.out 2).trans rfl) | (go_at_call 40; (with_reducible refine (msg_bytes.nums_arm k gb s r [g] BI.out A2.out ?hos ?hn ?hl).mono ?_); (case hos => rfl); (case hn => rfl); (case hl => exact Nat.le_of_ble_eq_true rfl); rintro e w5 ⟨rfl, bi, hb⟩; replace BI := a_ bi; replace BKe := blk_up BKe hb GLT.out; replace HB := a_ (HB.out.trans (below_up hb GEb.out)); clear bi hb; have hccc_0 := (blk_cell BKe.out 0).trans rfl) | (go_at_call 45; (with_reducible refine (Go.Proofs.Ytcdibodjkdoknaa.Mk.str gb gb r _ BI.out C1.out).mono ?_); rintro e w6 ⟨rfl, hb⟩; replace HB := a_ (HB.out.trans (below_up hb GEb.out)); clear hb))
   go_ret
   exact ⟨rfl, bl_1 HB GEe⟩
 have H2 := H1.out
 rw [if_neg c2] at H2
 replace H1 := a_ H2
 clear H2
 have e2 : (a0_0 == 2) = false := beq_eq_false_iff_ne.mpr c2
 clear c2
 by_cases c3 : a0_0 = 3
 · have H2 := H1.out
   rw [if_pos c3] at H2
   by_cases cl : l0_6.length ≤ 4611686018427387904
   case neg => rw [if_neg cl] at H2; cases H2
   rw [if_pos cl] at H2
   have CL := a_ cl
   clear cl
   obtain ⟨s2, A20, H⟩ := Option.bind_eq_some_iff.mp H2
   have A2 := a_ A20
   have A3 := a_ H
   have C2 := a_ (nums_pos A2.out C0.out)
   have e3 : (a0_0 == 3) = true := beq_iff_eq.mpr c3
   clear c3 A20 H H1 H2
   go_enter Try.func24, Try.ntmps24
   go_wp2_with (first | ((with_reducible refine gd_ 1 ?_); refine bx_ 1 #[.int .u8 a0_0, .int .u64 a0_1, .int .u64 a0_2, .int .u64 a0_3, .int .u64 a0_4, .bool a0_5, .slice A0_6 l0_6.length c0_6, .int .u64 a0_7, .int .u64 a0_8, .slice A0_9 l0_9.length c0_9, .string a0_10] 37 ?_; intro ge hg w_ hbox hb; have BKe := a_ hbox; have GEe := a_ (bs_0 hg HB); replace HB := hB_ (bl_ HB) hb; clear hb hbox hg) | ((with_reducible refine gd_ 7 ?_); refine bx_ 7 #[.pointer none, .slice none 0 0] 75 ?_; intro gb hg w_ hbox hb; have GEb := a_ (bs_1 hg HB GEe); have NBe_b := nB_ hg BKe; have NBb_e := nC_ hg BKe; have GLT := a_ (show ge < gb from by rw [hg]; exact blk_lt (bk_ BKe)); have BI := a_ (Go.Proofs.Ytcdibodjkdoknaa.Mk.IsM.fresh (Nat.le_refl gb) hbox); replace BKe := bB_ BKe hb; replace HB := hB_ (bl_1 HB GEe) hb; clear hb hbox hg; have hcca_0 := (blk_cell BKe.out 0).trans rfl; have hcca_1 := (blk_cell BKe.out 1).trans rfl; have hn1 := NBe_b.out; have hn2 := NBb_e.out) | (go_at_call 40; (with_reducible refine (msg_bytes.nums_arm k gb ⟨#[]⟩ s [IntKind.u64.wrap a0_0, a0_1] BI.out A1.out ?hos ?hn ?hl).mono ?_); (case hos => rfl); (case hn => rfl); (case hl => exact Nat.le_of_ble_eq_true rfl); rintro e w5 ⟨rfl, bi, hb⟩; replace BI := a_ bi; replace BKe := blk_up BKe hb GLT.out; replace HB := a_ (HB.out.trans (below_up hb GEb.out)); clear bi hb; have hccb_0 := (blk_cell BKe.out 0).trans rfl; have hccb_1 := (blk_cell BKe.out 1).trans rfl; have hccb_2 := (blk_cell BKe.out 2).trans rfl; have hccb_3 := (blk_cell BKe.out 3).trans rfl; have hccb_4 := (blk_cell BKe.out 4).trans rfl; have hccb_5 := (blk_cell BKe.out 5).trans rfl; have hccb_6 := (blk_cell BKe.out 6).trans rfl; have hccb_7 := (blk_cell BKe.out 7).trans rfl; have hccb_8 := (blk_cell BKe.out 8).trans rfl; have hccb_9 := (blk_cell BKe.out 9).trans rfl; have hccb_10 := (blk_cell BKe.out 10).trans rfl) | (go_at_call 40; (with_reducible refine (msg_bytes.nums_arm k gb s s2 [a0_2, a0_3, a0_4, IntKind.u64.wrap (l0_6.length : Int)] BI.out A2.out ?hos ?hn ?hl).mono ?_); (case hos => rfl); (case hn => rfl); (case hl => exact Nat.le_of_ble_eq_true rfl); rintro e w5 ⟨rfl, bi, hb⟩; replace BI := a_ bi; replace BKe := blk_up BKe hb GLT.out; replace HB := a_ (HB.out.trans (below_up hb GEb.out)); clear bi hb; have hccc_0 := (blk_cell BKe.out 0).trans rfl; have hccc_6 := (blk_cell BKe.out 6).trans rfl))
   go_loopg [53] l0_6.length (fun m v53 w' => ∃ (j : Nat) (s3 : ByteArray), j + m = l0_6.length ∧ v53 = .int .i64 (j : Int) ∧ Aside0 (msg_bytes.ents k s3 (l0_6.drop j) = some r) ∧ Aside0 (s3.size ≠ 0) ∧ Aside0 (Go.Proofs.Ytcdibodjkdoknaa.Mk.IsM w' gb gb s3) ∧ Aside0 (Below w.heap.size w w'))
   case atStart => exact ⟨0, s2, by omega, fz_, A3, C2, BI, ⟨bl_1 HB GEe⟩⟩
   case round =>
    clear A3 C2 BI HB BKe hccc_0 hccc_6
    obtain ⟨j, s3, hj, rfl, A3, C1, BI, HB⟩ := hrel
    cases gk with
    | zero =>
     obtain rfl : j = l0_6.length := by omega
     have hd : decide ((l0_6.length : Int) < (l0_6.length : Int)) = false := decide_eq_false (by omega)
     have e : s3 = r := by have h := A3.out; rw [List.drop_length] at h; exact Option.some.inj h
     subst e
     go_wp2_with (first | (go_at_call 45; (with_reducible refine (Go.Proofs.Ytcdibodjkdoknaa.Mk.str gb gb s3 _ BI.out C1.out).mono ?_); rintro e w6 ⟨rfl, hb⟩; replace HB := a_ (HB.out.trans (below_up hb GEb.out)); clear hb))
     go_ret
     exact ⟨rfl, bl_1 HB GEe⟩
    | succ m =>
     have hlt : j < l0_6.length := by omega
     have ex : (rd_T67 l0_6 (j : Int)) = l0_6[j] := by show l0_6.getD j z67 = _; rw [List.getD_eq_getElem?_getD, List.getElem?_eq_getElem hlt]; rfl
     have H1 := A3.out
     rw [List.drop_eq_getElem_cons hlt, ← ex] at H1
     obtain ⟨t, A40, H⟩ := Option.bind_eq_some_iff.mp H1
     obtain ⟨s4, A50, H⟩ := Option.bind_eq_some_iff.mp H
     have A4 := a_ A40
     have A5 := a_ A50
     have A6 := a_ H
     have C3 := a_ (txts_pos A5.out C1.out)
     have hd : decide ((j : Int) < (l0_6.length : Int)) = true := decide_eq_true (by omega)
     have hd2 : decide (0 ≤ (j : Int)) = true := decide_eq_true (by omega)
     have hwr : wrap64 ((j : Int) + 1) = (j : Int) + 1 := by have := CL.out; unfold wrap64; omega
     obtain ⟨ad, B4, c4, ea, hx0, hx1, hx2, hx3, hx4, hl4, hi4⟩ := at_T67 HR0_6.out (j : Int) (by omega) (by omega)
     cases ea
     replace hx0 := hc_ HB hx0
     replace hx1 := hc_ HB hx1
     replace hx2 := hc_ HB hx2
     replace hx3 := hc_ HB hx3
     replace hx4 := hc_ HB hx4
     simp only [Int.toNat_natCast] at hx0 hx1 hx2 hx3 hx4
     have HR4 := a_ hi4
     have HC4 := a_ hl4
     clear hi4 hl4 H1 A40 A50 H ex A3
     go_wp2_with (first | (go_at_call 43; (with_reducible refine (wal_Bytes.calls k _ _ _ _ _ _ _ t _ ?side1 ?side2 A4.out).mono ?_); (case side1 => exact Kd.C_below HR4.out (HB.out.alloc HB.out.size _)); (case side2 => exact HC4.out); rintro e w4 ⟨rfl, hb⟩; replace BI := a_ (Go.Proofs.Ytcdibodjkdoknaa.Mk.IsM.below (isM_alloc BI.out _) hb); replace HB := hB_ (HB.out.alloc HB.out.size _) hb; clear hb) | (go_at_call 42; (with_reducible refine (msg_bytes.txts_arm k gb s3 s4 [t] BI.out A5.out ?hos ?hn ?hl).mono ?_); (case hos => rfl); (case hn => rfl); (case hl => exact Nat.le_of_ble_eq_true rfl); rintro e w5 ⟨rfl, bi, hb, ho⟩; replace BI := a_ bi; replace HB := a_ (HB.out.trans (below_up hb GEb.out)); clear bi hb ho))
     go_roundg m
     case measure => omega
     case rel => exact ⟨j + 1, s4, by omega, fz_, A6, C3, BI, ⟨bl_1 HB GEe⟩⟩
 have H2 := H1.out
 rw [if_neg c3] at H2
 replace H1 := a_ H2
 clear H2
 have e3 : (a0_0 == 3) = false := beq_eq_false_iff_ne.mpr c3
 clear c3
 by_cases c4 : a0_0 = 4
 · have H2 := H1.out
   rw [if_pos c4] at H2
   replace H1 := a_ H2
   clear H2
   have e4 : (a0_0 == 4) = true := beq_iff_eq.mpr c4
   clear c4
   obtain ⟨g, A30, H⟩ := Option.bind_eq_some_iff.mp H1.out
   have A3 := a_ A30
   have A2 := a_ H
   have C1 := a_ (nums_pos A2.out C0.out)
   clear A30 H H1
   go_enter Try.func24, Try.ntmps24
   go_wp2_with (first | ((with_reducible refine gd_ 1 ?_); refine bx_ 1 #[.int .u8 a0_0, .int .u64 a0_1, .int .u64 a0_2, .int .u64 a0_3, .int .u64 a0_4, .bool a0_5, .slice A0_6 l0_6.length c0_6, .int .u64 a0_7, .int .u64 a0_8, .slice A0_9 l0_9.length c0_9, .string a0_10] 37 ?_; intro ge hg w_ hbox hb; have BKe := a_ hbox; have GEe := a_ (bs_0 hg HB); replace HB := hB_ (bl_ HB) hb; clear hb hbox hg) | ((with_reducible refine gd_ 7 ?_); refine bx_ 7 #[.pointer none, .slice none 0 0] 75 ?_; intro gb hg w_ hbox hb; have GEb := a_ (bs_1 hg HB GEe); have NBe_b := nB_ hg BKe; have NBb_e := nC_ hg BKe; have GLT := a_ (show ge < gb from by rw [hg]; exact blk_lt (bk_ BKe)); have BI := a_ (Go.Proofs.Ytcdibodjkdoknaa.Mk.IsM.fresh (Nat.le_refl gb) hbox); replace BKe := bB_ BKe hb; replace HB := hB_ (bl_1 HB GEe) hb; clear hb hbox hg; have hcca_0 := (blk_cell BKe.out 0).trans rfl; have hcca_1 := (blk_cell BKe.out 1).trans rfl; have hn1 := NBe_b.out; have hn2 := NBb_e.out) | (go_at_call 40; (with_reducible refine (msg_bytes.nums_arm k gb ⟨#[]⟩ s [IntKind.u64.wrap a0_0, a0_1] BI.out A1.out ?hos ?hn ?hl).mono ?_); (case hos => rfl); (case hn => rfl); (case hl => exact Nat.le_of_ble_eq_true rfl); rintro e w5 ⟨rfl, bi, hb⟩; replace BI := a_ bi; replace BKe := blk_up BKe hb GLT.out; replace HB := a_ (HB.out.trans (below_up hb GEb.out)); clear bi hb; have hccb_0 := (blk_cell BKe.out 0).trans rfl; have hccb_1 := (blk_cell BKe.out 1).trans rfl; have hccb_2 := (blk_cell BKe.out 2).trans rfl; have hccb_3 := (blk_cell BKe.out 3).trans rfl; have hccb_4 := (blk_cell BKe.out 4).trans rfl; have hccb_5 := (blk_cell BKe.out 5).trans rfl; have hccb_6 := (blk_cell BKe.out 6).trans rfl; have hccb_7 := (blk_cell BKe.out 7).trans rfl; have hccb_8 := (blk_cell BKe.out 8).trans rfl; have hccb_9 := (blk_cell BKe.out 9).trans rfl; have hccb_10 := (blk_cell BKe.out 10).trans rfl))
   replace BI := a_ (show Go.Proofs.Ytcdibodjkdoknaa.Mk.IsM w5.drew gb gb s from BI.out)
   replace BKe := a_ (show w5.drew.heap[ge]? = some (.cells #[.int .u8 a0_0, .int .u64 a0_1, .int .u64 a0_2, .int .u64 a0_3, .int .u64 a0_4, .bool a0_5, .slice A0_6 l0_6.length c0_6, .int .u64 a0_7, .int .u64 a0_8, .slice A0_9 l0_9.length c0_9, .string a0_10] 37 (0, 0)) from BKe.out)
   replace HB := a_ (show Below w.heap.size w w5.drew from HB.out.drew)
   go_region_with (first | (go_at_call 41; (with_reducible refine (msg_flag.calls a0_5 g _ A3.out).mono ?_); rintro e w4 ⟨rfl, hd⟩; have hb := hd.below; replace BI := a_ (Go.Proofs.Ytcdibodjkdoknaa.Mk.IsM.below BI.out hb); replace BKe := bB_ BKe hb; replace HB := hB_ (bl_1 HB GEe) hb; clear hb hd; have hccf_2 := (blk_cell BKe.out 2).trans rfl) | (go_at_call 40; (with_reducible refine (msg_bytes.nums_arm k gb s r [g, a0_2] BI.out A2.out ?hos ?hn ?hl).mono ?_); (case hos => rfl); (case hn => rfl); (case hl => exact Nat.le_of_ble_eq_true rfl); rintro e w5 ⟨rfl, bi, hb⟩; replace BI := a_ bi; replace BKe := blk_up BKe hb GLT.out; replace HB := a_ (HB.out.trans (below_up hb GEb.out)); clear bi hb; have hccc_0 := (blk_cell BKe.out 0).trans rfl))
   all_goals go_wp2_with (first | (go_at_call 45; (with_reducible refine (Go.Proofs.Ytcdibodjkdoknaa.Mk.str gb gb r _ BI.out C1.out).mono ?_); rintro e w6 ⟨rfl, hb⟩; replace HB := a_ (HB.out.trans (below_up hb GEb.out)); clear hb))
   all_goals go_ret
   all_goals exact ⟨rfl, bl_1 HB GEe⟩
 have H2 := H1.out
 rw [if_neg c4] at H2
 replace H1 := a_ H2
 clear H2
 have e4 : (a0_0 == 4) = false := beq_eq_false_iff_ne.mpr c4
 clear c4
 by_cases c5 : a0_0 = 5
 · have H2 := H1.out
   rw [if_pos c5] at H2
   replace H1 := a_ H2
   clear H2
   have e5 : (a0_0 == 5) = true := beq_iff_eq.mpr c5
   clear c5
   obtain ⟨t, A30, H⟩ := Option.bind_eq_some_iff.mp H1.out
   have A3 := a_ A30
   have A2 := a_ H
   have C1 := a_ (txts_pos A2.out C0.out)
   clear A30 H H1
   go_enter Try.func24, Try.ntmps24
   go_wp2_with (first | ((with_reducible refine gd_ 1 ?_); refine bx_ 1 #[.int .u8 a0_0, .int .u64 a0_1, .int .u64 a0_2, .int .u64 a0_3, .int .u64 a0_4, .bool a0_5, .slice A0_6 l0_6.length c0_6, .int .u64 a0_7, .int .u64 a0_8, .slice A0_9 l0_9.length c0_9, .string a0_10] 37 ?_; intro ge hg w_ hbox hb; have BKe := a_ hbox; have GEe := a_ (bs_0 hg HB); replace HB := hB_ (bl_ HB) hb; clear hb hbox hg) | ((with_reducible refine gd_ 7 ?_); refine bx_ 7 #[.pointer none, .slice none 0 0] 75 ?_; intro gb hg w_ hbox hb; have GEb := a_ (bs_1 hg HB GEe); have NBe_b := nB_ hg BKe; have NBb_e := nC_ hg BKe; have GLT := a_ (show ge < gb from by rw [hg]; exact blk_lt (bk_ BKe)); have BI := a_ (Go.Proofs.Ytcdibodjkdoknaa.Mk.IsM.fresh (Nat.le_refl gb) hbox); replace BKe := bB_ BKe hb; replace HB := hB_ (bl_1 HB GEe) hb; clear hb hbox hg; have hcca_0 := (blk_cell BKe.out 0).trans rfl; have hcca_1 := (blk_cell BKe.out 1).trans rfl; have hn1 := NBe_b.out; have hn2 := NBb_e.out) | (go_at_call 40; (with_reducible refine (msg_bytes.nums_arm k gb ⟨#[]⟩ s [IntKind.u64.wrap a0_0, a0_1] BI.out A1.out ?hos ?hn ?hl).mono ?_); (case hos => rfl); (case hn => rfl); (case hl => exact Nat.le_of_ble_eq_true rfl); rintro e w5 ⟨rfl, bi, hb⟩; replace BI := a_ bi; replace BKe := blk_up BKe hb GLT.out; replace HB := a_ (HB.out.trans (below_up hb GEb.out)); clear bi hb; have hccb_0 := (blk_cell BKe.out 0).trans rfl; have hccb_1 := (blk_cell BKe.out 1).trans rfl; have hccb_2 := (blk_cell BKe.out 2).trans rfl; have hccb_3 := (blk_cell BKe.out 3).trans rfl; have hccb_4 := (blk_cell BKe.out 4).trans rfl; have hccb_5 := (blk_cell BKe.out 5).trans rfl; have hccb_6 := (blk_cell BKe.out 6).trans rfl; have hccb_7 := (blk_cell BKe.out 7).trans rfl; have hccb_8 := (blk_cell BKe.out 8).trans rfl; have hccb_9 := (blk_cell BKe.out 9).trans rfl; have hccb_10 := (blk_cell BKe.out 10).trans rfl) | (go_at_call 44; (with_reducible refine (snap_Bytes.calls k a0_7 a0_8 _ _ l0_9 a0_10 t _ ?side1 ?side2 A3.out).mono ?_); (case side1 => exact cl_ (Kd.C_below HR0_9.out HB.out)); (case side2 => exact HC0_9.out); rintro e w4 ⟨rfl, hb⟩; replace BI := a_ (Go.Proofs.Ytcdibodjkdoknaa.Mk.IsM.below BI.out hb); replace BKe := bB_ BKe hb; replace HB := hB_ (bl_1 HB GEe) hb; clear hb) | (go_at_call 42; (with_reducible refine (msg_bytes.txts_arm k gb s r [t] BI.out A2.out ?hos ?hn ?hl).mono ?_); (case hos => rfl); (case hn => rfl); (case hl => exact Nat.le_of_ble_eq_true rfl); rintro e w5 ⟨rfl, bi, hb, ho⟩; replace BI := a_ bi; replace BKe := blk_up BKe hb GLT.out; replace HB := a_ (HB.out.trans (below_up hb GEb.out)); clear bi hb ho) | (go_at_call 45; (with_reducible refine (Go.Proofs.Ytcdibodjkdoknaa.Mk.str gb gb r _ BI.out C1.out).mono ?_); rintro e w6 ⟨rfl, hb⟩; replace HB := a_ (HB.out.trans (below_up hb GEb.out)); clear hb))
   go_ret
   exact ⟨rfl, bl_1 HB GEe⟩
 have H2 := H1.out
 rw [if_neg c5] at H2
 replace H1 := a_ H2
 clear H2
 have e5 : (a0_0 == 5) = false := beq_eq_false_iff_ne.mpr c5
 clear c5
 have e6 := Option.some.inj H1.out
 subst e6
 clear H1
 have C1 := C0
 go_enter Try.func24, Try.ntmps24
 go_wp2_with (first | ((with_reducible refine gd_ 1 ?_); refine bx_ 1 #[.int .u8 a0_0, .int .u64 a0_1, .int .u64 a0_2, .int .u64 a0_3, .int .u64 a0_4, .bool a0_5, .slice A0_6 l0_6.length c0_6, .int .u64 a0_7, .int .u64 a0_8, .slice A0_9 l0_9.length c0_9, .string a0_10] 37 ?_; intro ge hg w_ hbox hb; have BKe := a_ hbox; have GEe := a_ (bs_0 hg HB); replace HB := hB_ (bl_ HB) hb; clear hb hbox hg) | ((with_reducible refine gd_ 7 ?_); refine bx_ 7 #[.pointer none, .slice none 0 0] 75 ?_; intro gb hg w_ hbox hb; have GEb := a_ (bs_1 hg HB GEe); have NBe_b := nB_ hg BKe; have NBb_e := nC_ hg BKe; have GLT := a_ (show ge < gb from by rw [hg]; exact blk_lt (bk_ BKe)); have BI := a_ (Go.Proofs.Ytcdibodjkdoknaa.Mk.IsM.fresh (Nat.le_refl gb) hbox); replace BKe := bB_ BKe hb; replace HB := hB_ (bl_1 HB GEe) hb; clear hb hbox hg; have hcca_0 := (blk_cell BKe.out 0).trans rfl; have hcca_1 := (blk_cell BKe.out 1).trans rfl; have hn1 := NBe_b.out; have hn2 := NBb_e.out) | (go_at_call 40; (with_reducible refine (msg_bytes.nums_arm k gb ⟨#[]⟩ s [IntKind.u64.wrap a0_0, a0_1] BI.out A1.out ?hos ?hn ?hl).mono ?_); (case hos => rfl); (case hn => rfl); (case hl => exact Nat.le_of_ble_eq_true rfl); rintro e w5 ⟨rfl, bi, hb⟩; replace BI := a_ bi; replace BKe := blk_up BKe hb GLT.out; replace HB := a_ (HB.out.trans (below_up hb GEb.out)); clear bi hb; have hccb_0 := (blk_cell BKe.out 0).trans rfl; have hccb_1 := (blk_cell BKe.out 1).trans rfl; have hccb_2 := (blk_cell BKe.out 2).trans rfl; have hccb_3 := (blk_cell BKe.out 3).trans rfl; have hccb_4 := (blk_cell BKe.out 4).trans rfl; have hccb_5 := (blk_cell BKe.out 5).trans rfl; have hccb_6 := (blk_cell BKe.out 6).trans rfl; have hccb_7 := (blk_cell BKe.out 7).trans rfl; have hccb_8 := (blk_cell BKe.out 8).trans rfl; have hccb_9 := (blk_cell BKe.out 9).trans rfl; have hccb_10 := (blk_cell BKe.out 10).trans rfl) | (go_at_call 45; (with_reducible refine (Go.Proofs.Ytcdibodjkdoknaa.Mk.str gb gb s _ BI.out C1.out).mono ?_); rintro e w6 ⟨rfl, hb⟩; replace HB := a_ (HB.out.trans (below_up hb GEb.out)); clear hb))
 go_ret
 exact ⟨rfl, bl_1 HB GEe⟩

/-! ### msg_Encode: function 13 -/
def msg_Encode.f (k : Nat) (a0_0 : Int) (a0_1 : Int) (a0_2 : Int) (a0_3 : Int) (a0_4 : Int) (a0_5 : Bool) (l0_6 : List (S67)) (a0_7 : Int) (a0_8 : Int) (l0_9 : List Int) (a0_10 : ByteArray) : Option (ByteArray × Int) := (msg_Check.f k a0_0 a0_1 a0_2 a0_3 a0_4 a0_5 l0_6 a0_7 a0_8 l0_9 a0_10).bind fun t136 => (if t136 = 0 then ((msg_bytes.f k a0_0 a0_1 a0_2 a0_3 a0_4 a0_5 l0_6 a0_7 a0_8 l0_9 a0_10).bind fun t137 => ((pack_Frame.f k t137).bind fun bt138 => (some (bt138.1, bt138.2)))) else (some ((⟨#[]⟩ : ByteArray), t136)))
theorem msg_Encode.mono : ∀ a0 a1 a2 a3 a4 a5 a6 a7 a8 a9 a10 k, LeO (msg_Encode.f k a0 a1 a2 a3 a4 a5 a6 a7 a8 a9 a10) (msg_Encode.f (k + 1) a0 a1 a2 a3 a4 a5 a6 a7 a8 a9 a10) := by
 intro a0 a1 a2 a3 a4 a5 a6 a7 a8 a9 a10 k
 unfold msg_Encode.f
 repeat' with_reducible first | exact msg_Check.mono _ _ _ _ _ _ _ _ _ _ _ _ | exact msg_bytes.mono _ _ _ _ _ _ _ _ _ _ _ _ | exact pack_Frame.mono _ _ | exact LeO.refl _ | exact LeO.none _ | refine LeO.ite ?_ ?_ | refine LeO.bind ?_ (fun _ => ?_)
theorem msg_Encode.calls (k : Nat) (a0_0 : Int) (a0_1 : Int) (a0_2 : Int) (a0_3 : Int) (a0_4 : Int) (a0_5 : Bool) (A0_6 : Option Addr) (c0_6 : Nat) (l0_6 : List (S67)) (a0_7 : Int) (a0_8 : Int) (A0_9 : Option Addr) (c0_9 : Nat) (l0_9 : List Int) (a0_10 : ByteArray) (r1 : ByteArray) (r2 : Int) (w : World) (hr0_6 : Kd.C k67 w A0_6 l0_6.length l0_6) (hc0_6 : l0_6.length ≤ c0_6) (hr0_9 : Kd.C (Kd.int .i64) w A0_9 l0_9.length l0_9) (hc0_9 : l0_9.length ≤ c0_9) (h : msg_Encode.f k a0_0 a0_1 a0_2 a0_3 a0_4 a0_5 l0_6 a0_7 a0_8 l0_9 a0_10 = some (r1, r2)) :
  Calls Try.prog 13 #[.agg #[.int .u8 a0_0, .int .u64 a0_1, .int .u64 a0_2, .int .u64 a0_3, .int .u64 a0_4, .bool a0_5, .slice A0_6 l0_6.length c0_6, .int .u64 a0_7, .int .u64 a0_8, .slice A0_9 l0_9.length c0_9, .string a0_10]] w fun e w' => e = .returned (.tuple #[.string r1, .int .i64 r2]) ∧ Below w.heap.size w w' := by
 have hu37 := Try.underlying37
 have HR0_6 := a_ hr0_6
 have HC0_6 := a_ hc0_6
 clear hr0_6 hc0_6
 have HR0_9 := a_ hr0_9
 have HC0_9 := a_ hc0_9
 clear hr0_9 hc0_9
 have HB := a_ (Below.refl w.heap.size w)
 have H : ((msg_Check.f k a0_0 a0_1 a0_2 a0_3 a0_4 a0_5 l0_6 a0_7 a0_8 l0_9 a0_10).bind fun t136 => (if t136 = 0 then ((msg_bytes.f k a0_0 a0_1 a0_2 a0_3 a0_4 a0_5 l0_6 a0_7 a0_8 l0_9 a0_10).bind fun t137 => ((pack_Frame.f k t137).bind fun bt138 => (some (bt138.1, bt138.2)))) else (some ((⟨#[]⟩ : ByteArray), t136)))) = some (r1, r2) := h
 clear h
 obtain ⟨t136, A20, H⟩ := Option.bind_eq_some_iff.mp H
 try dsimp only at H
 have A2 := a_ A20
 clear A20
 by_cases c3 : t136 = 0
 rotate_left
 ·rw [if_neg c3] at H
  have c3b0 : (t136 == 0) = false := beq_eq_false_iff_ne.mpr c3
  have c3b1 : (t136 != 0) = true := bne_iff_ne.mpr c3
  simp only [Option.some.injEq, Prod.mk.injEq] at H
  obtain ⟨rfl, rfl⟩ := H
  go_enter Try.func13, Try.ntmps13
  go_wp2_with (first | ((with_reducible refine gd_ 1 ?_); refine bx_ 1 #[.int .u8 a0_0, .int .u64 a0_1, .int .u64 a0_2, .int .u64 a0_3, .int .u64 a0_4, .bool a0_5, .slice A0_6 l0_6.length c0_6, .int .u64 a0_7, .int .u64 a0_8, .slice A0_9 l0_9.length c0_9, .string a0_10] 37 ?_; intro gb135 hg w12 hbox hb; have BK135 := a_ (hbox); have GE135 := a_ (bs_0 hg HB); replace HB := hB_ (bl_ HB) hb; clear hb hbox hg; have hcz13_0 : w12.cell? ⟨gb135, 0, none⟩ = some (.int .u8 a0_0) := (blk_cell BK135.out 0).trans rfl; have hcz13_1 : w12.cell? ⟨gb135, 1, none⟩ = some (.int .u64 a0_1) := (blk_cell BK135.out 1).trans rfl; have hcz13_2 : w12.cell? ⟨gb135, 2, none⟩ = some (.int .u64 a0_2) := (blk_cell BK135.out 2).trans rfl; have hcz13_3 : w12.cell? ⟨gb135, 3, none⟩ = some (.int .u64 a0_3) := (blk_cell BK135.out 3).trans rfl; have hcz13_4 : w12.cell? ⟨gb135, 4, none⟩ = some (.int .u64 a0_4) := (blk_cell BK135.out 4).trans rfl; have hcz13_5 : w12.cell? ⟨gb135, 5, none⟩ = some (.bool a0_5) := (blk_cell BK135.out 5).trans rfl; have hcz13_6 : w12.cell? ⟨gb135, 6, none⟩ = some (.slice A0_6 l0_6.length c0_6) := (blk_cell BK135.out 6).trans rfl; have hcz13_7 : w12.cell? ⟨gb135, 7, none⟩ = some (.int .u64 a0_7) := (blk_cell BK135.out 7).trans rfl; have hcz13_8 : w12.cell? ⟨gb135, 8, none⟩ = some (.int .u64 a0_8) := (blk_cell BK135.out 8).trans rfl; have hcz13_9 : w12.cell? ⟨gb135, 9, none⟩ = some (.slice A0_9 l0_9.length c0_9) := (blk_cell BK135.out 9).trans rfl; have hcz13_10 : w12.cell? ⟨gb135, 10, none⟩ = some (.string a0_10) := (blk_cell BK135.out 10).trans rfl; have hfz13_0 := blk_frozen BK135.out 0; have hfz13_1 := blk_frozen BK135.out 1; have hfz13_2 := blk_frozen BK135.out 2; have hfz13_3 := blk_frozen BK135.out 3; have hfz13_4 := blk_frozen BK135.out 4; have hfz13_5 := blk_frozen BK135.out 5; have hfz13_6 := blk_frozen BK135.out 6; have hfz13_7 := blk_frozen BK135.out 7; have hfz13_8 := blk_frozen BK135.out 8; have hfz13_9 := blk_frozen BK135.out 9; have hfz13_10 := blk_frozen BK135.out 10) | ((with_reducible refine gk_ 19 ?_); refine gl_ (some 6) Try.func19 #[.agg #[.int .u8 a0_0, .int .u64 a0_1, .int .u64 a0_2, .int .u64 a0_3, .int .u64 a0_4, .bool a0_5, .slice A0_6 l0_6.length c0_6, .int .u64 a0_7, .int .u64 a0_8, .slice A0_9 l0_9.length c0_9, .string a0_10]] ?_; (with_reducible refine (msg_Check.calls k a0_0 a0_1 a0_2 a0_3 a0_4 a0_5 _ _ l0_6 a0_7 a0_8 _ _ l0_9 a0_10 t136 _ ?side1 ?side2 ?side3 ?side4 A2.out).mono ?_); (case side1 => exact cl_ (Kd.C_below HR0_6.out HB.out)); (case side2 => exact HC0_6.out); (case side3 => exact cl_ (Kd.C_below HR0_9.out HB.out)); (case side4 => exact HC0_9.out); rintro e w14 ⟨rfl, hb⟩; refine ⟨_, rfl, ?_⟩; replace BK135 := bB_ BK135 hb; replace HB := hB_ (bl_1 HB GE135) hb; (try clear hb)))
  go_ret2
  exact ⟨fz_, bl_1 HB GE135⟩


 rw [if_pos c3] at H
 have c3b0 : (t136 == 0) = true := beq_iff_eq.mpr c3
 have c3b1 : (t136 != 0) = false := bne_eq_false_iff_eq.mpr c3
 clear c3
 obtain ⟨t137, A40, H⟩ := Option.bind_eq_some_iff.mp H
 try dsimp only at H
 have A4 := a_ A40
 clear A40
 obtain ⟨⟨t138, t139⟩, A50, H⟩ := Option.bind_eq_some_iff.mp H
 try dsimp only at H
 have A5 := a_ A50
 clear A50
 simp only [Option.some.injEq, Prod.mk.injEq] at H
 obtain ⟨rfl, rfl⟩ := H
 go_enter Try.func13, Try.ntmps13
 go_wp2_with (first | ((with_reducible refine gd_ 1 ?_); refine bx_ 1 #[.int .u8 a0_0, .int .u64 a0_1, .int .u64 a0_2, .int .u64 a0_3, .int .u64 a0_4, .bool a0_5, .slice A0_6 l0_6.length c0_6, .int .u64 a0_7, .int .u64 a0_8, .slice A0_9 l0_9.length c0_9, .string a0_10] 37 ?_; intro gb135 hg w6 hbox hb; have BK135 := a_ (hbox); have GE135 := a_ (bs_0 hg HB); replace HB := hB_ (bl_ HB) hb; clear hb hbox hg; have hcz7_0 : w6.cell? ⟨gb135, 0, none⟩ = some (.int .u8 a0_0) := (blk_cell BK135.out 0).trans rfl; have hcz7_1 : w6.cell? ⟨gb135, 1, none⟩ = some (.int .u64 a0_1) := (blk_cell BK135.out 1).trans rfl; have hcz7_2 : w6.cell? ⟨gb135, 2, none⟩ = some (.int .u64 a0_2) := (blk_cell BK135.out 2).trans rfl; have hcz7_3 : w6.cell? ⟨gb135, 3, none⟩ = some (.int .u64 a0_3) := (blk_cell BK135.out 3).trans rfl; have hcz7_4 : w6.cell? ⟨gb135, 4, none⟩ = some (.int .u64 a0_4) := (blk_cell BK135.out 4).trans rfl; have hcz7_5 : w6.cell? ⟨gb135, 5, none⟩ = some (.bool a0_5) := (blk_cell BK135.out 5).trans rfl; have hcz7_6 : w6.cell? ⟨gb135, 6, none⟩ = some (.slice A0_6 l0_6.length c0_6) := (blk_cell BK135.out 6).trans rfl; have hcz7_7 : w6.cell? ⟨gb135, 7, none⟩ = some (.int .u64 a0_7) := (blk_cell BK135.out 7).trans rfl; have hcz7_8 : w6.cell? ⟨gb135, 8, none⟩ = some (.int .u64 a0_8) := (blk_cell BK135.out 8).trans rfl; have hcz7_9 : w6.cell? ⟨gb135, 9, none⟩ = some (.slice A0_9 l0_9.length c0_9) := (blk_cell BK135.out 9).trans rfl; have hcz7_10 : w6.cell? ⟨gb135, 10, none⟩ = some (.string a0_10) := (blk_cell BK135.out 10).trans rfl; have hfz7_0 := blk_frozen BK135.out 0; have hfz7_1 := blk_frozen BK135.out 1; have hfz7_2 := blk_frozen BK135.out 2; have hfz7_3 := blk_frozen BK135.out 3; have hfz7_4 := blk_frozen BK135.out 4; have hfz7_5 := blk_frozen BK135.out 5; have hfz7_6 := blk_frozen BK135.out 6; have hfz7_7 := blk_frozen BK135.out 7; have hfz7_8 := blk_frozen BK135.out 8; have hfz7_9 := blk_frozen BK135.out 9; have hfz7_10 := blk_frozen BK135.out 10) | ((with_reducible refine gk_ 19 ?_); refine gl_ (some 6) Try.func19 #[.agg #[.int .u8 a0_0, .int .u64 a0_1, .int .u64 a0_2, .int .u64 a0_3, .int .u64 a0_4, .bool a0_5, .slice A0_6 l0_6.length c0_6, .int .u64 a0_7, .int .u64 a0_8, .slice A0_9 l0_9.length c0_9, .string a0_10]] ?_; (with_reducible refine (msg_Check.calls k a0_0 a0_1 a0_2 a0_3 a0_4 a0_5 _ _ l0_6 a0_7 a0_8 _ _ l0_9 a0_10 t136 _ ?side1 ?side2 ?side3 ?side4 A2.out).mono ?_); (case side1 => exact cl_ (Kd.C_below HR0_6.out HB.out)); (case side2 => exact HC0_6.out); (case side3 => exact cl_ (Kd.C_below HR0_9.out HB.out)); (case side4 => exact HC0_9.out); rintro e w8 ⟨rfl, hb⟩; refine ⟨_, rfl, ?_⟩; replace BK135 := bB_ BK135 hb; replace HB := hB_ (bl_1 HB GE135) hb; (try clear hb); have hcz9_0 : w8.cell? ⟨gb135, 0, none⟩ = some (.int .u8 a0_0) := (blk_cell BK135.out 0).trans rfl; have hcz9_1 : w8.cell? ⟨gb135, 1, none⟩ = some (.int .u64 a0_1) := (blk_cell BK135.out 1).trans rfl; have hcz9_2 : w8.cell? ⟨gb135, 2, none⟩ = some (.int .u64 a0_2) := (blk_cell BK135.out 2).trans rfl; have hcz9_3 : w8.cell? ⟨gb135, 3, none⟩ = some (.int .u64 a0_3) := (blk_cell BK135.out 3).trans rfl; have hcz9_4 : w8.cell? ⟨gb135, 4, none⟩ = some (.int .u64 a0_4) := (blk_cell BK135.out 4).trans rfl; have hcz9_5 : w8.cell? ⟨gb135, 5, none⟩ = some (.bool a0_5) := (blk_cell BK135.out 5).trans rfl; have hcz9_6 : w8.cell? ⟨gb135, 6, none⟩ = some (.slice A0_6 l0_6.length c0_6) := (blk_cell BK135.out 6).trans rfl; have hcz9_7 : w8.cell? ⟨gb135, 7, none⟩ = some (.int .u64 a0_7) := (blk_cell BK135.out 7).trans rfl; have hcz9_8 : w8.cell? ⟨gb135, 8, none⟩ = some (.int .u64 a0_8) := (blk_cell BK135.out 8).trans rfl; have hcz9_9 : w8.cell? ⟨gb135, 9, none⟩ = some (.slice A0_9 l0_9.length c0_9) := (blk_cell BK135.out 9).trans rfl; have hcz9_10 : w8.cell? ⟨gb135, 10, none⟩ = some (.string a0_10) := (blk_cell BK135.out 10).trans rfl; have hfz9_0 := blk_frozen BK135.out 0; have hfz9_1 := blk_frozen BK135.out 1; have hfz9_2 := blk_frozen BK135.out 2; have hfz9_3 := blk_frozen BK135.out 3; have hfz9_4 := blk_frozen BK135.out 4; have hfz9_5 := blk_frozen BK135.out 5; have hfz9_6 := blk_frozen BK135.out 6; have hfz9_7 := blk_frozen BK135.out 7; have hfz9_8 := blk_frozen BK135.out 8; have hfz9_9 := blk_frozen BK135.out 9; have hfz9_10 := blk_frozen BK135.out 10) | ((with_reducible refine gk_ 24 ?_); refine gl_ (some 11) Try.func24 #[.agg #[.int .u8 a0_0, .int .u64 a0_1, .int .u64 a0_2, .int .u64 a0_3, .int .u64 a0_4, .bool a0_5, .slice A0_6 l0_6.length c0_6, .int .u64 a0_7, .int .u64 a0_8, .slice A0_9 l0_9.length c0_9, .string a0_10]] ?_; (with_reducible refine (msg_bytes.calls k a0_0 a0_1 a0_2 a0_3 a0_4 a0_5 _ _ l0_6 a0_7 a0_8 _ _ l0_9 a0_10 t137 _ ?side1 ?side2 ?side3 ?side4 A4.out).mono ?_); (case side1 => exact cl_ (Kd.C_below HR0_6.out HB.out)); (case side2 => exact HC0_6.out); (case side3 => exact cl_ (Kd.C_below HR0_9.out HB.out)); (case side4 => exact HC0_9.out); rintro e w10 ⟨rfl, hb⟩; refine ⟨_, rfl, ?_⟩; replace BK135 := bB_ BK135 hb; replace HB := hB_ (bl_1 HB GE135) hb; (try clear hb)) | ((with_reducible refine gk_ 11 ?_); refine gl_ (some 12) Try.func11 #[.string t137] ?_; (with_reducible refine (pack_Frame.calls k t137 t138 t139 _ A5.out).mono ?_); rintro e w11 ⟨rfl, hb⟩; refine ⟨_, rfl, ?_⟩; replace BK135 := bB_ BK135 hb; replace HB := hB_ (bl_1 HB GE135) hb; (try clear hb)))
 go_ret2
 exact ⟨fz_, bl_1 HB GE135⟩
/-! ### pack_value: function 23 -/
def pack_value.l0 : Nat → ByteArray → Int → Int → Int → Option (Int)
 | 0, _, _, _, _ => none
 | k + 1, x0, x3, x6, x7 => if x7 < x6 then (if 0 ≤ x7 then (if x7 < (x0.size : Int) then (pack_value.l0 k x0 (Go.bits .or .u64 (IntKind.u64.wrap (x3 * 256)) (IntKind.u64.wrap (bt x0 x7))) x6 (wrap64 (x7 + 1))) else (none)) else (none)) else (some x3)
def pack_value.f (k : Nat) (a0 : ByteArray) : Option (Int) := pack_value.l0 k a0 0 (a0.size : Int) 0
theorem pack_value.mono_l : ∀ k, (∀ y0 y1 y2 y3, LeO (pack_value.l0 k y0 y1 y2 y3) (pack_value.l0 (k + 1) y0 y1 y2 y3))
 | 0 => fun _ _ _ _ r h => by simp [pack_value.l0] at h
 | k + 1 => by
  have ih0 := pack_value.mono_l k
  ·intro y0 y1 y2 y3
   unfold pack_value.l0
   repeat' with_reducible first | exact ih0 _ _ _ _ | exact LeO.refl _ | exact LeO.none _ | refine LeO.ite ?_ ?_ | refine LeO.bind ?_ (fun _ => ?_)
theorem pack_value.mono : ∀ a0 k, LeO (pack_value.f k a0) (pack_value.f (k + 1) a0) := by
 intro a0 k
 have ih0 := pack_value.mono_l k
 unfold pack_value.f
 repeat' with_reducible first | exact ih0 _ _ _ _ | exact LeO.refl _ | exact LeO.none _ | refine LeO.ite ?_ ?_ | refine LeO.bind ?_ (fun _ => ?_)
theorem pack_value.calls (k : Nat) (a0 : ByteArray) (r : Int) (w : World) (h : pack_value.f k a0 = some r) :
  Calls Try.prog 23 #[.string a0] w fun e w' => e = .returned (.int .u64 r) ∧ Drawn0 w w' := by
 have H : (pack_value.l0 k a0 0 (a0.size : Int) 0) = some r := h
 clear h
 have H' := a_ H
 clear H
 go_enter Try.func23, Try.ntmps23
 go_wp2
 go_loopg [3, 7] k (fun kq v3 v7 w' => ∃ (x3_1 : Int) (x7_1 : Int), v3 = .int .u64 x3_1 ∧ v7 = .int .i64 x7_1 ∧ Aside0 (pack_value.l0 kq a0 x3_1 (a0.size : Int) x7_1 = some r) ∧ Aside0 (kq ≤ k) ∧ Drawn0 w w')
 case atStart => exact ⟨(0), (0), fz_, fz_, H', ⟨Nat.le_refl _⟩, dr_⟩
 case round =>
  clear H'
  obtain ⟨x3_1, x7_1, rfl, rfl, HA, HK1, ⟨m1, rfl⟩⟩ := hrel
  cases gk with
  | zero => exact absurd HA.out (by simp [pack_value.l0])
  | succ k1 =>
   have H := HA.out
   clear HA
   simp only [pack_value.l0] at H
   by_cases c2 : x7_1 < (a0.size : Int)
   rotate_left
   ·rw [if_neg c2] at H
    have c2b0 : decide (x7_1 < (a0.size : Int)) = false := decide_eq_false c2
    clear c2
    obtain rfl := Option.some.inj H
    go_wp2
    go_ret
    exact ⟨fz_, dr_⟩


   rw [if_pos c2] at H
   have c2b0 : decide (x7_1 < (a0.size : Int)) = true := decide_eq_true c2
   clear c2
   by_cases c3 : 0 ≤ x7_1
   rotate_left
   ·rw [if_neg c3] at H
    exact absurd H (by simp)
   rw [if_pos c3] at H
   have c3b0 : decide (0 ≤ x7_1) = true := decide_eq_true c3
   clear c3
   by_cases c4 : x7_1 < (a0.size : Int)
   rotate_left
   ·rw [if_neg c4] at H
    exact absurd H (by simp)
   rw [if_pos c4] at H
   have c4b0 : decide (x7_1 < (a0.size : Int)) = true := decide_eq_true c4
   clear c4
   have H' := a_ H
   clear H
   have p5 : 0 ≤ (x7_1 : Int) := od_
   have q5 : x7_1 < (a0.size : Int) := od_
   have hx5 := bt_at a0 x7_1
   replace p5 := eq_true p5
   replace q5 := eq_true q5
   go_wp2
   go_roundg k1
   case measure => have := HK1.out; omega
   case rel => exact ⟨(Go.bits .or .u64 (IntKind.u64.wrap (x3_1 * 256)) (IntKind.u64.wrap (bt a0 x7_1))), (wrap64 (x7_1 + 1)), fz_, fz_, H', ⟨by have := HK1.out; omega⟩, dr_⟩
/-! ### pack_TakeFrame: function 12 -/
def pack_TakeFrame.j0 : Nat → ByteArray → Int → Bool → Option (ByteArray × ByteArray × Int)
 | 0, _, _, _ => none
 | k + 1, x0, x5, x18 => if x18 = true then (some ((⟨#[]⟩ : ByteArray), (⟨#[]⟩ : ByteArray), 3)) else (if 6 ≤ (wrap64 (6 + (wrap64 (x5)))) then (if (wrap64 (6 + (wrap64 (x5)))) ≤ (x0.size : Int) then ((pack_Frame.f k (x0.extract 6 ((wrap64 (6 + (wrap64 (x5)))) : Int).toNat)).bind fun bt141 => (if 0 ≤ (wrap64 (6 + (wrap64 (x5)))) then (if bt141.1.toList = (x0.extract 0 ((wrap64 (6 + (wrap64 (x5)))) : Int).toNat).toList then (some (x0.extract 6 ((wrap64 (6 + (wrap64 (x5)))) : Int).toNat, x0.extract ((wrap64 (6 + (wrap64 (x5)))) : Int).toNat x0.size, 0)) else (some ((⟨#[]⟩ : ByteArray), (⟨#[]⟩ : ByteArray), 4))) else (none))) else (none)) else (none))
def pack_TakeFrame.f (k : Nat) (a0 : ByteArray) : Option (ByteArray × ByteArray × Int) := if (a0.size : Int) < 4 then (some ((⟨#[]⟩ : ByteArray), (⟨#[]⟩ : ByteArray), 3)) else (if 0 ≤ 4 then (if 4 ≤ (a0.size : Int) then ((pack_value.f k (a0.extract 0 4)).bind fun t140 => (if t140 > 65536 then (some ((⟨#[]⟩ : ByteArray), (⟨#[]⟩ : ByteArray), 2)) else (if (a0.size : Int) < 6 then (pack_TakeFrame.j0 k a0 t140 true) else (pack_TakeFrame.j0 k a0 t140 (decide (t140 > (IntKind.u64.wrap (wrap64 ((a0.size : Int) - 6))))))))) else (none)) else (none))
theorem pack_TakeFrame.mono_l : ∀ k, (∀ y0 y1 y2, LeO (pack_TakeFrame.j0 k y0 y1 y2) (pack_TakeFrame.j0 (k + 1) y0 y1 y2))
 | 0 => fun _ _ _ r h => by simp [pack_TakeFrame.j0] at h
 | k + 1 => by
  have ih0 := pack_TakeFrame.mono_l k
  ·intro y0 y1 y2
   unfold pack_TakeFrame.j0
   repeat' with_reducible first | exact ih0 _ _ _ | exact pack_Frame.mono _ _ | exact pack_value.mono _ _ | exact LeO.refl _ | exact LeO.none _ | refine LeO.ite ?_ ?_ | refine LeO.bind ?_ (fun _ => ?_)
theorem pack_TakeFrame.mono : ∀ a0 k, LeO (pack_TakeFrame.f k a0) (pack_TakeFrame.f (k + 1) a0) := by
 intro a0 k
 have ih0 := pack_TakeFrame.mono_l k
 unfold pack_TakeFrame.f
 repeat' with_reducible first | exact ih0 _ _ _ | exact pack_Frame.mono _ _ | exact pack_value.mono _ _ | exact LeO.refl _ | exact LeO.none _ | refine LeO.ite ?_ ?_ | refine LeO.bind ?_ (fun _ => ?_)
theorem pack_TakeFrame.calls (k : Nat) (a0 : ByteArray) (r1 : ByteArray) (r2 : ByteArray) (r3 : Int) (w : World) (h : pack_TakeFrame.f k a0 = some (r1, r2, r3)) :
  Calls Try.prog 12 #[.string a0] w fun e w' => e = .returned (.tuple #[.string r1, .string r2, .int .i64 r3]) ∧ Below w.heap.size w w' := by
 have HB := a_ (Below.refl w.heap.size w)
 have H : (if (a0.size : Int) < 4 then (some ((⟨#[]⟩ : ByteArray), (⟨#[]⟩ : ByteArray), 3)) else (if 0 ≤ 4 then (if 4 ≤ (a0.size : Int) then ((pack_value.f k (a0.extract 0 4)).bind fun t140 => (if t140 > 65536 then (some ((⟨#[]⟩ : ByteArray), (⟨#[]⟩ : ByteArray), 2)) else (if (a0.size : Int) < 6 then (pack_TakeFrame.j0 k a0 t140 true) else (pack_TakeFrame.j0 k a0 t140 (decide (t140 > (IntKind.u64.wrap (wrap64 ((a0.size : Int) - 6))))))))) else (none)) else (none))) = some (r1, r2, r3) := h
 clear h
 by_cases c2 : (a0.size : Int) < 4
 ·rw [if_pos c2] at H
  have c2b0 : decide ((a0.size : Int) < 4) = true := decide_eq_true c2
  have c2b1 : decide (a0.size < 4) = true := decide_eq_true (by omega)
  clear c2
  simp only [Option.some.injEq, Prod.mk.injEq] at H
  obtain ⟨rfl, rfl, rfl⟩ := H
  go_enter Try.func12, Try.ntmps12
  go_wp2
  repeat (go_quiet (fail); try go_wp2)
  go_ret3
  exact ⟨fz_, bl_ HB⟩
 rw [if_neg c2] at H
 have c2b0 : decide ((a0.size : Int) < 4) = false := decide_eq_false c2
 have c2b1 : decide (a0.size < 4) = false := decide_eq_false (by omega)
 clear c2
 by_cases c3 : 0 ≤ 4
 rotate_left
 ·rw [if_neg c3] at H
  exact absurd H (by simp)

 rw [if_pos c3] at H
 have c3b0 := eq_true c3
 have c3b1 : decide (0 ≤ 4) = true := decide_eq_true c3
 clear c3
 by_cases c4 : 4 ≤ (a0.size : Int)
 rotate_left
 ·rw [if_neg c4] at H
  exact absurd H (by simp)
 rw [if_pos c4] at H
 have c4b0 := eq_true c4
 have c4b1 : decide (4 ≤ (a0.size : Int)) = true := decide_eq_true c4
 clear c4
 obtain ⟨t140, A50, H⟩ := Option.bind_eq_some_iff.mp H
 try dsimp only at H
 have A5 := a_ A50
 clear A50
 by_cases c6 : t140 > 65536
 ·rw [if_pos c6] at H
  have c6b0 : decide (65536 < t140) = true := decide_eq_true c6
  clear c6
  simp only [Option.some.injEq, Prod.mk.injEq] at H
  obtain ⟨rfl, rfl, rfl⟩ := H
  go_enter Try.func12, Try.ntmps12
  go_wp2_with (first | (first | (go_at_call 23; (with_reducible refine (pack_value.calls k (a0.extract 0 4) t140 _ A5.out).mono ?_); rintro e w' ⟨rfl, ⟨nd, rfl⟩⟩; (try first | exact ⟨rfl, _, World.drewN_drewN _ _ _⟩ | exact ⟨rfl, _, Eq.trans (World.drewN_drewN _ _ _) (congrArg (World.drewN _) (Nat.add_assoc _ _ _))⟩))) | go_quiet (first | (go_at_call 23; (with_reducible refine (pack_value.calls k (a0.extract 0 4) t140 _ A5.out).mono ?_); rintro e w' ⟨rfl, ⟨nd, rfl⟩⟩; (try first | exact ⟨rfl, _, World.drewN_drewN _ _ _⟩ | exact ⟨rfl, _, Eq.trans (World.drewN_drewN _ _ _) (congrArg (World.drewN _) (Nat.add_assoc _ _ _))⟩))))
  go_ret3
  exact ⟨fz_, bl_ HB⟩
 rw [if_neg c6] at H
 have c6b0 : decide (65536 < t140) = false := decide_eq_false c6
 clear c6
 have HC7 := a_ H
 clear H
 go_enter Try.func12, Try.ntmps12
 go_upto_region 6 with (first | (go_at_call 23; (with_reducible refine (pack_value.calls k (a0.extract 0 4) t140 _ A5.out).mono ?_); rintro e w' ⟨rfl, ⟨nd, rfl⟩⟩; (try first | exact ⟨rfl, _, World.drewN_drewN _ _ _⟩ | exact ⟨rfl, _, Eq.trans (World.drewN_drewN _ _ _) (congrArg (World.drewN _) (Nat.add_assoc _ _ _))⟩)))
 repeat (go_quiet (first | (go_at_call 23; (with_reducible refine (pack_value.calls k (a0.extract 0 4) t140 _ A5.out).mono ?_); rintro e w' ⟨rfl, ⟨nd, rfl⟩⟩; (try first | exact ⟨rfl, _, World.drewN_drewN _ _ _⟩ | exact ⟨rfl, _, Eq.trans (World.drewN_drewN _ _ _) (congrArg (World.drewN _) (Nat.add_assoc _ _ _))⟩))); go_upto_region 6 with (first | (go_at_call 23; (with_reducible refine (pack_value.calls k (a0.extract 0 4) t140 _ A5.out).mono ?_); rintro e w' ⟨rfl, ⟨nd, rfl⟩⟩; (try first | exact ⟨rfl, _, World.drewN_drewN _ _ _⟩ | exact ⟨rfl, _, Eq.trans (World.drewN_drewN _ _ _) (congrArg (World.drewN _) (Nat.add_assoc _ _ _))⟩))))
 (try simp only [Act.put, List.setIfInBounds_toArray, List.set_cons_zero, List.set_cons_succ])
 go_cut [18] (fun v18 wc => ∃ (kq : Nat) (x18_6 : Bool), v18 = .bool x18_6 ∧ Aside0 (pack_TakeFrame.j0 kq a0 t140 x18_6 = some (r1, r2, r3)) ∧ Aside0 (kq ≤ k) ∧ Aside0 (Below w.heap.size w wc))
 case first =>
  have H := HC7.out
  clear HC7
  by_cases c8 : (a0.size : Int) < 6
  ·rw [if_pos c8] at H
   have c8b0 : decide ((a0.size : Int) < 6) = true := decide_eq_true c8
   have c8b1 : decide (a0.size < 6) = true := decide_eq_true (by omega)
   clear c8
   (first | rw [c8b0] | (simp only [i64_w, i32_w]; rw [c8b0]) | skip)
   have H' := a_ H
   clear H
   go_wp2
   repeat (go_quiet (fail); try go_wp2)
   go_meet
   case rel => exact ⟨_, (true), fz_, H', ⟨by first | omega | exact Nat.le_refl _⟩, ⟨bl_ HB⟩⟩
  rw [if_neg c8] at H
  have c8b0 : decide ((a0.size : Int) < 6) = false := decide_eq_false c8
  have c8b1 : decide (a0.size < 6) = false := decide_eq_false (by omega)
  clear c8
  (first | rw [c8b0] | (simp only [i64_w, i32_w]; rw [c8b0]) | skip)
  have H' := a_ H
  clear H
  go_wp2
  repeat (go_quiet (fail); try go_wp2)
  go_meet
  case rel => exact ⟨_, (decide (t140 > (IntKind.u64.wrap (wrap64 ((a0.size : Int) - 6))))), fz_, H', ⟨by first | omega | exact Nat.le_refl _⟩, ⟨bl_ HB⟩⟩
 case rest =>
  clear HC7
  try clear c1
  try clear c2
  try clear c2b0
  try clear c2b1
  try clear p2
  try clear c3
  try clear c3b0
  try clear c3b1
  try clear c4
  try clear c4b0
  try clear c4b1
  try clear c6
  try clear c6b0
  try clear p6
  try clear c8
  try clear c8b0
  try clear c8b1
  obtain ⟨kq, x18_6, rfl, HA, HJ6, HB⟩ := hcut
  cases kq with
  | zero => exact absurd HA.out (by simp [pack_TakeFrame.j0])
  | succ kj6 =>
   have H := HA.out
   clear HA
   simp only [pack_TakeFrame.j0] at H
   by_cases c9 : x18_6 = true
   ·subst c9
    have H1 : (some ((⟨#[]⟩ : ByteArray), (⟨#[]⟩ : ByteArray), 3)) = some (r1, r2, r3) := by rw [if_pos rfl] at H; exact H
    clear H
    have H := H1
    clear H1
    simp only [Option.some.injEq, Prod.mk.injEq] at H
    obtain ⟨rfl, rfl, rfl⟩ := H
    go_wp2
    repeat (go_quiet (fail); try go_wp2)
    go_ret3
    exact ⟨fz_, bl_ HB⟩
   replace c9 := Bool.eq_false_iff.mpr c9
   subst c9
   have H1 : (if 6 ≤ (wrap64 (6 + (wrap64 (t140)))) then (if (wrap64 (6 + (wrap64 (t140)))) ≤ (a0.size : Int) then ((pack_Frame.f kj6 (a0.extract 6 ((wrap64 (6 + (wrap64 (t140)))) : Int).toNat)).bind fun bt141 => (if 0 ≤ (wrap64 (6 + (wrap64 (t140)))) then (if bt141.1.toList = (a0.extract 0 ((wrap64 (6 + (wrap64 (t140)))) : Int).toNat).toList then (some (a0.extract 6 ((wrap64 (6 + (wrap64 (t140)))) : Int).toNat, a0.extract ((wrap64 (6 + (wrap64 (t140)))) : Int).toNat a0.size, 0)) else (some ((⟨#[]⟩ : ByteArray), (⟨#[]⟩ : ByteArray), 4))) else (none))) else (none)) else (none)) = some (r1, r2, r3) := by rw [if_neg (show ¬ (false = true) by decide)] at H; exact H
   clear H
   have H := H1
   clear H1
   by_cases c10 : 6 ≤ (wrap64 (6 + (wrap64 (t140))))
   rotate_left
   ·rw [if_neg c10] at H
    exact absurd H (by simp)
   rw [if_pos c10] at H
   have c10b0 := eq_true c10
   have c10b1 : decide (6 ≤ (wrap64 (6 + (wrap64 (t140))))) = true := decide_eq_true c10
   clear c10
   by_cases c11 : (wrap64 (6 + (wrap64 (t140)))) ≤ (a0.size : Int)
   rotate_left
   ·rw [if_neg c11] at H
    exact absurd H (by simp)
   rw [if_pos c11] at H
   have c11b0 := eq_true c11
   have c11b1 : decide ((wrap64 (6 + (wrap64 (t140)))) ≤ (a0.size : Int)) = true := decide_eq_true c11
   clear c11
   obtain ⟨⟨t141, t142⟩, A120, H⟩ := Option.bind_eq_some_iff.mp H
   try dsimp only at H
   have A12 := a_ A120
   clear A120
   obtain ⟨ji13, hji13⟩ : ∃ j_ : Int, (wrap64 (6 + (wrap64 (t140)))) = j_ := ⟨_, rfl⟩
   replace H : (if 0 ≤ (ji13) then (if t141.toList = (a0.extract 0 ((ji13) : Int).toNat).toList then (some (a0.extract 6 ((ji13) : Int).toNat, a0.extract ((ji13) : Int).toNat a0.size, 0)) else (some ((⟨#[]⟩ : ByteArray), (⟨#[]⟩ : ByteArray), 4))) else (none)) = some (r1, r2, r3) := by first | (rw [hji13] at H; exact H) | (simp only [hji13] at H ⊢; exact H)
   (try rw [hji13] at c10b0)
   (try rw [hji13] at c10b1)
   (try rw [hji13] at c11b0)
   (try rw [hji13] at c11b1)
   (try rw [hji13] at A12)
   have hji13w : (IntKind.i64.wrap (6 + (wrap64 (t140)))) = ji13 := (i64_w _).trans hji13
   by_cases c14 : 0 ≤ (ji13)
   rotate_left
   ·rw [if_neg c14] at H
    exact absurd H (by simp)
   rw [if_pos c14] at H
   have c14b0 := eq_true c14
   have c14b1 : decide (0 ≤ (ji13)) = true := decide_eq_true c14
   clear c14
   have c15b0 := eq_true (od_ : (ji13) ≤ (a0.size : Int))
   by_cases c16 : t141.toList = (a0.extract 0 ((ji13) : Int).toNat).toList
   rotate_left
   ·rw [if_neg c16] at H
    have c16b0 : (t141.toList == (a0.extract 0 ((ji13) : Int).toNat).toList) = false := beq_eq_false_iff_ne.mpr c16
    have c16b1 : (t141.toList != (a0.extract 0 ((ji13) : Int).toNat).toList) = true := bne_iff_ne.mpr c16
    simp only [Option.some.injEq, Prod.mk.injEq] at H
    obtain ⟨rfl, rfl, rfl⟩ := H
    go_wp2_with (first | (first | (go_at_call 11; (with_reducible refine (pack_Frame.calls kj6 (a0.extract 6 ((ji13) : Int).toNat) t141 t142 _ A12.out).mono ?_); rintro e w22 ⟨rfl, hb⟩; replace HB := hB_ (bl_ HB) hb; (try clear hb))) | go_quiet (first | (go_at_call 11; (with_reducible refine (pack_Frame.calls kj6 (a0.extract 6 ((ji13) : Int).toNat) t141 t142 _ A12.out).mono ?_); rintro e w22 ⟨rfl, hb⟩; replace HB := hB_ (bl_ HB) hb; (try clear hb))))
    go_ret3
    exact ⟨by first | rfl | (simp [errW_none, errW_some] <;> rfl) | (simp only [← hji13]; first | rfl | (simp [errW_none, errW_some] <;> rfl)) | (simp [*, errW_none, errW_some] <;> rfl), bl_ HB⟩
   rw [if_pos c16] at H
   have c16b0 : (t141.toList == (a0.extract 0 ((ji13) : Int).toNat).toList) = true := beq_iff_eq.mpr c16
   have c16b1 : (t141.toList != (a0.extract 0 ((ji13) : Int).toNat).toList) = false := bne_eq_false_iff_eq.mpr c16
   clear c16
   have c17b0 := eq_true (od_ : 6 ≤ (ji13))
   have c18b0 := eq_true (od_ : (ji13) ≤ (a0.size : Int))
   have c19b0 := eq_true (od_ : 0 ≤ (ji13))
   have c20b0 := eq_true (od_ : (ji13) ≤ (a0.size : Int))
   simp only [Option.some.injEq, Prod.mk.injEq] at H
   obtain ⟨rfl, rfl, rfl⟩ := H
   go_wp2_with (first | (first | (go_at_call 11; (with_reducible refine (pack_Frame.calls kj6 (a0.extract 6 ((ji13) : Int).toNat) t141 t142 _ A12.out).mono ?_); rintro e w21 ⟨rfl, hb⟩; replace HB := hB_ (bl_ HB) hb; (try clear hb))) | go_quiet (first | (go_at_call 11; (with_reducible refine (pack_Frame.calls kj6 (a0.extract 6 ((ji13) : Int).toNat) t141 t142 _ A12.out).mono ?_); rintro e w21 ⟨rfl, hb⟩; replace HB := hB_ (bl_ HB) hb; (try clear hb))))
   go_ret3
   exact ⟨by first | rfl | (simp [errW_none, errW_some] <;> rfl) | (simp only [← hji13]; first | rfl | (simp [errW_none, errW_some] <;> rfl)) | (simp [*, errW_none, errW_some] <;> rfl), bl_ HB⟩
/-- A state of type 87 at block g of W; what its slices lead to came in by w0. -/
def IsS87 (w0 W : World) (g : Nat) (f0 : ByteArray) (f1 : Bool) : Prop := ∃ T_, T_ ∈ [87, 88, 89, 90, 91] ∧ W.heap[g]? = some (.cells #[.string f0, .bool f1] T_ (0, 0)) ∧ w0.heap.size ≤ g
theorem IsS87.grown {w0 W : World} {g : Nat} {f0 : ByteArray} {f1 : Bool} {W1 : World} {row : Option Nat} (h : IsS87 w0 W g f0 f1) (hw : W.grownBy W1 row) (hne : some g ≠ row) : IsS87 w0 W1 g f0 f1 := by
 obtain ⟨T_, hT_, hb, hg⟩ := h
 exact ⟨T_, hT_, blk_grown hb hw hne, hg⟩
theorem IsS87.own_neN {w0 W : World} {g : Nat} {f0 : ByteArray} {f1 : Bool} {α : Type} {d : Kd α} {e : Nat} {base : Nat} {ok : Nat → Prop} {v : Value} {xs : List α} (h : IsS87 w0 W g f0 f1) (ho : Kd.N d e W base ok v xs) (ht : ∀ T_, T_ ∈ [87, 88, 89, 90, 91] → e ≠ T_) : some g ≠ v.ownBlock := by
 obtain ⟨T_, hT_, hb, hg⟩ := h
 exact Kd.N_ne ho hb (ht _ hT_)
theorem IsS87.fresh {w0 W : World} {g : Nat} {f0 : ByteArray} {f1 : Bool} (h : IsS87 w0 W g f0 f1) : ∀ k, W.heap.size ≤ k → k ≠ g := by
 obtain ⟨T_, hT_, hb, hg⟩ := h
 exact Kd.freshB hb
theorem IsS87.kept {w0 W : World} {g : Nat} {f0 : ByteArray} {f1 : Bool} {W1 : World} {S : Nat → Prop} (h : IsS87 w0 W g f0 f1) (hk : Kept W W1 S) (hne : ¬ S g) : IsS87 w0 W1 g f0 f1 := by
 obtain ⟨T_, hT_, hb, hg⟩ := h
 exact ⟨T_, hT_, blk_kept hb hk hne, hg⟩
theorem IsS87.below {w0 W : World} {g : Nat} {f0 : ByteArray} {f1 : Bool} {W1 : World} (h : IsS87 w0 W g f0 f1) (hw : Below W.heap.size W W1) : IsS87 w0 W1 g f0 f1 := h.grown (grown_of_below hw none) (by simp)
theorem IsS87.alloc {w0 W : World} {g : Nat} {f0 : ByteArray} {f1 : Bool} (h : IsS87 w0 W g f0 f1) (o : Obj) : IsS87 w0 (W.alloc o) g f0 f1 := h.below (below_alloc (Below.refl _ _) o)
theorem IsS87.drewN {w0 W : World} {g : Nat} {f0 : ByteArray} {f1 : Bool} (h : IsS87 w0 W g f0 f1) (m : Nat) : IsS87 w0 (W.drewN m) g f0 f1 := h
theorem IsS87.drew {w0 W : World} {g : Nat} {f0 : ByteArray} {f1 : Bool} (h : IsS87 w0 W g f0 f1) : IsS87 w0 W.drew g f0 f1 := h
theorem IsS87.at_ {w0 W : World} {g : Nat} {f0 : ByteArray} {f1 : Bool} {w' : World} {m : Nat} (hq : W.drewN m = w') (h : IsS87 w0 W g f0 f1) : IsS87 w0 w' g f0 f1 := by subst hq; exact IsS87.drewN h m
theorem IsS87.apart {w0 W : World} {g : Nat} {f0 : ByteArray} {f1 : Bool} {α : Type} {d : Kd α} {e : Nat} {base : Nat} {ok : Nat → Prop} {v : Value} {xs : List α} (h : IsS87 w0 W g f0 f1) (ho : d.R e W base ok v xs) (ht : ∀ q, q ∈ e :: d.E → ∀ T_, T_ ∈ [87, 88, 89, 90, 91] → q ≠ T_) : d.R e W base (fun k => ok k ∧ k ≠ g) v xs := by
 obtain ⟨T_, hT_, hb, hg⟩ := h
 exact Kd.R_types ho hb (fun q hq => ht q hq _ hT_)
theorem IsS87.own_ne {w0 W : World} {g : Nat} {f0 : ByteArray} {f1 : Bool} {α : Type} {d : Kd α} {e : Nat} {base : Nat} {ok : Nat → Prop} {v : Value} {xs : List α} (h : IsS87 w0 W g f0 f1) (ho : d.R e W base ok v xs) (ht : ∀ T_, T_ ∈ [87, 88, 89, 90, 91] → e ≠ T_) : some g ≠ v.ownBlock := by
 obtain ⟨T_, hT_, hb, hg⟩ := h
 exact Kd.R_ne ho hb (ht _ hT_)
theorem IsS87.apartQ {w0 W : World} {g : Nat} {f0 : ByteArray} {f1 : Bool} {α : Type} {d : Kd α} {e : Nat} {base : Nat} {ok : Nat → Prop} {v : Value} {xs : List α} (h : IsS87 w0 W g f0 f1) (ho : d.Q e W base ok v xs) (ht : ∀ q, q ∈ e :: d.E → ∀ T_, T_ ∈ [87, 88, 89, 90, 91] → q ≠ T_) : d.Q e W base (fun k => ok k ∧ k ≠ g) v xs := by
 obtain ⟨T_, hT_, hb, hg⟩ := h
 exact Kd.Q_types ho hb (fun q hq => ht q hq _ hT_)
theorem IsS87.own_neQ {w0 W : World} {g : Nat} {f0 : ByteArray} {f1 : Bool} {α : Type} {d : Kd α} {e : Nat} {base : Nat} {ok : Nat → Prop} {v : Value} {xs : List α} (h : IsS87 w0 W g f0 f1) (ho : d.Q e W base ok v xs) (ht : ∀ T_, T_ ∈ [87, 88, 89, 90, 91] → e ≠ T_) : some g ≠ v.ownBlock := by
 obtain ⟨T_, hT_, hb, hg⟩ := h
 exact Kd.Q_ne ho hb (ht _ hT_)
theorem IsS87.apartS {w0 W : World} {g : Nat} {f0 : ByteArray} {f1 : Bool} {α : Type} {d : Kd α} {e : Nat} {base : Nat} {ok : Nat → Prop} {v : Value} {xs : List α} (h : IsS87 w0 W g f0 f1) (ho : d.S e W base ok v xs) (ht : ∀ q, q ∈ e :: d.E → ∀ T_, T_ ∈ [87, 88, 89, 90, 91] → q ≠ T_) : d.S e W base (fun k => ok k ∧ k ≠ g) v xs := by
 obtain ⟨T_, hT_, hb, hg⟩ := h
 exact Kd.S_types ho hb (fun q hq => ht q hq _ hT_)
theorem IsS87.own_neS {w0 W : World} {g : Nat} {f0 : ByteArray} {f1 : Bool} {α : Type} {d : Kd α} {e : Nat} {base : Nat} {ok : Nat → Prop} {v : Value} {xs : List α} (h : IsS87 w0 W g f0 f1) (ho : d.S e W base ok v xs) (ht : ∀ T_, T_ ∈ [87, 88, 89, 90, 91] → e ≠ T_) : some g ≠ v.ownBlock := by
 obtain ⟨T_, hT_, hb, hg⟩ := h
 exact Kd.S_ne ho hb (ht _ hT_)
theorem IsS87.lt {w0 W : World} {g : Nat} {f0 : ByteArray} {f1 : Bool} (h : IsS87 w0 W g f0 f1) : g < W.heap.size := by
 obtain ⟨T_, hT_, hb, hg⟩ := h
 exact blk_lt hb
theorem IsS87.ge {w0 W : World} {g : Nat} {f0 : ByteArray} {f1 : Bool} (h : IsS87 w0 W g f0 f1) : w0.heap.size ≤ g := by
 obtain ⟨T_, hT_, hb, hg⟩ := h
 exact hg
theorem IsS87.ne_blk {w0 W : World} {g : Nat} {f0 : ByteArray} {f1 : Bool} {a : Nat} {cs : Array Value} {t : TypeId} {fr : Nat × Nat} (h : IsS87 w0 W g f0 f1) (hb2 : W.heap[a]? = some (.cells cs t fr)) (ht : ∀ T_, T_ ∈ [87, 88, 89, 90, 91] → t ≠ T_) : g ≠ a := by
 obtain ⟨T_, hT_, hb, hg⟩ := h
 rintro rfl
 rw [hb] at hb2
 injection hb2 with hb2
 injection hb2 with _ ht2
 exact ht _ hT_ ht2.symm
theorem IsS87.far {w0 W : World} {g : Nat} {f0 : ByteArray} {f1 : Bool} {p : Addr} (h : IsS87 w0 W g f0 f1) (hne : g ≠ p.block) (u : Value) : IsS87 w0 (W.setCell p u) g f0 f1 := by
 obtain ⟨T_, hT_, hb, hg⟩ := h
 exact ⟨T_, hT_, blk_far hb hne u, hg⟩
theorem cellS87_0 {W : World} {T_ : TypeId} {g : Nat} {f0 : ByteArray} {f1 : Bool} (h : W.heap[g]? = some (.cells #[.string f0, .bool f1] T_ (0, 0))) : W.cell? ⟨g, 0, none⟩ = some (.string f0) := (blk_cell h 0).trans rfl
theorem IsS87.set_0 {w0 W : World} {g : Nat} {f0 : ByteArray} {f1 : Bool} (h : IsS87 w0 W g f0 f1) (x : ByteArray) : IsS87 w0 (W.setCell ⟨g, 0, none⟩ (.string x)) g x f1 := by
 obtain ⟨T_, hT_, hb, hg⟩ := h
 exact ⟨T_, hT_, by simpa using blk_set hb 0 (.string x), hg⟩
theorem cellS87_1 {W : World} {T_ : TypeId} {g : Nat} {f0 : ByteArray} {f1 : Bool} (h : W.heap[g]? = some (.cells #[.string f0, .bool f1] T_ (0, 0))) : W.cell? ⟨g, 1, none⟩ = some (.bool f1) := (blk_cell h 1).trans rfl
theorem IsS87.set_1 {w0 W : World} {g : Nat} {f0 : ByteArray} {f1 : Bool} (h : IsS87 w0 W g f0 f1) (x : Bool) : IsS87 w0 (W.setCell ⟨g, 1, none⟩ (.bool x)) g f0 x := by
 obtain ⟨T_, hT_, hb, hg⟩ := h
 exact ⟨T_, hT_, by simpa using blk_set hb 1 (.bool x), hg⟩
theorem IsS87.new (w0 W : World) (f0 : ByteArray) (f1 : Bool) (hB : Below w0.heap.size w0 W) : IsS87 w0 (W.alloc (.cells #[.string f0, .bool f1] 87)) W.heap.size f0 f1 := ⟨87, by decide, by simpa using heap_alloc_new W _, hB.size⟩

/-! ### order_Taker_Over: function 29 -/
def order_Taker_Over.f (s0_0 : ByteArray) (s0_1 : Bool) : Option (Bool × ByteArray × Bool) := if s0_1 = true then (some (false, s0_0, s0_1)) else (some ((s0_0.toList == ([] : List UInt8)), s0_0, s0_1))
theorem order_Taker_Over.calls (g : Nat) (s0_0 : ByteArray) (s0_1 : Bool) (r1 : Bool) (r2 : ByteArray) (r3 : Bool) (w0 w : World) (hI : IsS87 w0 w g s0_0 s0_1) (hB : Below w0.heap.size w0 w) (h : order_Taker_Over.f s0_0 s0_1 = some (r1, r2, r3)) :
  Calls Try.prog 29 #[.pointer (some ⟨g, 0, none⟩)] w fun e w' => e = .returned (.bool r1) ∧ IsS87 w0 w' g r2 r3 ∧ Below w0.heap.size w0 w' ∧ KeepBut w w' g none := by
 have HI0 := a_ hI
 have HK := a_ (KeepBut.refl w g none)
 have HL := a_ hB.size
 clear hI
 have HW0 := a_ hB.size
 have HB := a_ hB
 clear hB
 have H : (if s0_1 = true then (some (false, s0_0, s0_1)) else (some ((s0_0.toList == ([] : List UInt8)), s0_0, s0_1))) = some (r1, r2, r3) := h
 clear h
 by_cases c2 : s0_1 = true
 ·subst c2
  have H1 : (some (false, s0_0, true)) = some (r1, r2, r3) := by rw [if_pos rfl] at H; exact H
  clear H
  have H := H1
  clear H1
  simp only [Option.some.injEq, Prod.mk.injEq] at H
  obtain ⟨rfl, rfl, rfl⟩ := H
  obtain ⟨Tz3_, hTz3_, HGz3, hgz3⟩ := HI0.out
  have hcz3_0 := cellS87_0 HGz3
  have hcz3_1 := cellS87_1 HGz3
  have hfz3_0 := blk_frozen HGz3 0
  have hfz3_1 := blk_frozen HGz3 1
  clear HGz3 hgz3
  go_enter Try.func29, Try.ntmps29
  go_wp2
  go_ret
  exact ⟨fz_, by repeat (first | (with_reducible first | exact HI0.out | apply IsS87.alloc | apply IsS87.drewN | apply IsS87.drew | apply IsS87.set_0 | apply IsS87.set_1) | exact HI0.out), by repeat (first | (with_reducible first | exact HB.out | apply below_alloc | apply pw_below_drewN | apply below_drew1 | refine below_set ?_ (IsS87.ge HI0.out)) | exact HB.out), by repeat (first | (with_reducible first | exact HK.out | apply KeepBut.set_ | apply keep_drewN | apply keep_drew | apply keep_alloc) | exact HK.out)⟩
 replace c2 := Bool.eq_false_iff.mpr c2
 subst c2
 have H1 : (some ((s0_0.toList == ([] : List UInt8)), s0_0, false)) = some (r1, r2, r3) := by rw [if_neg (show ¬ (false = true) by decide)] at H; exact H
 clear H
 have H := H1
 clear H1
 simp only [Option.some.injEq, Prod.mk.injEq] at H
 obtain ⟨rfl, rfl, rfl⟩ := H
 obtain ⟨Tz4_, hTz4_, HGz4, hgz4⟩ := HI0.out
 have hcz4_0 := cellS87_0 HGz4
 have hcz4_1 := cellS87_1 HGz4
 have hfz4_0 := blk_frozen HGz4 0
 have hfz4_1 := blk_frozen HGz4 1
 clear HGz4 hgz4
 go_enter Try.func29, Try.ntmps29
 go_wp2
 go_ret
 exact ⟨fz_, by repeat (first | (with_reducible first | exact HI0.out | apply IsS87.alloc | apply IsS87.drewN | apply IsS87.drew | apply IsS87.set_0 | apply IsS87.set_1) | exact HI0.out), by repeat (first | (with_reducible first | exact HB.out | apply below_alloc | apply pw_below_drewN | apply below_drew1 | refine below_set ?_ (IsS87.ge HI0.out)) | exact HB.out), by repeat (first | (with_reducible first | exact HK.out | apply KeepBut.set_ | apply keep_drewN | apply keep_drew | apply keep_alloc) | exact HK.out)⟩

end Go.Proofs.Ytcdibodjkdoknaa.PM
