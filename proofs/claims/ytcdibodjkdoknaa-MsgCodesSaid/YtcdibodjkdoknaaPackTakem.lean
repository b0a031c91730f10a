import Derived.Test.YtcdibodjkdoknaaPMx11
import Derived.Test.YtcdibodjkdoknaaPMx16
import Derived.Test.YtcdibodjkdoknaaPMx12
import Derived.Test.YtcdibodjkdoknaaPMx17
import Derived.Test.YtcdibodjkdoknaaPMx1
import Derived.Test.YtcdibodjkdoknaaPMx8
import Derived.Test.YtcdibodjkdoknaaPackSumm
import Derived.Test.YtcdibodjkdoknaaPackNumm
namespace Go.Proofs.Ytcdibodjkdoknaa.Ba
open Go.RowKit YtcdibodjkdoknaaW.PrintWords YtcdibodjkdoknaaW.PrintLast YtcdibodjkdoknaaW.PrintMore Ytcdibodjkdoknaa.PM
set_option linter.unusedVariables false

def tup3 (r : Nat × List UInt8 × Nat) : Int × ByteArray × Int := ((r.1 : Int), ba r.2.1, (r.2.2 : Int))
def tup3' (r : List UInt8 × List UInt8 × Nat) : ByteArray × ByteArray × Int := (ba r.1, ba r.2.1, (r.2.2 : Int))
def takeN : List UInt8 → Nat × List UInt8 × Nat
  | [] => (0, [], 3)
  | b :: r => if 8 < b.toNat then (0, [], 4) else if 0 < b.toNat ∧ r ≠ [] ∧ r.getD 0 0 = 0 then (0, [], 4) else if r.length < b.toNat then (0, [], 3) else (val (r.take b.toNat), r.drop b.toNat, 0)
def takeT (l : List UInt8) : List UInt8 × List UInt8 × Nat :=
  if (takeN l).2.2 = 0 then
    if 65536 < (takeN l).1 then ([], [], 2) else if (takeN l).2.1.length < (takeN l).1 then ([], [], 3)
    else ((takeN l).2.1.take (takeN l).1, (takeN l).2.1.drop (takeN l).1, 0)
  else ([], [], (takeN l).2.2)
def frameL (p : List UInt8) : List UInt8 := be 4 p.length ++ be 2 (crc (be 4 p.length ++ p)) ++ p
def takeF (l : List UInt8) : List UInt8 × List UInt8 × Nat :=
  if l.length < 4 then ([], [], 3)
  else if 65536 < val (l.take 4) then ([], [], 2)
  else if l.length < val (l.take 4) + 6 then ([], [], 3)
  else if be 2 (crc (l.take 4 ++ (l.drop 6).take (val (l.take 4)))) = (l.drop 4).take 2 then ((l.drop 6).take (val (l.take 4)), l.drop (val (l.take 4) + 6), 0)
  else ([], [], 4)

theorem zero_toNat (b : UInt8) : b.toNat = 0 ↔ b = 0 := by
  constructor
  · intro h; apply UInt8.toNat_inj.mp; rw [h]; rfl
  · rintro rfl; rfl
theorem ba_tail (b : UInt8) (r : List UInt8) : (ba (b :: r)).extract 1 (ba (b :: r)).size = ba r := by
  rw [ba_size, ba_drop]; rfl

theorem TakeNumber_j0 (r : List UInt8) (b : Nat) (hr : r.length ≤ 4611686018427387904) (h8 : b ≤ 8) (x : Bool) :
    Ev (fun k => pack_TakeNumber.j0 k (ba r) (b : Int) x) (tup3 (if x = true then (0, [], 4) else if r.length < b then (0, [], 3) else (val (r.take b), r.drop b, 0))) := by
  refine Ev.step (f := fun k => if x = true then (some (0, (⟨#[]⟩ : ByteArray), 4)) else (if (b : Int) > ((ba r).size : Int) then (some (0, (⟨#[]⟩ : ByteArray), 3)) else (if 0 ≤ (b : Int) then (if (b : Int) ≤ ((ba r).size : Int) then ((pack_value.f k ((ba r).extract 0 ((b : Int) : Int).toNat)).bind fun t => (some (t, (ba r).extract ((b : Int) : Int).toNat (ba r).size, 0))) else (none)) else (none)))) (fun k => by rw [pack_TakeNumber.j0]) ?_
  by_cases hx : x = true
  · rw [if_pos hx]; exact Ev.pos hx (Ev.now _)
  · rw [if_neg hx]; refine Ev.neg hx ?_
    by_cases hb : r.length < b
    · rw [if_pos hb]; exact Ev.pos (by rw [ba_size]; omega) (Ev.now _)
    · rw [if_neg hb]
      refine Ev.neg (by rw [ba_size]; omega) (Ev.pos (by omega) (Ev.pos (by rw [ba_size]; omega) ?_))
      rw [Int.toNat_natCast, ba_take, ba_size, ba_drop]
      exact Ev.bind (value_ev (r.take b) (by simp; omega)) (Ev.now _)
theorem TakeNumber_ev (l : List UInt8) (hl : l.length ≤ 4611686018427387904) : Ev (fun k => pack_TakeNumber.f k (ba l)) (tup3 (takeN l)) := by
  unfold pack_TakeNumber.f
  cases l with
  | nil => exact Ev.pos (by rw [ba_list]) (Ev.now _)
  | cons b r =>
    have hb := u8_lt b
    have e0 : wrap64 (bt (ba (b :: r)) 0) = (b.toNat : Int) := by rw [bt_ba]; exact wrap64_id (by simp) (by simp; omega)
    simp only [List.length_cons] at hl
    refine Ev.neg (by rw [ba_list]; exact List.cons_ne_nil _ _) (Ev.pos (by rw [ba_size]; simp) (Ev.pos (by rw [ba_size]; simp; omega) ?_))
    rw [e0, ba_tail]
    rw [takeN]
    by_cases h8 : 8 < b.toNat
    · rw [if_pos h8]
      refine Ev.pos (by omega) ?_
      refine Ev.step (f := fun k => some (0, (⟨#[]⟩ : ByteArray), 4)) (fun k => by rw [pack_TakeNumber.j0, if_pos rfl]) (Ev.now _)
    · rw [if_neg h8]
      refine Ev.neg (by omega) ?_
      by_cases h0 : 0 < b.toNat
      · refine Ev.pos (by omega) ?_
        by_cases hr : r = []
        · refine Ev.pos (by rw [ba_list]; exact hr) ?_
          rw [if_neg (fun h => h.2.1 hr)]
          exact TakeNumber_j0 r b.toNat (by omega) (by omega) false
        · refine Ev.neg (by rw [ba_list]; exact hr) (Ev.pos (by rw [ba_size]; have := List.length_pos_iff.mpr hr; omega) ?_)
          have e1 : (bt (ba r) 0 == 0) = decide (r.getD 0 0 = 0) := by
            rw [bt_ba, Bool.eq_iff_iff, beq_iff_eq, decide_eq_true_eq, ← zero_toNat]
            simp
          rw [e1]
          have := TakeNumber_j0 r b.toNat (by omega) (by omega) (decide (r.getD 0 0 = 0))
          by_cases hz : r.getD 0 0 = 0
          · rw [if_pos ⟨h0, hr, hz⟩]; rw [if_pos (by simpa using hz)] at this; exact this
          · rw [if_neg (fun h => hz h.2.2)]; rw [if_neg (by simpa using hz)] at this; exact this
      · refine Ev.neg (by omega) ?_
        rw [if_neg (fun h => h0 h.1)]
        exact TakeNumber_j0 r b.toNat (by omega) (by omega) false

theorem RTakeNumber_l0 (b : UInt8) (r : List UInt8) (n : Nat) (hr : r.length ≤ 4611686018427387904) (h8 : n ≤ 8) (hn : n ≤ r.length) : ∀ d i, i + d = n →
    Ev (fun k => gafferref01_TakeNumber.l0 k (ba (b :: r)) (n : Int) (val (r.take i) : Nat) ((i + 1 : Nat) : Int)) (tup3 (val (r.take n), r.drop n, 0))
  | 0, i, hi => by
    refine Ev.step (f := fun k => some (tup3 (val (r.take n), r.drop n, 0))) (fun k => ?_) (Ev.now _)
    simp only [gafferref01_TakeNumber.l0]
    rw [if_neg (by omega), wrap64_id (by omega) (by omega), if_pos (by omega), if_pos (by rw [ba_size]; simp; omega), show ((n : Int) + 1).toNat = n + 1 by omega, ba_size, ba_drop]
    obtain rfl : i = n := by omega
    rfl
  | d + 1, i, hi => by
    refine Ev.step (f := fun k => gafferref01_TakeNumber.l0 k (ba (b :: r)) (n : Int) (val (r.take (i + 1)) : Nat) ((i + 1 + 1 : Nat) : Int)) (fun k => ?_) (RTakeNumber_l0 b r n hr h8 hn d (i + 1) (by omega))
    have hv := val_lt (r.take i)
    have hlt : (r.take i).length = i := by simp; omega
    rw [hlt] at hv
    have h7 : 256 ^ i ≤ 256 ^ 7 := Nat.pow_le_pow_right (by decide) (by omega)
    have hb := u8_lt (r.getD i 0)
    have hg : (b :: r).getD ((i + 1 : Nat) : Int).toNat 0 = r.getD i 0 := by rw [Int.toNat_natCast]; rfl
    simp only [gafferref01_TakeNumber.l0]
    rw [if_pos (by omega), if_pos (by omega), if_pos (by rw [ba_size]; simp; omega), bt_ba, hg, wrap64_id (by omega) (by omega)]
    have hs : r.take (i + 1) = r.take i ++ [r.getD i 0] := by
      rw [List.take_succ_eq_append_getElem (by omega), List.getD_eq_getElem?_getD, List.getElem?_eq_getElem (by omega)]; rfl
    rw [u64_id (n := 256 * ((val (r.take i) : Nat) : Int)) (by omega) (by omega), u64_id (n := ((r.getD i 0).toNat : Int)) (by omega) (by omega), u64_id (by omega) (by omega), hs, val_snoc]
    rw [show (256 : Int) * ((val (r.take i) : Nat) : Int) + ((r.getD i 0).toNat : Int) = ((val (r.take i) * 256 + (r.getD i 0).toNat : Nat) : Int) by omega]
    rfl
theorem RTakeNumber_j0 (b : UInt8) (r : List UInt8) (n : Nat) (hr : r.length ≤ 4611686018427387904) (h8 : n ≤ 8) (x : Bool) :
    Ev (fun k => gafferref01_TakeNumber.j0 k (ba (b :: r)) (n : Int) x) (tup3 (if x = true then (0, [], 4) else if r.length < n then (0, [], 3) else (val (r.take n), r.drop n, 0))) := by
  refine Ev.step (f := fun k => if x = true then (some (0, (⟨#[]⟩ : ByteArray), 4)) else (if ((ba (b :: r)).size : Int) < (wrap64 ((n : Int) + 1)) then (some (0, (⟨#[]⟩ : ByteArray), 3)) else (gafferref01_TakeNumber.l0 k (ba (b :: r)) (n : Int) 0 1))) (fun k => by rw [gafferref01_TakeNumber.j0]) ?_
  by_cases hx : x = true
  · rw [if_pos hx]; exact Ev.pos hx (Ev.now _)
  · rw [if_neg hx, wrap64_id (by omega) (by omega)]; refine Ev.neg hx ?_
    by_cases hb : r.length < n
    · rw [if_pos hb]; exact Ev.pos (by rw [ba_size]; simp; omega) (Ev.now _)
    · rw [if_neg hb]
      refine Ev.neg (by rw [ba_size]; simp; omega) ?_
      exact RTakeNumber_l0 b r n hr h8 (by omega) n 0 (by omega)
theorem RTakeNumber_ev (l : List UInt8) (hl : l.length ≤ 4611686018427387904) : Ev (fun k => gafferref01_TakeNumber.f k (ba l)) (tup3 (takeN l)) := by
  unfold gafferref01_TakeNumber.f
  cases l with
  | nil => exact Ev.pos (by rw [ba_list]) (Ev.now _)
  | cons b r =>
    have hb := u8_lt b
    have e0 : wrap64 (bt (ba (b :: r)) 0) = (b.toNat : Int) := by rw [bt_ba]; exact wrap64_id (by simp) (by simp; omega)
    simp only [List.length_cons] at hl
    refine Ev.neg (by rw [ba_list]; exact List.cons_ne_nil _ _) (Ev.pos (by rw [ba_size]; simp) ?_)
    rw [e0]
    rw [takeN]
    by_cases h8 : 8 < b.toNat
    · rw [if_pos h8]
      exact Ev.pos (by omega) (Ev.now _)
    · rw [if_neg h8]
      refine Ev.neg (by omega) ?_
      by_cases h0 : 0 < b.toNat
      · refine Ev.pos (by omega) ?_
        by_cases hr : r = []
        · refine Ev.neg (by rw [ba_size, hr]; simp) ?_
          rw [if_neg (fun h => h.2.1 hr)]
          exact RTakeNumber_j0 b r b.toNat (by omega) (by omega) false
        · have hp := List.length_pos_iff.mpr hr
          refine Ev.pos (by rw [ba_size]; simp; omega) (Ev.pos (by rw [ba_size]; simp; omega) ?_)
          have e1 : (bt (ba (b :: r)) 1 == 0) = decide (r.getD 0 0 = 0) := by
            rw [bt_ba, Bool.eq_iff_iff, beq_iff_eq, decide_eq_true_eq, ← zero_toNat]
            simp
          rw [e1]
          have := RTakeNumber_j0 b r b.toNat (by omega) (by omega) (decide (r.getD 0 0 = 0))
          by_cases hz : r.getD 0 0 = 0
          · rw [if_pos ⟨h0, hr, hz⟩]; rw [if_pos (by simpa using hz)] at this; exact this
          · rw [if_neg (fun h => hz h.2.2)]; rw [if_neg (by simpa using hz)] at this; exact this
      · refine Ev.neg (by omega) ?_
        rw [if_neg (fun h => h0 h.1)]
        exact RTakeNumber_j0 b r b.toNat (by omega) (by omega) false

theorem takeN_len (l : List UInt8) : (takeN l).2.1.length ≤ l.length := by
  cases l with
  | nil => simp [takeN]
  | cons b r => simp only [takeN]; repeat' split
                all_goals simp
                omega
theorem takeN_lt (l : List UInt8) : (takeN l).1 < 18446744073709551616 := by
  cases l with
  | nil => simp [takeN]
  | cons b r =>
    simp only [takeN]
    split
    · simp
    · split
      · simp
      · split
        · simp
        · rename_i h8 _ _
          have hv := val_lt (r.take b.toNat)
          have : (r.take b.toNat).length ≤ 8 := by simp; omega
          have := Nat.pow_le_pow_right (n := 256) (by decide) this
          simp only; omega
theorem TakeText_ev (l : List UInt8) (hl : l.length ≤ 4611686018427387904) : Ev (fun k => pack_TakeText.f k (ba l)) (tup3' (takeT l)) := by
  unfold pack_TakeText.f
  refine Ev.bind (TakeNumber_ev l hl) ?_
  have hlen := takeN_len l; have hlt := takeN_lt l
  unfold takeT tup3
  simp only
  by_cases he : (takeN l).2.2 = 0
  · refine Ev.pos (by omega) ?_
    rw [if_pos he]
    by_cases h1 : 65536 < (takeN l).1
    · rw [if_pos h1]; exact Ev.pos (by omega) (Ev.now _)
    · rw [if_neg h1]; refine Ev.neg (by omega) ?_
      rw [ba_size, u64_id (by omega) (by omega)]
      by_cases h2 : (takeN l).2.1.length < (takeN l).1
      · rw [if_pos h2]; exact Ev.pos (by omega) (Ev.now _)
      · rw [if_neg h2]; refine Ev.neg (by omega) (Ev.pos (by omega) (Ev.pos (by omega) ?_))
        rw [Int.toNat_natCast, ba_take, ba_drop]; exact Ev.now _
  · refine Ev.neg (by omega) ?_
    rw [if_neg he]; exact Ev.now _
theorem RTakeText_ev (l : List UInt8) (hl : l.length ≤ 4611686018427387904) : Ev (fun k => gafferref01_TakeText.f k (ba l)) (tup3' (takeT l)) := by
  unfold gafferref01_TakeText.f
  refine Ev.bind (RTakeNumber_ev l hl) ?_
  have hlen := takeN_len l; have hlt := takeN_lt l
  unfold takeT tup3
  simp only
  by_cases he : (takeN l).2.2 = 0
  · refine Ev.pos (by omega) ?_
    rw [if_pos he]
    by_cases h1 : 65536 < (takeN l).1
    · rw [if_pos h1]; exact Ev.pos (by omega) (Ev.now _)
    · rw [if_neg h1]; refine Ev.neg (by omega) ?_
      rw [ba_size, wrap64_id (by omega) (by omega)]
      by_cases h2 : (takeN l).2.1.length < (takeN l).1
      · rw [if_pos h2]; exact Ev.pos (by omega) (Ev.now _)
      · rw [if_neg h2]; refine Ev.neg (by omega) (Ev.pos (by omega) (Ev.pos (by omega) ?_))
        rw [Int.toNat_natCast, ba_take, ba_drop]; exact Ev.now _
  · refine Ev.neg (by omega) ?_
    rw [if_neg he]; exact Ev.now _

def frameR (p : List UInt8) : ByteArray × Int := if 65536 < p.length then (ba [], 2) else (ba (frameL p), 0)
theorem Frame_ev (p : List UInt8) (hp : p.length ≤ 4611686018427387904) : Ev (fun k => pack_Frame.f k (ba p)) (frameR p) := by
  unfold pack_Frame.f frameR
  by_cases h : 65536 < p.length
  · rw [if_pos h]; exact Ev.pos (by rw [ba_size]; omega) (Ev.now _)
  · rw [if_neg h]
    refine Ev.neg (by rw [ba_size]; omega) ?_
    rw [ba_size, u64_id (by omega) (by omega)]
    refine Ev.bind (fixed_ev p.length 4 (by decide)) ?_
    refine Ev.pos (by rw [ba_size, be_length]; omega) ?_
    rw [ba_append]
    refine Ev.bind (Sum_ev _ (by simp [be_length]; omega)) ?_
    have hc := crc_lt (be 4 p.length ++ p)
    rw [u64_id (by omega) (by omega)]
    refine Ev.bind (fixed_ev (crc (be 4 p.length ++ p)) 2 (by decide)) ?_
    refine Ev.pos (by rw [ba_size, ba_size, be_length, be_length]; omega) ?_
    rw [ba_append]
    refine Ev.pos (by rw [ba_size, List.length_append, be_length, be_length]; omega) ?_
    rw [ba_append]
    exact Ev.now _
theorem check_ev (l : List UInt8) (hl : l.length ≤ 9223372036854775806) : Ev (fun k => gafferref01_check.f k (ba l)) (ba (be 2 (crc l))) := by
  unfold gafferref01_check.f
  refine Ev.bind (RSum_ev l hl) ?_
  have hc := crc_lt l
  refine Ev.congr (f := fun _ => some (ba (be 2 (crc l)))) (fun k => ?_) (Ev.now _)
  congr 1
  rw [show (256 : Int) = ((256 : Nat) : Int) from rfl, ← Int.ofNat_tdiv, u16_mod]
  unfold strOfNums ba be beN beN beN
  simp only [List.map_cons, List.map_nil]
  rw [show (((crc l / 256 : Nat) : Int) % 65536 % ((256 : Nat) : Int)).toNat = crc l / 256 % 256 by omega, show (((crc l : Nat) : Int) % ((256 : Nat) : Int)).toNat = crc l % 256 by omega]
  simp
theorem four_ev (n : Nat) (h : n < 4294967296) : gafferref01_four.f (n : Int) = some (ba (be 4 n)) := by
  unfold gafferref01_four.f
  congr 1
  rw [show (16777216 : Int) = ((16777216 : Nat) : Int) from rfl, show (65536 : Int) = ((65536 : Nat) : Int) from rfl, show (256 : Int) = ((256 : Nat) : Int) from rfl, ← Int.ofNat_tdiv, ← Int.ofNat_tdiv, ← Int.ofNat_tdiv,
    wrap64_id (by omega) (by omega), wrap64_id (by omega) (by omega), wrap64_id (by omega) (by omega)]
  unfold strOfNums ba be beN beN beN beN beN
  simp only [List.map_cons, List.map_nil]
  rw [show (((n / 16777216 : Nat) : Int) % ((256 : Nat) : Int)).toNat = n / 256 ^ 3 % 256 by omega, show (((n / 65536 : Nat) : Int) % ((256 : Nat) : Int)).toNat = n / 256 ^ 2 % 256 by omega,
    show (((n / 256 : Nat) : Int) % ((256 : Nat) : Int)).toNat = n / 256 ^ 1 % 256 by omega, show ((n : Int) % ((256 : Nat) : Int)).toNat = n / 256 ^ 0 % 256 by omega]
theorem RFrame_ev (p : List UInt8) (hp : p.length ≤ 4611686018427387904) : Ev (fun k => gafferref01_Frame.f k (ba p)) (frameR p) := by
  unfold gafferref01_Frame.f frameR
  by_cases h : 65536 < p.length
  · rw [if_pos h]; exact Ev.pos (by rw [ba_size]; omega) (Ev.now _)
  · rw [if_neg h]
    refine Ev.neg (by rw [ba_size]; omega) ?_
    rw [ba_size, four_ev _ (by omega)]
    refine Ev.bind_const ?_
    refine Ev.pos (by rw [ba_size, be_length]; omega) ?_
    rw [ba_append]
    refine Ev.bind (check_ev _ (by simp [be_length]; omega)) ?_
    refine Ev.pos (by rw [ba_size, ba_size, be_length, be_length]; omega) ?_
    rw [ba_append]
    refine Ev.pos (by rw [ba_size, List.length_append, be_length, be_length]; omega) ?_
    rw [ba_append]
    exact Ev.now _

theorem val4_lt (l : List UInt8) : val (l.take 4) < 4294967296 := by
  have h := val_lt (l.take 4)
  have := Nat.pow_le_pow_right (n := 256) (by decide) (show (l.take 4).length ≤ 4 by simp; omega)
  omega
theorem frame_cut (l : List UInt8) (n : Nat) (h4 : 4 ≤ l.length) (hn : val (l.take 4) = n) (hl : n + 6 ≤ l.length) :
    frameL ((l.drop 6).take n) = l.take (n + 6) ↔ be 2 (crc (l.take 4 ++ (l.drop 6).take n)) = (l.drop 4).take 2 := by
  have hp : ((l.drop 6).take n).length = n := by simp; omega
  have h4' : (l.take 4).length = 4 := by simp; omega
  have e4 : be 4 n = l.take 4 := by have := be_val (l.take 4); rw [h4', hn] at this; exact this
  have es : l.take (n + 6) = l.take 4 ++ (l.drop 4).take 2 ++ (l.drop 6).take n := by
    rw [show n + 6 = 4 + (2 + n) by omega, List.take_add, List.take_add, List.drop_drop, List.append_assoc]
  unfold frameL
  rw [hp, e4, es]
  constructor
  · intro h
    have := List.append_cancel_right h
    exact List.append_cancel_left this
  · intro h; rw [h]
theorem TakeFrame_ev (l : List UInt8) (hl : l.length ≤ 4611686018427387904) : Ev (fun k => pack_TakeFrame.f k (ba l)) (tup3' (takeF l)) := by
  unfold pack_TakeFrame.f takeF
  by_cases h4 : l.length < 4
  · rw [if_pos h4]; exact Ev.pos (by rw [ba_size]; omega) (Ev.now _)
  · rw [if_neg h4]
    refine Ev.neg (by rw [ba_size]; omega) (Ev.pos (by decide) (Ev.pos (by rw [ba_size]; omega) ?_))
    rw [ba_take]
    refine Ev.bind (value_ev (l.take 4) (by simp; omega)) ?_
    have hv := val4_lt l
    obtain ⟨n, hn⟩ : ∃ n, val (l.take 4) = n := ⟨_, rfl⟩
    rw [hn] at hv ⊢
    by_cases h1 : 65536 < n
    · rw [if_pos h1]; exact Ev.pos (by omega) (Ev.now _)
    · rw [if_neg h1]; refine Ev.neg (by omega) ?_
      have aux : ∀ x : Bool, x = decide (l.length < n + 6) → Ev (fun k => pack_TakeFrame.j0 k (ba l) (n : Int) x) (tup3' (if l.length < n + 6 then ([], [], 3) else if be 2 (crc (l.take 4 ++ (l.drop 6).take n)) = (l.drop 4).take 2 then ((l.drop 6).take n, l.drop (n + 6), 0) else ([], [], 4))) := by
        rintro x rfl
        by_cases h6 : l.length < n + 6
        · rw [if_pos h6]
          exact Ev.step (f := fun k => some ((⟨#[]⟩ : ByteArray), (⟨#[]⟩ : ByteArray), 3)) (fun k => by rw [pack_TakeFrame.j0, if_pos (by simpa using h6)]) (Ev.now _)
        · rw [if_neg h6]
          have w1 : wrap64 (n : Int) = (n : Int) := wrap64_id (by omega) (by omega)
          have w2 : wrap64 (6 + (n : Int)) = ((n + 6 : Nat) : Int) := by rw [wrap64_id (by omega) (by omega)]; omega
          refine Ev.step (f := fun k => (pack_Frame.f k (ba ((l.drop 6).take n))).bind fun b => (if b.1.toList = l.take (n + 6) then (some (ba ((l.drop 6).take n), ba (l.drop (n + 6)), 0)) else (some ((⟨#[]⟩ : ByteArray), (⟨#[]⟩ : ByteArray), 4)))) (fun k => ?_) ?_
          · rw [pack_TakeFrame.j0, if_neg (by simpa using h6), w1, w2, if_pos (by omega), if_pos (by rw [ba_size]; omega), Int.toNat_natCast, ba_extract, show n + 6 - 6 = n by omega]
            congr 1; funext b
            rw [if_pos (by omega), ba_take, ba_list, ba_size, ba_drop]
          · have hp : ((l.drop 6).take n).length = n := by simp; omega
            refine Ev.bind (Frame_ev _ (by omega)) ?_
            have hF : frameR ((l.drop 6).take n) = (ba (frameL ((l.drop 6).take n)), 0) := by unfold frameR; rw [hp, if_neg (by omega)]
            rw [hF]
            simp only [ba_list]
            have hc := frame_cut l n (by omega) hn (by omega)
            by_cases hq : be 2 (crc (l.take 4 ++ (l.drop 6).take n)) = (l.drop 4).take 2
            · rw [if_pos hq]; exact Ev.pos (hc.mpr hq) (Ev.now _)
            · rw [if_neg hq]; exact Ev.neg (fun h => hq (hc.mp h)) (Ev.now _)
      by_cases h6 : l.length < 6
      · exact Ev.pos (by rw [ba_size]; omega) (aux true (by simp; omega))
      · refine Ev.neg (by rw [ba_size]; omega) ?_
        rw [ba_size, wrap64_id (by omega) (by omega), u64_id (by omega) (by omega)]
        exact aux _ (by rw [decide_eq_decide]; omega)
theorem RTakeFrame_l0 (l : List UInt8) (hl : l.length ≤ 4611686018427387904) (h4 : 4 ≤ l.length) : ∀ d i, i + d = 4 →
    Ev (fun k => gafferref01_TakeFrame.l0 k (ba l) (val (l.take i) : Nat) (i : Int)) (tup3' (takeF l))
  | 0, i, hi => by
    obtain rfl : i = 4 := by omega
    unfold takeF
    rw [if_neg (by omega)]
    have hv := val4_lt l
    obtain ⟨n, hn⟩ : ∃ n, val (l.take 4) = n := ⟨_, rfl⟩
    rw [hn] at hv ⊢
    by_cases h1 : 65536 < n
    · rw [if_pos h1]
      refine Ev.step (f := fun k => some ((⟨#[]⟩ : ByteArray), (⟨#[]⟩ : ByteArray), 2)) (fun k => ?_) (Ev.now _)
      simp only [gafferref01_TakeFrame.l0]; rw [if_neg (by decide), if_pos (by omega)]
    · rw [if_neg h1]
      have w1 : IntKind.u64.wrap ((n : Int) + 6) = ((n + 6 : Nat) : Int) := by rw [u64_id (by omega) (by omega)]; omega
      have w2 : IntKind.u64.wrap ((ba l).size : Int) = (l.length : Int) := by rw [ba_size, u64_id (by omega) (by omega)]
      by_cases h6 : l.length < n + 6
      · rw [if_pos h6]
        refine Ev.step (f := fun k => some ((⟨#[]⟩ : ByteArray), (⟨#[]⟩ : ByteArray), 3)) (fun k => ?_) (Ev.now _)
        simp only [gafferref01_TakeFrame.l0]; rw [if_neg (by decide), if_neg (by omega), w1, w2, if_pos (by omega)]
      · rw [if_neg h6]
        refine Ev.step (f := fun k => (gafferref01_check.f k (ba (l.take 4 ++ (l.drop 6).take n))).bind fun t => (if t.toList = (l.drop 4).take 2 then (some (ba ((l.drop 6).take n), ba (l.drop (n + 6)), 0)) else (some ((⟨#[]⟩ : ByteArray), (⟨#[]⟩ : ByteArray), 4)))) (fun k => ?_) ?_
        · simp only [gafferref01_TakeFrame.l0]
          rw [if_neg (by decide), if_neg (by omega), w1, w2, if_neg (by omega), if_pos (by omega), if_pos (by rw [ba_size]; omega), if_pos (by decide), if_pos (by rw [ba_size]; omega), Int.toNat_natCast, ba_take, ba_extract, show n + 6 - 6 = n by omega,
            if_pos (by rw [ba_size, ba_size]; simp; omega), ba_append]
          congr 1; funext b
          rw [if_pos (by decide), if_pos (by rw [ba_size]; omega), ba_extract, ba_list, ba_size, ba_drop, if_pos (show (0 : Int) ≤ ((n + 6 : Nat) : Int) by omega)]
        · refine Ev.bind (check_ev _ (by simp; omega)) ?_
          simp only [ba_list]
          by_cases hq : be 2 (crc (l.take 4 ++ (l.drop 6).take n)) = (l.drop 4).take 2
          · simp only [if_pos hq]; exact Ev.now _
          · simp only [if_neg hq]; exact Ev.now _
  | d + 1, i, hi => by
    refine Ev.step (f := fun k => gafferref01_TakeFrame.l0 k (ba l) (val (l.take (i + 1)) : Nat) ((i + 1 : Nat) : Int)) (fun k => ?_) (RTakeFrame_l0 l hl h4 d (i + 1) (by omega))
    have hv := val_lt (l.take i)
    have hlt : (l.take i).length = i := by simp; omega
    rw [hlt] at hv
    have h7 : 256 ^ i ≤ 256 ^ 7 := Nat.pow_le_pow_right (by decide) (by omega)
    have hb := u8_lt (l.getD i 0)
    have hs : l.take (i + 1) = l.take i ++ [l.getD i 0] := by
      rw [List.take_succ_eq_append_getElem (by omega), List.getD_eq_getElem?_getD, List.getElem?_eq_getElem (by omega)]; rfl
    simp only [gafferref01_TakeFrame.l0]
    rw [if_pos (by omega), if_pos (by omega), if_pos (by rw [ba_size]; omega), bt_ba, Int.toNat_natCast, wrap64_id (by omega) (by omega),
      u64_id (n := 256 * ((val (l.take i) : Nat) : Int)) (by omega) (by omega), u64_id (n := ((l.getD i 0).toNat : Int)) (by omega) (by omega), u64_id (by omega) (by omega), hs, val_snoc]
    rw [show (256 : Int) * ((val (l.take i) : Nat) : Int) + ((l.getD i 0).toNat : Int) = ((val (l.take i) * 256 + (l.getD i 0).toNat : Nat) : Int) by omega]
    rfl
theorem RTakeFrame_ev (l : List UInt8) (hl : l.length ≤ 4611686018427387904) : Ev (fun k => gafferref01_TakeFrame.f k (ba l)) (tup3' (takeF l)) := by
  unfold gafferref01_TakeFrame.f
  by_cases h4 : l.length < 4
  · have : takeF l = ([], [], 3) := by unfold takeF; rw [if_pos h4]
    rw [this]
    exact Ev.pos (by rw [ba_size]; omega) (Ev.now _)
  · exact Ev.neg (by rw [ba_size]; omega) (RTakeFrame_l0 l hl (by omega) 4 0 (by omega))

end Go.Proofs.Ytcdibodjkdoknaa.Ba
