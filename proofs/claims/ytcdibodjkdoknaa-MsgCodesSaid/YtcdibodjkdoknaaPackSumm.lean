import Derived.Test.YtcdibodjkdoknaaPMx1
import Derived.Test.YtcdibodjkdoknaaPMx8
import Derived.Test.YtcdibodjkdoknaaBam
namespace Go.Proofs.Ytcdibodjkdoknaa.Ba
open Go.RowKit YtcdibodjkdoknaaW.PrintWords YtcdibodjkdoknaaW.PrintLast YtcdibodjkdoknaaW.PrintMore Ytcdibodjkdoknaa.PM
set_option linter.unusedVariables false

def step (c : Nat) : Nat := ((c * 2) % 65536) ^^^ (4129 * (c / 32768))
def steps : Nat → Nat → Nat
  | 0, c => c
  | n + 1, c => steps n (step c)
def byteS (c : Nat) (b : UInt8) : Nat := steps 8 (c ^^^ (b.toNat * 256))
def crcFrom (c : Nat) (l : List UInt8) : Nat := l.foldl byteS c
def crc (l : List UInt8) : Nat := crcFrom 65535 l

theorem step_lt (c : Nat) (h : c < 65536) : step c < 65536 :=
  Nat.xor_lt_two_pow (n := 16) (Nat.mod_lt _ (by decide)) (by omega)
theorem steps_lt : ∀ (n c : Nat), c < 65536 → steps n c < 65536
  | 0, _, h => h
  | n + 1, c, h => steps_lt n _ (step_lt c h)
theorem byteS_lt (c : Nat) (b : UInt8) (h : c < 65536) : byteS c b < 65536 :=
  steps_lt 8 _ (Nat.xor_lt_two_pow (n := 16) h (by have := u8_lt b; omega))
theorem crcFrom_lt : ∀ (l : List UInt8) (c : Nat), c < 65536 → crcFrom c l < 65536
  | [], _, h => h
  | b :: l, c, h => crcFrom_lt l _ (byteS_lt c b h)
theorem crc_lt (l : List UInt8) : crc l < 65536 := crcFrom_lt l _ (by decide)

theorem Sum_l1 (s : ByteArray) (x4 : Int) (r : Int) : ∀ (d : Nat) (j : Int) (c : Nat), 0 ≤ j → j + d = 8 → c < 65536 →
    Ev (fun k => pack_Sum.l0 k s (steps d c : Nat) (wrap64 (x4 + 1))) r → Ev (fun k => pack_Sum.l1 k s (c : Int) x4 j) r
  | 0, j, c, h0, hj, hc, h => by
    refine Ev.step (f := fun k => pack_Sum.l0 k s (c : Int) (wrap64 (x4 + 1))) (fun k => ?_) h
    simp only [pack_Sum.l1]; rw [if_neg (by omega)]
  | d + 1, j, c, h0, hj, hc, h => by
    refine Ev.step (f := fun k => pack_Sum.l1 k s (step c : Nat) x4 (j + 1)) (fun k => ?_) (Sum_l1 s x4 r d (j + 1) (step c) (by omega) (by omega) (step_lt c hc) h)
    simp only [pack_Sum.l1]; rw [if_pos (by omega), wrap64_id (by omega) (by omega)]
    have e1 : IntKind.u16.wrap ((c : Int) * 2) = (((c * 2) % 65536 : Nat) : Int) := by rw [u16_mod]; omega
    have e2 : IntKind.u16.wrap (4129 * ((c : Int) / 32768)) = ((4129 * (c / 32768) : Nat) : Int) := by rw [u16_mod]; omega
    rw [e1, e2, xor16 _ _ (Nat.mod_lt _ (by decide)) (by omega)]; rfl

theorem Sum_l0 (l : List UInt8) (hl : l.length ≤ 9223372036854775806) : ∀ (d i c : Nat), i + d = l.length → c < 65536 →
    Ev (fun k => pack_Sum.l0 k (ba l) (c : Int) (i : Int)) (crcFrom c (l.drop i) : Nat)
  | 0, i, c, hi, hc => by
    refine Ev.step (f := fun _ => some ((crcFrom c (l.drop i) : Nat) : Int)) (fun k => ?_) (Ev.now _)
    simp only [pack_Sum.l0]; rw [if_pos (by rw [ba_size]; omega), List.drop_of_length_le (by omega)]; rfl
  | d + 1, i, c, hi, hc => by
    have hb := u8_lt (l.getD i 0)
    have hd : l.drop i = l.getD i 0 :: l.drop (i + 1) := by
      rw [List.drop_eq_getElem_cons (by omega), List.getD_eq_getElem?_getD, List.getElem?_eq_getElem (by omega)]; rfl
    have hx : c ^^^ ((l.getD i 0).toNat * 256) < 65536 := Nat.xor_lt_two_pow (n := 16) hc (by omega)
    refine Ev.step (f := fun k => pack_Sum.l1 k (ba l) ((c ^^^ ((l.getD i 0).toNat * 256) : Nat) : Int) i 0) (fun k => ?_) (Sum_l1 (ba l) i _ 8 0 _ (by omega) (by omega) hx ?_)
    · simp only [pack_Sum.l0]; rw [if_neg (by rw [ba_size]; omega), if_pos (by omega), if_pos (by rw [ba_size]; omega), bt_ba]
      have e1 : IntKind.u16.wrap (IntKind.u16.wrap ((l.getD (i : Int).toNat 0).toNat : Int) * 256) = (((l.getD i 0).toNat * 256 : Nat) : Int) := by
        rw [u16_mod, u16_mod, Int.toNat_natCast]; omega
      rw [e1, xor16 _ _ hc (by omega)]
    · rw [wrap64_id (by omega) (by omega), hd]
      exact Sum_l0 l hl d (i + 1) _ (by omega) (byteS_lt c _ hc)

theorem Sum_ev (l : List UInt8) (hl : l.length ≤ 9223372036854775806) : Ev (fun k => pack_Sum.f k (ba l)) (crc l : Nat) :=
  Sum_l0 l hl l.length 0 65535 (by omega) (by decide)

theorem stepR_eq (c : Nat) (h : c < 65536) : (if c * 2 ≥ 65536 then (c * 2 - 65536) ^^^ 4129 else c * 2) = step c := by
  unfold step
  by_cases h2 : c * 2 ≥ 65536
  · rw [if_pos h2, show (c * 2) % 65536 = c * 2 - 65536 by omega, show c / 32768 = 1 by omega]
  · rw [if_neg h2, show (c * 2) % 65536 = c * 2 by omega, show c / 32768 = 0 by omega]; simp

theorem RSum_l1 (s : ByteArray) (x4 : Int) (r : Int) : ∀ (d : Nat) (j : Int) (c : Nat), 0 ≤ j → j + d = 8 → c < 65536 →
    Ev (fun k => gafferref01_Sum.l0 k s (steps d c : Nat) (wrap64 (x4 + 1))) r → Ev (fun k => gafferref01_Sum.l1 k s (c : Int) x4 j) r
  | 0, j, c, h0, hj, hc, h => by
    refine Ev.step (f := fun k => gafferref01_Sum.l0 k s (c : Int) (wrap64 (x4 + 1))) (fun k => ?_) h
    simp only [gafferref01_Sum.l1]; rw [if_neg (by omega)]
  | d + 1, j, c, h0, hj, hc, h => by
    refine Ev.step (f := fun k => gafferref01_Sum.l1 k s (step c : Nat) x4 (j + 1)) (fun k => ?_) (RSum_l1 s x4 r d (j + 1) (step c) (by omega) (by omega) (step_lt c hc) h)
    simp only [gafferref01_Sum.l1]; rw [if_pos (by omega), wrap64_id (by omega) (by omega), ← stepR_eq c hc]
    by_cases h2 : c * 2 ≥ 65536
    · rw [if_pos (by omega), if_pos h2]
      have e1 : (((c : Int) * 2) % 4294967296 - 65536) % 4294967296 = ((c * 2 - 65536 : Nat) : Int) := by omega
      rw [e1, show (4129 : Int) = ((4129 : Nat) : Int) from rfl, xor32 _ _ (by omega) (by decide)]
    · rw [if_neg (by omega), if_neg h2, show ((c : Int) * 2) % 4294967296 = ((c * 2 : Nat) : Int) by omega]

theorem RSum_l0 (l : List UInt8) (hl : l.length ≤ 9223372036854775806) : ∀ (d i c : Nat), i + d = l.length → c < 65536 →
    Ev (fun k => gafferref01_Sum.l0 k (ba l) (c : Int) (i : Int)) (crcFrom c (l.drop i) : Nat)
  | 0, i, c, hi, hc => by
    refine Ev.step (f := fun _ => some ((crcFrom c (l.drop i) : Nat) : Int)) (fun k => ?_) (Ev.now _)
    simp only [gafferref01_Sum.l0]; rw [if_neg (by rw [ba_size]; omega), List.drop_of_length_le (by omega), u16_mod]
    have : (c : Int) % 65536 = c := by omega
    rw [this]; rfl
  | d + 1, i, c, hi, hc => by
    have hb := u8_lt (l.getD i 0)
    have hd : l.drop i = l.getD i 0 :: l.drop (i + 1) := by
      rw [List.drop_eq_getElem_cons (by omega), List.getD_eq_getElem?_getD, List.getElem?_eq_getElem (by omega)]; rfl
    have hx : c ^^^ ((l.getD i 0).toNat * 256) < 65536 := Nat.xor_lt_two_pow (n := 16) hc (by omega)
    refine Ev.step (f := fun k => gafferref01_Sum.l1 k (ba l) ((c ^^^ ((l.getD i 0).toNat * 256) : Nat) : Int) i 0) (fun k => ?_) (RSum_l1 (ba l) i _ 8 0 _ (by omega) (by omega) hx ?_)
    · simp only [gafferref01_Sum.l0]; rw [if_pos (by rw [ba_size]; omega), if_pos (by omega), bt_ba]
      have e1 : (((l.getD (i : Int).toNat 0).toNat : Int) % 4294967296 * 256) % 4294967296 = (((l.getD i 0).toNat * 256 : Nat) : Int) := by
        rw [Int.toNat_natCast]; omega
      rw [e1, xor32 _ _ (by omega) (by omega)]
    · rw [wrap64_id (by omega) (by omega), hd]
      exact RSum_l0 l hl d (i + 1) _ (by omega) (byteS_lt c _ hc)

theorem RSum_ev (l : List UInt8) (hl : l.length ≤ 9223372036854775806) : Ev (fun k => gafferref01_Sum.f k (ba l)) (crc l : Nat) :=
  RSum_l0 l hl l.length 0 65535 (by omega) (by decide)
end Go.Proofs.Ytcdibodjkdoknaa.Ba
