import Derived.Test.YtcdibodjkdoknaaPMx5
import Derived.Test.YtcdibodjkdoknaaPMx8
import Derived.Test.YtcdibodjkdoknaaPMx9
import Derived.Test.YtcdibodjkdoknaaPMx1
import Derived.Test.YtcdibodjkdoknaaPMx11
import Derived.Test.YtcdibodjkdoknaaBam
namespace Go.Proofs.Ytcdibodjkdoknaa.Ba
open Go.RowKit YtcdibodjkdoknaaW.PrintWords YtcdibodjkdoknaaW.PrintLast YtcdibodjkdoknaaW.PrintMore Ytcdibodjkdoknaa.PM
set_option linter.unusedVariables false

/-! digits -/
def nlF : Nat → Nat → Nat
  | 0, _ => 0
  | f + 1, n => if n = 0 then 0 else nlF f (n / 256) + 1
def nl (n : Nat) : Nat := nlF 8 n
def beN : Nat → Nat → List Nat
  | 0, _ => []
  | k + 1, n => (n / 256 ^ k) % 256 :: beN k n
def be (k n : Nat) : List UInt8 := (beN k n).map UInt8.ofNat
def val (l : List UInt8) : Nat := l.foldl (fun a b => a * 256 + b.toNat) 0
def numL (n : Nat) : List UInt8 := UInt8.ofNat (nl n) :: be (nl n) n
def textL (t : List UInt8) : List UInt8 := numL t.length ++ t

theorem ofNat_toNat (n : Nat) (h : n < 256) : (UInt8.ofNat n).toNat = n := by simp [UInt8.toNat_ofNat']; omega
theorem beN_length : ∀ k n, (beN k n).length = k
  | 0, _ => rfl
  | k + 1, n => by simp [beN, beN_length k n]
theorem be_length (k n : Nat) : (be k n).length = k := by simp [be, beN_length]
theorem foldl_val : ∀ (l : List UInt8) (a : Nat), l.foldl (fun a b => a * 256 + b.toNat) a = a * 256 ^ l.length + val l
  | [], a => by simp [val]
  | b :: l, a => by
    unfold val
    rw [List.foldl_cons, foldl_val l, List.foldl_cons, foldl_val l (0 * 256 + b.toNat), List.length_cons, Nat.pow_succ, Nat.add_mul, Nat.mul_assoc, Nat.mul_comm 256, Nat.zero_mul, Nat.zero_add, Nat.add_assoc]
theorem val_cons (b : UInt8) (l : List UInt8) : val (b :: l) = b.toNat * 256 ^ l.length + val l := by
  have := foldl_val l (0 * 256 + b.toNat)
  rw [Nat.zero_mul, Nat.zero_add] at this
  exact (by unfold val at this ⊢; rw [List.foldl_cons, Nat.zero_mul, Nat.zero_add]; exact this)
theorem val_snoc (l : List UInt8) (b : UInt8) : val (l ++ [b]) = val l * 256 + b.toNat := by unfold val; rw [List.foldl_append]; rfl
theorem val_lt : ∀ l : List UInt8, val l < 256 ^ l.length
  | [] => by simp [val]
  | b :: l => by
    rw [val_cons, List.length_cons, Nat.pow_succ]
    have h1 := val_lt l
    have h2 := u8_lt b
    have h3 : b.toNat * 256 ^ l.length ≤ 255 * 256 ^ l.length := Nat.mul_le_mul_right _ (by omega)
    omega
theorem val_be : ∀ k n, val (be k n) = n % 256 ^ k
  | 0, n => by simp [be, beN, val, Nat.mod_one]
  | k + 1, n => by
    have ih := val_be k n
    show val (UInt8.ofNat ((n / 256 ^ k) % 256) :: be k n) = _
    rw [val_cons, be_length, ih, ofNat_toNat _ (Nat.mod_lt _ (by decide)), Nat.pow_succ, Nat.mod_mul, Nat.mul_comm, Nat.add_comm]
theorem be_val : ∀ l : List UInt8, be l.length (val l) = l
  | [] => rfl
  | b :: l => by
    have ih := be_val l
    have hv := val_lt l
    have hb := u8_lt b
    have hp : 0 < 256 ^ l.length := Nat.pow_pos (by decide)
    show UInt8.ofNat ((val (b :: l) / 256 ^ l.length) % 256) :: be l.length (val (b :: l)) = b :: l
    have e1 : val (b :: l) / 256 ^ l.length = b.toNat := by
      rw [val_cons, Nat.mul_comm, Nat.mul_add_div hp, Nat.div_eq_of_lt hv]; omega
    have e2 : be l.length (val (b :: l)) = be l.length (val l) := by
      rw [val_cons]
      have : ∀ k m a, k ≤ m → be k (a * 256 ^ m + val l) = be k (val l) := by
        intro k
        induction k with
        | zero => intros; rfl
        | succ k ihk =>
          intro m a hk
          show UInt8.ofNat (((a * 256 ^ m + val l) / 256 ^ k) % 256) :: be k (a * 256 ^ m + val l) = UInt8.ofNat ((val l / 256 ^ k) % 256) :: be k (val l)
          rw [ihk m a (by omega)]
          congr 2
          obtain ⟨d, rfl⟩ : ∃ d, m = k + 1 + d := ⟨m - (k + 1), by omega⟩
          rw [Nat.pow_add, Nat.pow_succ, show a * (256 ^ k * 256 * 256 ^ d) = 256 ^ k * (256 * (a * 256 ^ d)) by simp only [Nat.mul_comm, Nat.mul_left_comm, Nat.mul_assoc], Nat.mul_add_div (Nat.pow_pos (by decide))]
          omega
      exact this _ _ _ (Nat.le_refl _)
    rw [e1, e2, ih, Nat.mod_eq_of_lt hb]
    congr 1
    apply UInt8.toNat_inj.mp; rw [ofNat_toNat _ hb]

theorem nlF_bound : ∀ f n, n < 256 ^ f → n < 256 ^ nlF f n
  | 0, n, h => h
  | f + 1, n, h => by
    unfold nlF
    by_cases h0 : n = 0
    · rw [if_pos h0, h0]; decide
    · rw [if_neg h0, Nat.pow_succ]
      have := nlF_bound f (n / 256) (by rw [Nat.pow_succ] at h; omega)
      omega
theorem nlF_le : ∀ f n, nlF f n ≤ f
  | 0, _ => Nat.le_refl _
  | f + 1, n => by
    unfold nlF; split
    · omega
    · have := nlF_le f (n / 256); omega
theorem nlF_low : ∀ f n, n ≠ 0 → n < 256 ^ f → 256 ^ (nlF f n - 1) ≤ n
  | 0, n, h0, h => by rw [Nat.pow_zero] at h; omega
  | f + 1, n, h0, h => by
    unfold nlF; rw [if_neg h0, Nat.add_sub_cancel]
    by_cases h1 : n / 256 = 0
    · have : nlF f (n / 256) = 0 := by rw [h1]; cases f <;> simp [nlF]
      rw [this]; simp; omega
    · have ih := nlF_low f (n / 256) h1 (by rw [Nat.pow_succ] at h; omega)
      have hn : nlF f (n / 256) ≠ 0 := by
        have h3 : n / 256 < 256 ^ f := by rw [Nat.pow_succ] at h; omega
        intro h2
        have := nlF_bound f (n / 256) h3
        rw [h2] at this; simp at this; omega
      obtain ⟨m, hm⟩ : ∃ m, nlF f (n / 256) = m + 1 := ⟨nlF f (n / 256) - 1, by omega⟩
      rw [hm] at ih ⊢
      rw [Nat.pow_succ]; simp at ih; omega
theorem nl_le (n : Nat) : nl n ≤ 8 := nlF_le 8 n
theorem nl_bound (n : Nat) (h : n < 18446744073709551616) : n < 256 ^ nl n := nlF_bound 8 n h
theorem nl_low (n : Nat) (h0 : n ≠ 0) (h : n < 18446744073709551616) : 256 ^ (nl n - 1) ≤ n := nlF_low 8 n h0 h
theorem nl_pos (n : Nat) (h0 : n ≠ 0) : nl n ≠ 0 := by unfold nl nlF; rw [if_neg h0]; omega
theorem nl_zero : nl 0 = 0 := rfl
theorem numL_length (n : Nat) : (numL n).length = nl n + 1 := by simp [numL, be_length]
theorem val_be_nl (n : Nat) (h : n < 18446744073709551616) : val (be (nl n) n) = n := by
  rw [val_be]; exact Nat.mod_eq_of_lt (nl_bound n h)

/-! bits.Len64 -/
theorem tab (i : Int) (h0 : 0 ≤ i) (h1 : i < 256) : bt (⟨#[0, 1, 2, 2, 3, 3, 3, 3, 4, 4, 4, 4, 4, 4, 4, 4, 5, 5, 5, 5, 5, 5, 5, 5, 5, 5, 5, 5, 5, 5, 5, 5, 6, 6, 6, 6, 6, 6, 6, 6, 6, 6, 6, 6, 6, 6, 6, 6, 6, 6, 6, 6, 6, 6, 6, 6, 6, 6, 6, 6, 6, 6, 6, 6, 7, 7, 7, 7, 7, 7, 7, 7, 7, 7, 7, 7, 7, 7, 7, 7, 7, 7, 7, 7, 7, 7, 7, 7, 7, 7, 7, 7, 7, 7, 7, 7, 7, 7, 7, 7, 7, 7, 7, 7, 7, 7, 7, 7, 7, 7, 7, 7, 7, 7, 7, 7, 7, 7, 7, 7, 7, 7, 7, 7, 7, 7, 7, 7, 8, 8, 8, 8, 8, 8, 8, 8, 8, 8, 8, 8, 8, 8, 8, 8, 8, 8, 8, 8, 8, 8, 8, 8, 8, 8, 8, 8, 8, 8, 8, 8, 8, 8, 8, 8, 8, 8, 8, 8, 8, 8, 8, 8, 8, 8, 8, 8, 8, 8, 8, 8, 8, 8, 8, 8, 8, 8, 8, 8, 8, 8, 8, 8, 8, 8, 8, 8, 8, 8, 8, 8, 8, 8, 8, 8, 8, 8, 8, 8, 8, 8, 8, 8, 8, 8, 8, 8, 8, 8, 8, 8, 8, 8, 8, 8, 8, 8, 8, 8, 8, 8, 8, 8, 8, 8, 8, 8, 8, 8, 8, 8, 8, 8, 8, 8, 8, 8, 8, 8, 8, 8, 8, 8, 8, 8, 8, 8]⟩ : ByteArray) i = (Lib.bitLen i.toNat : Int) := by
  have : ∀ n : Fin 256, bt (⟨#[0, 1, 2, 2, 3, 3, 3, 3, 4, 4, 4, 4, 4, 4, 4, 4, 5, 5, 5, 5, 5, 5, 5, 5, 5, 5, 5, 5, 5, 5, 5, 5, 6, 6, 6, 6, 6, 6, 6, 6, 6, 6, 6, 6, 6, 6, 6, 6, 6, 6, 6, 6, 6, 6, 6, 6, 6, 6, 6, 6, 6, 6, 6, 6, 7, 7, 7, 7, 7, 7, 7, 7, 7, 7, 7, 7, 7, 7, 7, 7, 7, 7, 7, 7, 7, 7, 7, 7, 7, 7, 7, 7, 7, 7, 7, 7, 7, 7, 7, 7, 7, 7, 7, 7, 7, 7, 7, 7, 7, 7, 7, 7, 7, 7, 7, 7, 7, 7, 7, 7, 7, 7, 7, 7, 7, 7, 7, 7, 8, 8, 8, 8, 8, 8, 8, 8, 8, 8, 8, 8, 8, 8, 8, 8, 8, 8, 8, 8, 8, 8, 8, 8, 8, 8, 8, 8, 8, 8, 8, 8, 8, 8, 8, 8, 8, 8, 8, 8, 8, 8, 8, 8, 8, 8, 8, 8, 8, 8, 8, 8, 8, 8, 8, 8, 8, 8, 8, 8, 8, 8, 8, 8, 8, 8, 8, 8, 8, 8, 8, 8, 8, 8, 8, 8, 8, 8, 8, 8, 8, 8, 8, 8, 8, 8, 8, 8, 8, 8, 8, 8, 8, 8, 8, 8, 8, 8, 8, 8, 8, 8, 8, 8, 8, 8, 8, 8, 8, 8, 8, 8, 8, 8, 8, 8, 8, 8, 8, 8, 8, 8, 8, 8, 8, 8, 8, 8]⟩ : ByteArray) (n.val : Int) = (Lib.bitLen n.val : Int) := by decide +kernel
  have e := this ⟨i.toNat, by omega⟩
  have e2 : ((i.toNat : Nat) : Int) = i := Int.toNat_of_nonneg h0
  rw [← e2, Int.toNat_natCast]
  exact e
theorem bitLen_64 (x : Nat) (h : x < 18446744073709551616) : Lib.bitLen x ≤ 64 := Lib.bitLen_le x 64 (by decide) h
theorem Len64_ev (a : Nat) (h : a < 18446744073709551616) : Ev (fun k => bits_Len64.f k (a : Int)) (Lib.bitLen a : Int) := by
  refine ⟨1, fun k hk => ?_⟩
  obtain ⟨k, rfl⟩ : ∃ m, k = m + 1 := ⟨k - 1, by omega⟩
  have hs32 := fun h' => Lib.bitLen_shift32 a h' h
  show bits_Len64.f (k + 1) (a : Int) = _
  unfold bits_Len64.f
  have aux : ∀ (x c : Nat), x < 4294967296 → c ≤ 32 → bits_Len64.j0 (k + 1) (x : Int) (c : Int) = some ((c + Lib.bitLen x : Nat) : Int) := by
    intro x c hx hc
    have s16 := fun h' => Lib.bitLen_shift16 x h' (by omega)
    have s8 := fun h' => Lib.bitLen_shift8 x h' (by omega)
    have s8' := fun h' => Lib.bitLen_shift8 (x / 65536) h' (by omega)
    have b0 := Lib.bitLen_le x 32 (by decide) (by omega)
    rw [bits_Len64.j0]
    by_cases h1 : (x : Int) ≥ 65536
    · rw [if_pos h1]
      by_cases h2 : (x : Int) / 65536 ≥ 256
      · rw [if_pos h2, if_pos (by omega), if_pos (by omega), tab _ (by omega) (by omega)]
        have e : ((x : Int) / 65536 / 256 % 256).toNat = x / 65536 / 256 := by omega
        rw [e]
        have := s16 (by omega); have := s8' (by omega)
        simp only [wrap64_id (n := ((c : Int) + 16)) (by omega) (by omega)]
        rw [wrap64_id (n := (Lib.bitLen (x / 65536 / 256) : Int)) (by omega) (by omega), wrap64_id (n := (c : Int) + 16 + 8) (by omega) (by omega), wrap64_id (by omega) (by omega)]
        congr 1; omega
      · rw [if_neg h2, if_pos (by omega), if_pos (by omega), tab _ (by omega) (by omega)]
        have e : ((x : Int) / 65536 % 256).toNat = x / 65536 := by omega
        rw [e]
        have := s16 (by omega)
        rw [wrap64_id (n := (c : Int) + 16) (by omega) (by omega), wrap64_id (n := (Lib.bitLen (x / 65536) : Int)) (by omega) (by omega), wrap64_id (by omega) (by omega)]
        congr 1; omega
    · rw [if_neg h1]
      by_cases h2 : (x : Int) ≥ 256
      · rw [if_pos h2, if_pos (by omega), if_pos (by omega), tab _ (by omega) (by omega)]
        have e : ((x : Int) / 256 % 256).toNat = x / 256 := by omega
        rw [e]
        have := s8 (by omega)
        rw [wrap64_id (n := (c : Int) + 8) (by omega) (by omega), wrap64_id (n := (Lib.bitLen (x / 256) : Int)) (by omega) (by omega), wrap64_id (by omega) (by omega)]
        congr 1; omega
      · rw [if_neg h2, if_pos (by omega), if_pos (by omega), tab _ (by omega) (by omega)]
        have e : ((x : Int) % 256).toNat = x := by omega
        rw [e, wrap64_id (n := (Lib.bitLen x : Int)) (by omega) (by omega), wrap64_id (by omega) (by omega)]
        congr 1
  by_cases h1 : (a : Int) ≥ 4294967296
  · rw [if_pos h1, show (a : Int) / 4294967296 = ((a / 4294967296 : Nat) : Int) by omega, show (32 : Int) = ((32 : Nat) : Int) from rfl, aux _ _ (by omega) (by omega), hs32 (by omega)]
  · rw [if_neg h1, show (0 : Int) = ((0 : Nat) : Int) from rfl, aux _ _ (by omega) (by omega), Nat.zero_add]
theorem bitLen_nl : ∀ f n, f ≤ 8 → n < 256 ^ f → (Lib.bitLen n + 7) / 8 = nlF f n
  | 0, n, _, h => by
    have : n = 0 := by rw [Nat.pow_zero] at h; omega
    subst this; rfl
  | f + 1, n, hf, h => by
    unfold nlF
    have h64 : 256 ^ (f + 1) ≤ 256 ^ 8 := Nat.pow_le_pow_right (by decide) hf
    have hn : n < 18446744073709551616 := Nat.lt_of_lt_of_le h h64
    by_cases h0 : n = 0
    · rw [if_pos h0, h0]; rfl
    · rw [if_neg h0]
      by_cases h1 : 256 ≤ n
      · rw [Lib.bitLen_shift8 n h1 hn]
        have := bitLen_nl f (n / 256) (by omega) (by rw [Nat.pow_succ] at h; omega)
        omega
      · have e : n / 256 = 0 := by omega
        have e2 : nlF f (n / 256) = 0 := by rw [e]; cases f <;> simp [nlF]
        rw [e2]
        have b := Lib.bitLen_le8 ⟨n, by omega⟩
        have b2 := Lib.bitLen_half n h0 hn
        have b' : Lib.bitLen n ≤ 8 := b
        omega

/-! the program's Number -/
def digs (k n i : Nat) : List Int := ((k :: (List.replicate (k - i) 0 ++ beN i n)).map fun x : Nat => (x : Int))
theorem digs_length (k n i : Nat) (h : i ≤ k) : (digs k n i).length = k + 1 := by simp [digs, beN_length]; omega
theorem digs_set (k n i : Nat) (h : i < k) : (digs k n i).set (k - i) (((n / 256 ^ i) % 256 : Nat) : Int) = digs k n (i + 1) := by
  unfold digs
  obtain ⟨d, rfl⟩ : ∃ d, k = i + d + 1 := ⟨k - i - 1, by omega⟩
  rw [show i + d + 1 - i = d + 1 by omega, show i + d + 1 - (i + 1) = d by omega, List.map_cons, List.map_cons, List.set_cons_succ]
  congr 1
  rw [show List.replicate (d + 1) 0 = List.replicate d 0 ++ [0] from List.replicate_succ', List.append_assoc, List.map_append, List.map_append, List.set_append_right _ _ (by simp)]
  simp [beN]
theorem str_digs (k n : Nat) (hk : k < 256) : strOfNums (digs k n k) = ba (UInt8.ofNat k :: be k n) := by
  unfold strOfNums digs ba be
  simp [Function.comp_def]
theorem shr_small' (n i : Nat) (h : i ≤ 8) : shr .u64 (n : Int) (8 * (i : Int)) % 256 = (((n / 256 ^ i) % 256 : Nat) : Int) := by
  unfold shr
  rw [show IntKind.u64.bits = 64 from rfl, show (8 * (i : Int)).toNat = 8 * i by omega, Nat.min_eq_left (by omega)]
  rw [show (2 : Int) ^ (8 * i) = ((256 ^ i : Nat) : Int) by rw [show (256 : Nat) = 2 ^ 8 from rfl, ← Nat.pow_mul]; push_cast; rfl]
  omega
theorem Number_l0 (n k : Nat) (hk : k ≤ 8) : ∀ d i, i + d = k →
    Ev (fun q => pack_Number.l0 q (n : Int) (k : Int) (digs k n i) (k : Int) (i : Int)) (ba (UInt8.ofNat k :: be k n))
  | 0, i, hi => by
    refine Ev.step (f := fun _ => some (ba (UInt8.ofNat k :: be k n))) (fun q => ?_) (Ev.now _)
    simp only [pack_Number.l0]; rw [if_neg (by omega)]
    obtain rfl : i = k := by omega
    rw [str_digs _ _ (by omega)]
  | d + 1, i, hi => by
    refine Ev.step (f := fun q => pack_Number.l0 q (n : Int) (k : Int) (digs k n (i + 1)) (k : Int) ((i + 1 : Nat) : Int)) (fun q => ?_) (Number_l0 n k hk d (i + 1) (by omega))
    have hl := digs_length k n i (by omega)
    simp only [pack_Number.l0]
    rw [if_pos (by omega), wrap64_id (n := 8 * (i : Int)) (by omega) (by omega), if_pos (by omega), wrap64_id (n := (k : Int) - i) (by omega) (by omega), if_pos (by omega), if_pos (by rw [hl]; omega), shr_small' n i (by omega),
      show ((k : Int) - i).toNat = k - i by omega, digs_set k n i (by omega), wrap64_id (by omega) (by omega)]
    rfl
theorem Number_ev (n : Nat) (h : n < 18446744073709551616) : Ev (fun k => pack_Number.f k (n : Int)) (ba (numL n)) := by
  have hb := bitLen_64 n h
  have hn := bitLen_nl 8 n (by decide) h
  have hk : nlF 8 n ≤ 8 := nlF_le 8 n
  refine Ev.bind (Len64_ev n h) ?_
  have e : wrap64 (Int.tdiv (wrap64 ((Lib.bitLen n : Int) + 7)) 8) = ((nlF 8 n : Nat) : Int) := by
    rw [wrap64_id (n := (Lib.bitLen n : Int) + 7) (by omega) (by omega), show (Lib.bitLen n : Int) + 7 = ((Lib.bitLen n + 7 : Nat) : Int) by omega, show (8 : Int) = ((8 : Nat) : Int) from rfl, ← Int.ofNat_tdiv, hn]
    exact wrap64_id (by omega) (by omega)
  rw [e]
  have e2 : wrap64 (((nlF 8 n : Nat) : Int) + 1) = ((nlF 8 n + 1 : Nat) : Int) := wrap64_id (by omega) (by omega)
  rw [e2]
  refine Ev.pos (by omega) (Ev.pos (by omega) ?_)
  refine Ev.bind_const ?_
  refine Ev.pos (by simp) ?_
  have e3 : (List.replicate (((nlF 8 n + 1 : Nat) : Int)).toNat (0 : Int)).set (0 : Int).toNat (((nlF 8 n : Nat) : Int) % 256) = digs (nlF 8 n) n 0 := by
    rw [Int.toNat_natCast, Int.toNat_zero, List.replicate_succ, List.set_cons_zero]
    unfold digs
    simp [beN]
    omega
  rw [e3]
  exact Number_l0 n (nlF 8 n) hk (nlF 8 n) 0 (by omega)

/-! the document's Number -/
theorem RNumber_l0 (N : Nat) (h : N < 18446744073709551616) : ∀ f j q, f + j = 8 → j ≤ nl N → q = N / 256 ^ j → q < 256 ^ f → nlF f q + j = nl N →
    Ev (fun k => gafferref01_Number.l0 k (q : Int) ((beN j N).map fun x : Nat => (x : Int))) (ba (numL N))
  | f, j, q, hf, hj, hq, hb, hn => by
    have h8 := nl_le N
    have hlen : ((beN j N).map fun x : Nat => (x : Int)).length = j := by simp [beN_length]
    have hN : q ≤ N := hq ▸ Nat.div_le_self _ _
    by_cases h0 : q = 0
    · have hj' : j = nl N := by
        rw [h0] at hn
        have : nlF f 0 = 0 := by cases f <;> simp [nlF]
        omega
      refine Ev.step (f := fun _ => some (ba (numL N))) (fun k => ?_) (Ev.now _)
      simp only [gafferref01_Number.l0]
      rw [if_neg (by omega), Option.bind_some, if_pos (by rw [hlen]; simp; omega), hlen]
      congr 1
      subst hj'
      unfold strOfNums numL be ba
      rw [show ((nl N : Nat) : Int) % 256 = ((nl N : Nat) : Int) by omega]
      simp [Function.comp_def]
    · obtain ⟨f, rfl⟩ : ∃ m, f = m + 1 := ⟨f - 1, by
        cases f with
        | zero => rw [Nat.pow_zero] at hb; omega
        | succ f => omega⟩
      have hdiv : q / 256 = N / 256 ^ (j + 1) := by rw [hq, Nat.div_div_eq_div_mul, ← Nat.pow_succ]
      have hn2 : nlF f (q / 256) + 1 + j = nl N := by
        rw [← hn]; conv => rhs; unfold nlF
        rw [if_neg h0]
      refine Ev.step (f := fun k => gafferref01_Number.l0 k ((q / 256 : Nat) : Int) ((beN (j + 1) N).map fun x : Nat => (x : Int))) (fun k => ?_) (RNumber_l0 N h f (j + 1) (q / 256) (by omega) (by omega) hdiv (by rw [Nat.pow_succ] at hb; omega) (by omega))
      simp only [gafferref01_Number.l0]
      rw [if_pos (by omega), Option.bind_some, if_pos (by rw [hlen]; simp; omega)]
      have e1 : Int.tmod (q : Int) 256 % 256 = ((q % 256 : Nat) : Int) := by
        rw [show (256 : Int) = ((256 : Nat) : Int) from rfl, ← Int.ofNat_tmod]; omega
      have e2 : IntKind.u64.wrap (Int.tdiv (q : Int) 256) = ((q / 256 : Nat) : Int) := by
        rw [show (256 : Int) = ((256 : Nat) : Int) from rfl, ← Int.ofNat_tdiv]
        exact u64_id (by omega) (by omega)
      rw [e1, e2, hq]; rfl
termination_by f => f
theorem RNumber_ev (n : Nat) (h : n < 18446744073709551616) : Ev (fun k => gafferref01_Number.f k (n : Int)) (ba (numL n)) := by
  exact RNumber_l0 n h 8 0 n rfl (by omega) (by rw [Nat.pow_zero, Nat.div_one]) h rfl
theorem Text_ev (t : List UInt8) (h : t.length ≤ 140737488351232) : Ev (fun k => pack_Text.f k (ba t)) (ba (textL t)) := by
  have e : IntKind.u64.wrap (((ba t).size : Nat) : Int) = ((t.length : Nat) : Int) := by rw [ba_size]; exact u64_id (by omega) (by omega)
  have h8 := nl_le t.length
  unfold pack_Text.f
  rw [e]
  refine Ev.bind (Number_ev t.length (by omega)) ?_
  refine Ev.pos (by rw [ba_size, ba_size, numL_length]; omega) ?_
  rw [ba_append]; exact Ev.now _
theorem RText_ev (t : List UInt8) (h : t.length ≤ 140737488351232) : Ev (fun k => gafferref01_Text.f k (ba t)) (ba (textL t)) := by
  have e : IntKind.u64.wrap (((ba t).size : Nat) : Int) = ((t.length : Nat) : Int) := by rw [ba_size]; exact u64_id (by omega) (by omega)
  have h8 := nl_le t.length
  unfold gafferref01_Text.f
  rw [e]
  refine Ev.bind (RNumber_ev t.length (by omega)) ?_
  refine Ev.pos (by rw [ba_size, ba_size, numL_length]; omega) ?_
  rw [ba_append]; exact Ev.now _

/-! value and fixed -/
theorem or_add (a b : Nat) (h : b < 256) : (a * 256) ||| b = a * 256 + b := by
  have := Nat.shiftLeft_add_eq_or_of_lt (b := b) (i := 8) (by simpa using h) a
  rw [Nat.shiftLeft_eq] at this
  exact this.symm
theorem value_l0 (l : List UInt8) (h8 : l.length ≤ 8) : ∀ d i, i + d = l.length →
    Ev (fun k => pack_value.l0 k (ba l) (val (l.take i) : Nat) (l.length : Int) (i : Int)) (val l : Nat)
  | 0, i, hi => by
    refine Ev.step (f := fun _ => some ((val l : Nat) : Int)) (fun k => ?_) (Ev.now _)
    simp only [pack_value.l0]; rw [if_neg (by omega), List.take_of_length_le (by omega)]
  | d + 1, i, hi => by
    refine Ev.step (f := fun k => pack_value.l0 k (ba l) (val (l.take (i + 1)) : Nat) (l.length : Int) ((i + 1 : Nat) : Int)) (fun k => ?_) (value_l0 l h8 d (i + 1) (by omega))
    have hv := val_lt (l.take i)
    have hlt : (l.take i).length = i := by simp; omega
    rw [hlt] at hv
    have h7 : 256 ^ i ≤ 256 ^ 7 := Nat.pow_le_pow_right (by decide) (by omega)
    have hb := u8_lt (l.getD i 0)
    simp only [pack_value.l0]
    rw [if_pos (by omega), if_pos (by omega), if_pos (by rw [ba_size]; omega), bt_ba, Int.toNat_natCast, wrap64_id (by omega) (by omega)]
    rw [show IntKind.u64.wrap ((val (l.take i) : Nat) * 256 : Int) = ((val (l.take i) * 256 : Nat) : Int) by rw [u64_id] <;> omega,
      show IntKind.u64.wrap ((l.getD i 0).toNat : Int) = (((l.getD i 0).toNat : Nat) : Int) by rw [u64_id] <;> omega,
      or64 _ _ (by omega) (by omega), or_add _ _ hb]
    have hs : l.take (i + 1) = l.take i ++ [l.getD i 0] := by
      rw [List.take_succ_eq_append_getElem (by omega), List.getD_eq_getElem?_getD, List.getElem?_eq_getElem (by omega)]; rfl
    rw [hs, val_snoc]; rfl
theorem value_ev (l : List UInt8) (h8 : l.length ≤ 8) : Ev (fun k => pack_value.f k (ba l)) (val l : Nat) := by
  unfold pack_value.f
  rw [ba_size]
  exact value_l0 l h8 l.length 0 (by omega)

def digf (k n i : Nat) : List Int := ((List.replicate (k - i) 0 ++ beN i n).map fun x : Nat => (x : Int))
theorem digf_length (k n i : Nat) (h : i ≤ k) : (digf k n i).length = k := by simp [digf, beN_length]; omega
theorem digf_set (k n i : Nat) (h : i < k) : (digf k n i).set (k - 1 - i) (((n / 256 ^ i) % 256 : Nat) : Int) = digf k n (i + 1) := by
  unfold digf
  obtain ⟨d, rfl⟩ : ∃ d, k = i + d + 1 := ⟨k - i - 1, by omega⟩
  rw [show i + d + 1 - i = d + 1 by omega, show i + d + 1 - (i + 1) = d by omega, show i + d + 1 - 1 - i = d by omega]
  rw [show List.replicate (d + 1) 0 = List.replicate d 0 ++ [0] from List.replicate_succ', List.append_assoc, List.map_append, List.map_append, List.set_append_right _ _ (by simp)]
  simp [beN]
theorem fixed_l0 (n k : Nat) (hk : k ≤ 8) : ∀ d i, i + d = k →
    Ev (fun q => pack_fixed.l0 q (n : Int) (k : Int) (digf k n i) (k : Int) (i : Int)) (ba (be k n))
  | 0, i, hi => by
    refine Ev.step (f := fun _ => some (ba (be k n))) (fun q => ?_) (Ev.now _)
    simp only [pack_fixed.l0]; rw [if_neg (by omega)]
    obtain rfl : i = k := by omega
    unfold strOfNums digf ba be
    simp [Function.comp_def]
  | d + 1, i, hi => by
    refine Ev.step (f := fun q => pack_fixed.l0 q (n : Int) (k : Int) (digf k n (i + 1)) (k : Int) ((i + 1 : Nat) : Int)) (fun q => ?_) (fixed_l0 n k hk d (i + 1) (by omega))
    have hl := digf_length k n i (by omega)
    simp only [pack_fixed.l0]
    rw [if_pos (by omega), wrap64_id (n := 8 * (i : Int)) (by omega) (by omega), if_pos (by omega), wrap64_id (n := (k : Int) - 1) (by omega) (by omega), wrap64_id (n := (k : Int) - 1 - i) (by omega) (by omega), if_pos (by omega), if_pos (by rw [hl]; omega), shr_small' n i (by omega),
      show ((k : Int) - 1 - i).toNat = k - 1 - i by omega, digf_set k n i (by omega), wrap64_id (by omega) (by omega)]
    rfl
theorem fixed_ev (n k : Nat) (hk : k ≤ 8) : Ev (fun q => pack_fixed.f q (n : Int) (k : Int)) (ba (be k n)) := by
  unfold pack_fixed.f
  refine Ev.pos (by omega) (Ev.pos (by omega) (Ev.bind_const ?_))
  have e : List.replicate ((k : Nat) : Int).toNat (0 : Int) = digf k n 0 := by
    unfold digf; rw [Int.toNat_natCast]; simp [beN]
  rw [e, digf_length k n 0 (by omega)]
  exact fixed_l0 n k hk k 0 (by omega)
end Go.Proofs.Ytcdibodjkdoknaa.Ba
