/- Plain laws, joined. -/
import Derived.Test.YtpigjmjbfpipnaaWAll
import Derived.Lib.BitFns
import Derived.Test.YtpigjmjbfpipnaaPFx0
import Derived.Test.YtpigjmjbfpipnaaSh
import Derived.Test.YtpigjmjbfpipnaaPFx9
import Derived.Test.YtpigjmjbfpipnaaPFx15
import Derived.Test.YtpigjmjbfpipnaaPFx3
import Derived.Test.YtpigjmjbfpipnaaPFx21
import Derived.Test.YtpigjmjbfpipnaaPFx22
import Derived.Test.YtpigjmjbfpipnaaPFx4
namespace Go.Proofs.Ytpigjmjbfpipnaa.Ba
set_option linter.unusedVariables false
open Go.RowKit YtpigjmjbfpipnaaW.PrintWords YtpigjmjbfpipnaaW.PrintLast YtpigjmjbfpipnaaW.PrintMore
def ba (l : List UInt8) : ByteArray := ⟨l.toArray⟩
theorem ba_data (s : ByteArray) : ba s.data.toList = s := by unfold ba; rfl
theorem exists_ba (s : ByteArray) : ∃ l, s = ba l ∧ l.length = s.size := ⟨s.data.toList, (ba_data s).symm, rfl⟩
theorem ba_size (l : List UInt8) : (ba l).size = l.length := by simp [ba, ByteArray.size]
theorem ba_list (l : List UInt8) : (ba l).toList = l := by rw [ByteArray.toList_eq]; simp [ba]
theorem ba_append (l m : List UInt8) : ba l ++ ba m = ba (l ++ m) := by
  apply ByteArray.ext
  simp [ba, ByteArray.data_append]
theorem ba_nil : (⟨#[]⟩ : ByteArray) = ba [] := rfl
theorem ba_extract (l : List UInt8) (a b : Nat) : (ba l).extract a b = ba ((l.drop a).take (b - a)) := by
  apply ByteArray.ext
  rw [ByteArray.data_extract]
  simp [ba, List.extract_eq_take_drop]
theorem ba_drop (l : List UInt8) (a : Nat) : (ba l).extract a l.length = ba (l.drop a) := by
  rw [ba_extract, List.take_of_length_le (by simp)]
theorem ba_take (l : List UInt8) (b : Nat) : (ba l).extract 0 b = ba (l.take b) := by rw [ba_extract]; simp
theorem bt_ba (l : List UInt8) (i : Int) : bt (ba l) i = ((l.getD i.toNat 0).toNat : Int) := by
  unfold bt
  by_cases h : i.toNat < l.length
  · rw [dif_pos (by rw [ba_size]; exact h)]
    simp only [List.getD_eq_getElem?_getD, List.getElem?_eq_getElem h, Option.getD_some]
    congr 2
  · rw [dif_neg (by rw [ba_size]; exact h)]
    simp [List.getD_eq_getElem?_getD, List.getElem?_eq_none (by omega : l.length ≤ i.toNat)]
theorem u8_lt (b : UInt8) : b.toNat < 256 := b.toNat_lt

/-! numbers of a fixed width -/
theorem wrap64_id {n : Int} (h0 : -9223372036854775808 ≤ n) (h1 : n < 9223372036854775808) : wrap64 n = n := by unfold wrap64; omega
theorem u64_id {n : Int} (h0 : 0 ≤ n) (h1 : n < 18446744073709551616) : IntKind.u64.wrap n = n := by
  have : IntKind.u64.wrap n = n % 18446744073709551616 := by simp [IntKind.wrap, IntKind.bits, IntKind.signed]
  rw [this]; omega
theorem u64_mod (n : Int) : IntKind.u64.wrap n = n % 18446744073709551616 := by simp [IntKind.wrap, IntKind.bits, IntKind.signed]
theorem u16_mod (n : Int) : IntKind.u16.wrap n = n % 65536 := by simp [IntKind.wrap, IntKind.bits, IntKind.signed]
theorem u32_mod (n : Int) : IntKind.u32.wrap n = n % 4294967296 := by simp [IntKind.wrap, IntKind.bits, IntKind.signed]
theorem xor16 (a b : Nat) (ha : a < 65536) (hb : b < 65536) : Go.bits .xor .u16 (a : Int) (b : Int) = ((a ^^^ b : Nat) : Int) := by
  have h : a ^^^ b < 65536 := Nat.xor_lt_two_pow (n := 16) ha hb
  show IntKind.u16.wrap (((BitVec.ofInt 16 (a : Int) ^^^ BitVec.ofInt 16 (b : Int)).toNat : Nat) : Int) = _
  rw [u16_mod, BitVec.toNat_xor, BitVec.toNat_ofInt, BitVec.toNat_ofInt]
  rw [show ((a : Int) % ((2 ^ 16 : Nat) : Int)).toNat = a by omega, show ((b : Int) % ((2 ^ 16 : Nat) : Int)).toNat = b by omega]
  omega
theorem xor32 (a b : Nat) (ha : a < 4294967296) (hb : b < 4294967296) : Go.bits .xor .u32 (a : Int) (b : Int) = ((a ^^^ b : Nat) : Int) := by
  have h : a ^^^ b < 4294967296 := Nat.xor_lt_two_pow (n := 32) ha hb
  show IntKind.u32.wrap (((BitVec.ofInt 32 (a : Int) ^^^ BitVec.ofInt 32 (b : Int)).toNat : Nat) : Int) = _
  rw [u32_mod, BitVec.toNat_xor, BitVec.toNat_ofInt, BitVec.toNat_ofInt]
  rw [show ((a : Int) % ((2 ^ 32 : Nat) : Int)).toNat = a by omega, show ((b : Int) % ((2 ^ 32 : Nat) : Int)).toNat = b by omega]
  omega
theorem or64 (a b : Nat) (ha : a < 18446744073709551616) (hb : b < 18446744073709551616) : Go.bits .or .u64 (a : Int) (b : Int) = ((a ||| b : Nat) : Int) := by
  have h : a ||| b < 18446744073709551616 := Nat.or_lt_two_pow (n := 64) ha hb
  show IntKind.u64.wrap (((BitVec.ofInt 64 (a : Int) ||| BitVec.ofInt 64 (b : Int)).toNat : Nat) : Int) = _
  rw [u64_mod, BitVec.toNat_or, BitVec.toNat_ofInt, BitVec.toNat_ofInt]
  rw [show ((a : Int) % ((2 ^ 64 : Nat) : Int)).toNat = a by omega, show ((b : Int) % ((2 ^ 64 : Nat) : Int)).toNat = b by omega]
  omega

/-! rounds -/
theorem Ev.bind_const {α β : Type} {x : α} {f : Nat → α → Option β} {r : β} (k : Ev (fun n => f n x) r) : Ev (fun n => (some x).bind (f n)) r := by
  simpa using k
theorem Ev.ite {α : Type} {c : Prop} [Decidable c] {f g : Nat → Option α} {r : α} (h1 : c → Ev f r) (h2 : ¬ c → Ev g r) : Ev (fun k => if c then f k else g k) r := by
  by_cases h : c
  · exact Ev.congr (fun k => if_pos h) (h1 h)
  · exact Ev.congr (fun k => if_neg h) (h2 h)
theorem Ev.pos {α : Type} {c : Prop} [Decidable c] {f g : Nat → Option α} {r : α} (h : c) (h1 : Ev f r) : Ev (fun k => if c then f k else g k) r := Ev.congr (fun k => if_pos h) h1
theorem Ev.neg {α : Type} {c : Prop} [Decidable c] {f g : Nat → Option α} {r : α} (h : ¬ c) (h1 : Ev g r) : Ev (fun k => if c then f k else g k) r := Ev.congr (fun k => if_neg h) h1
end Go.Proofs.Ytpigjmjbfpipnaa.Ba
namespace Go.Proofs.Ytpigjmjbfpipnaa.Dk
open Go.RowKit YtpigjmjbfpipnaaW.PrintWords YtpigjmjbfpipnaaW.PrintLast YtpigjmjbfpipnaaW.PrintMore Ytpigjmjbfpipnaa.PF Ba Sh
set_option linter.unusedVariables false
attribute [local instance 10] Classical.propDecidable
def blt (a b : List UInt8) : Prop := Op.bytesLess a b = true
instance (a b : List UInt8) : Decidable (blt a b) := inferInstanceAs (Decidable (_ = true))
theorem blt_irrefl (a : List UInt8) : ¬ blt a a := by
  have h := bytes_total a a
  unfold blt
  cases hx : Op.bytesLess a a with
  | false => simp
  | true => rw [hx] at h; simp at h
theorem blt_asymm {a b : List UInt8} (h : blt a b) : ¬ blt b a := by
  have h2 := bytes_total a b
  unfold blt at *
  rw [h] at h2
  simpa using h2.symm
theorem blt_tri {a b : List UInt8} (h : ¬ blt a b) (hne : a ≠ b) : blt b a := by
  have h2 := bytes_total a b
  unfold blt at *
  rw [Bool.not_eq_true] at h
  rw [h] at h2
  have : (a == b) = false := by simpa using hne
  rw [this] at h2
  simpa using h2.symm
theorem blt_cons (x y : UInt8) (a b : List UInt8) : blt (x :: a) (y :: b) ↔ x.toNat < y.toNat ∨ (x.toNat = y.toNat ∧ blt a b) := by
  have hxy : x = y ↔ x.toNat = y.toNat := ⟨fun h => by rw [h], fun h => UInt8.toNat_inj.mp h⟩
  unfold blt
  simp only [Op.bytesLess, Bool.or_eq_true, Bool.and_eq_true, beq_iff_eq, decide_eq_true_eq, hxy]
  exact Iff.rfl
theorem blt_trans : ∀ {a b c : List UInt8}, blt a b → blt b c → blt a c
  | a, [], c, h, k => by cases a <;> simp [blt, Op.bytesLess] at h
  | a, y :: b, [], h, k => by simp [blt, Op.bytesLess] at k
  | [], y :: b, z :: c, h, k => by simp [blt, Op.bytesLess]
  | x :: a, y :: b, z :: c, h, k => by
    rw [blt_cons] at *
    rcases h with h | ⟨h, h2⟩ <;> rcases k with k | ⟨k, k2⟩
    · exact .inl (by omega)
    · exact .inl (by omega)
    · exact .inl (by omega)
    · exact .inr ⟨by omega, blt_trans h2 k2⟩
def nm (x : S71) : List UInt8 := x.f0.toList
def Ok1 (x : S71) : Prop := 0 ≤ x.f2 ∧ x.f2 ≤ (x.f1.size : Int)
instance (x : S71) : Decidable (Ok1 x) := inferInstanceAs (Decidable (_ ∧ _))
def stepOk (l : List S71) (j : Nat) : Prop := (j = 0 ∨ blt (nm (l.getD (j - 1) z71)) (nm (l.getD j z71))) ∧ Ok1 (l.getD j z71)
instance (l : List S71) (j : Nat) : Decidable (stepOk l j) := inferInstanceAs (Decidable (_ ∧ _))
def Good (l : List S71) : Prop := (∀ j, j < l.length → stepOk l j) ∧ l.length ≤ 4096
noncomputable def res (p : Prop) : Int := if p then 0 else 10
theorem res_pos {p : Prop} (h : p) : res p = 0 := if_pos h
theorem res_neg {p : Prop} (h : ¬ p) : res p = 10 := if_neg h
theorem rd_nat (l : List S71) (j : Nat) : rd_T71 l (j : Int) = l.getD j z71 := rfl
theorem wrap_sub1 {j : Nat} (h : 0 < j) (hb : j < 4611686018427387904) : wrap64 ((j : Int) - 1) = ((j - 1 : Nat) : Int) := by rw [wrap64_id (by omega) (by omega)]; omega
theorem wrap_add1 {j : Nat} (hb : j < 4611686018427387904) : wrap64 ((j : Int) + 1) = ((j + 1 : Nat) : Int) := by rw [wrap64_id (by omega) (by omega)]; omega
theorem getD_lt {l : List S71} {j : Nat} (h : j < l.length) : l.getD j z71 = l[j] := by rw [List.getD_eq_getElem?_getD, List.getElem?_eq_getElem h]; rfl
def Rise (l : List S71) : Prop := l.Pairwise (fun a b => blt (nm a) (nm b))
theorem Good.rise {l : List S71} (h : Good l) : Rise l := by
  have key : ∀ (d i : Nat), i + d + 1 < l.length → blt (nm (l.getD i z71)) (nm (l.getD (i + d + 1) z71)) := by
    intro d
    induction d with
    | zero => intro i hi; exact ((h.1 (i + 1) hi).1.resolve_left (by omega))
    | succ d ih =>
      intro i hi
      refine blt_trans (ih i (by omega)) ?_
      have := ((h.1 (i + (d + 1) + 1) hi).1.resolve_left (by omega))
      exact this
  refine List.pairwise_iff_getElem.2 (fun i j hi hj hij => ?_)
  have := key (j - i - 1) i (by omega)
  rw [show i + (j - i - 1) + 1 = j by omega, getD_lt hi, getD_lt hj] at this
  exact this
theorem Good.ok {l : List S71} (h : Good l) : ∀ x ∈ l, Ok1 x := by
  intro x hx
  obtain ⟨j, hj, rfl⟩ := List.getElem_of_mem hx
  have := (h.1 j hj).2
  rwa [getD_lt hj] at this
inductive Parts (n : List UInt8) : List S71 → Prop
  | none (A B : List S71) (ha : ∀ x ∈ A, blt (nm x) n) (hb : ∀ x ∈ B, blt n (nm x)) : Parts n (A ++ B)
  | some (A : List S71) (f : S71) (B : List S71) (ha : ∀ x ∈ A, blt (nm x) n) (hf : nm f = n) (hb : ∀ x ∈ B, blt n (nm x)) : Parts n (A ++ f :: B)
theorem parts (n : List UInt8) : ∀ {l : List S71}, Rise l → Parts n l
  | [], _ => Parts.none [] [] (by simp) (by simp)
  | x :: l, h => by
    obtain ⟨h1, h2⟩ := List.pairwise_cons.1 h
    by_cases hx : blt (nm x) n
    · have := parts n h2
      cases this with
      | none A B ha hb => exact Parts.none (x :: A) B (by intro y hy; exact (List.mem_cons.1 hy).elim (fun e => by rw [e]; exact hx) (fun hy => ha y hy)) hb
      | some A f B ha hf hb => exact Parts.some (x :: A) f B (by intro y hy; exact (List.mem_cons.1 hy).elim (fun e => by rw [e]; exact hx) (fun hy => ha y hy)) hf hb
    · by_cases he : nm x = n
      · exact Parts.some [] x l (by simp) he (fun y hy => he ▸ h1 y hy)
      · have hn := blt_tri hx he
        exact Parts.none [] (x :: l) (by simp) (by intro y hy; exact (List.mem_cons.1 hy).elim (fun e => by rw [e]; exact hn) (fun hy => blt_trans hn (h1 y hy)))
theorem getD_left {A B : List S71} {i : Nat} (h : i < A.length) : (A ++ B).getD i z71 = A.getD i z71 := by
  simp only [List.getD_eq_getElem?_getD]
  rw [List.getElem?_append_left h]
theorem getD_right {A B : List S71} {i : Nat} (h : A.length ≤ i) : (A ++ B).getD i z71 = B.getD (i - A.length) z71 := by
  simp only [List.getD_eq_getElem?_getD]
  rw [List.getElem?_append_right h]
theorem getD_mem {A : List S71} {i : Nat} (h : i < A.length) : A.getD i z71 ∈ A := by rw [getD_lt h]; exact List.getElem_mem _
abbrev R4 := List S71 × Bool × Int × Int
def dec (f : Int) : Int := if f > 0 then f - 1 else f
noncomputable def opR (why : Int) (l l0 l1 : List S71) (d : Bool) (f : Int) : R4 :=
  if ¬ Good l then ([], false, 0, 10) else if d = true then (l, d, f, 8) else if ¬ why = 0 then (l, d, f, why) else if f = 0 then (l0, true, f, 8) else (l1, d, dec f, 0)
def named (a : ByteArray) : Prop := a.toList ≠ [] ∧ a.size ≤ 32
noncomputable def withL (g : S71) : Bool → List S71 → List S71
  | put, [] => if put = true then [] else [g]
  | put, x :: r => if put = false ∧ ¬ blt (nm x) (nm g) then (if nm x = nm g then g :: withL g true r else g :: x :: withL g true r) else (if nm x = nm g then withL g put r else x :: withL g put r)
theorem withL_len (g : S71) : ∀ (put : Bool) (r : List S71), (withL g put r).length ≤ r.length + 1
  | put, [] => by unfold withL; split <;> simp
  | put, x :: r => by
    have h1 := withL_len' g r
    have h2 := withL_len g put r
    unfold withL
    split <;> split <;> simp only [List.length_cons] <;> omega
where withL_len' (g : S71) : ∀ (r : List S71), (withL g true r).length ≤ r.length
  | [] => by simp [withL]
  | x :: r => by
    have := withL_len' g r
    unfold withL
    rw [if_neg (fun h => by cases h.1)]
    split <;> simp only [List.length_cons] <;> omega
theorem withL_less (g : S71) (R : List S71) : ∀ (A : List S71), (∀ x ∈ A, blt (nm x) (nm g)) → withL g false (A ++ R) = A ++ withL g false R
  | [], _ => rfl
  | x :: A, h => by
    have hx := h x List.mem_cons_self
    rw [List.cons_append, withL, if_neg (fun h => h.2 hx), if_neg (fun e => by rw [e] at hx; exact blt_irrefl _ hx), withL_less g R A (fun y hy => h y (List.mem_cons_of_mem _ hy))]
    rfl
theorem withL_true (g : S71) : ∀ (B : List S71), (∀ x ∈ B, blt (nm g) (nm x)) → withL g true B = B
  | [], _ => by simp [withL]
  | x :: B, h => by
    have hx := h x List.mem_cons_self
    rw [withL, if_neg (fun h => by cases h.1), if_neg (fun e => by rw [e] at hx; exact blt_irrefl _ hx), withL_true g B (fun y hy => h y (List.mem_cons_of_mem _ hy))]
theorem withL_none (g : S71) (A B : List S71) (ha : ∀ x ∈ A, blt (nm x) (nm g)) (hb : ∀ x ∈ B, blt (nm g) (nm x)) : withL g false (A ++ B) = A ++ g :: B := by
  rw [withL_less g B A ha]
  congr 1
  cases B with
  | nil => simp [withL]
  | cons x B =>
    have hx := hb x List.mem_cons_self
    rw [withL, if_pos ⟨rfl, blt_asymm hx⟩, if_neg (fun e => by rw [e] at hx; exact blt_irrefl _ hx), withL_true g B (fun y hy => hb y (List.mem_cons_of_mem _ hy))]
theorem withL_some (g o : S71) (A B : List S71) (ha : ∀ x ∈ A, blt (nm x) (nm g)) (ho : nm o = nm g) (hb : ∀ x ∈ B, blt (nm g) (nm x)) : withL g false (A ++ o :: B) = A ++ g :: B := by
  rw [withL_less g _ A ha]
  congr 1
  rw [withL, if_pos ⟨rfl, by rw [ho]; exact blt_irrefl _⟩, if_pos ho, withL_true g B hb]
theorem set_mid (A : List S71) (g x : S71) (B : List S71) : (A ++ g :: B).set A.length x = A ++ x :: B := by
  rw [List.set_append_right _ _ (Nat.le_refl _), Nat.sub_self]; rfl
theorem getD_mid (A : List S71) (g : S71) (B : List S71) : (A ++ g :: B).getD A.length z71 = g := by
  rw [getD_right (Nat.le_refl _), Nat.sub_self]; rfl
inductive At (n : List UInt8) (l : List S71) : Option (List S71 × Option S71 × List S71) → Prop
  | bad (h : ¬ Good l) : At n l none
  | none (A B : List S71) (hg : Good l) (e : l = A ++ B) (ha : ∀ x ∈ A, blt (nm x) n) (hb : ∀ x ∈ B, blt n (nm x)) : At n l (some (A, none, B))
  | some (A : List S71) (g : S71) (B : List S71) (hg : Good l) (e : l = A ++ g :: B) (ha : ∀ x ∈ A, blt (nm x) n) (hn : nm g = n) (hb : ∀ x ∈ B, blt n (nm x)) : At n l (some (A, some g, B))
theorem at_of (n : List UInt8) (l : List S71) : ∃ o, At n l o := by
  by_cases hg : Good l
  · have h := parts n hg.rise
    generalize hl : l = q at h
    cases h with
    | none A B ha hb => exact ⟨_, At.none A B (hl ▸ hg) rfl ha hb⟩
    | some A g B ha hn hb => exact ⟨_, At.some A g B (hl ▸ hg) rfl ha hn hb⟩
  · exact ⟨_, At.bad hg⟩
noncomputable def outcome (l : List S71) (d : Bool) (f : Int) (x : Int × List S71 × List S71) : R4 := opR x.1 l x.2.1 x.2.2 d f
theorem opR_bad {l : List S71} (h : ¬ Good l) (why : Int) (l0 l1 : List S71) (d : Bool) (f : Int) : opR why l l0 l1 d f = ([], false, 0, 10) := by unfold opR; rw [if_pos h]
theorem opR_down {l : List S71} (h : Good l) (why : Int) (l0 l1 : List S71) (f : Int) : opR why l l0 l1 true f = (l, true, f, 8) := by unfold opR; rw [if_neg (fun x => x h), if_pos rfl]
theorem opR_why {l : List S71} (h : Good l) {why : Int} (hw : why ≠ 0) (l0 l1 : List S71) (f : Int) : opR why l l0 l1 false f = (l, false, f, why) := by unfold opR; rw [if_neg (fun x => x h), if_neg (by decide), if_pos hw]
theorem opR_go {l : List S71} (h : Good l) (l0 l1 : List S71) (f : Int) : opR 0 l l0 l1 false f = if f = 0 then (l0, true, f, 8) else (l1, false, dec f, 0) := by unfold opR; rw [if_neg (fun x => x h), if_neg (by decide), if_neg (fun x => x rfl)]
theorem at_len {n : List UInt8} {l : List S71} {A B : List S71} {o : Option S71} (h : At n l (some (A, o, B))) : A.length + B.length ≤ l.length := by
  cases h with
  | none _ _ _ e => rw [e, List.length_append]; exact Nat.le_refl _
  | some _ _ _ _ e => rw [e, List.length_append, List.length_cons]; omega
theorem opR_len {why : Int} {l l0 l1 : List S71} {d : Bool} {f : Int} {B : Nat} (h : l.length ≤ B) (h0 : l0.length ≤ B) (h1 : l1.length ≤ B) : (opR why l l0 l1 d f).1.length ≤ B := by
  unfold opR
  split
  · exact Nat.zero_le _
  · split
    · exact h
    · split
      · exact h
      · split
        · exact h0
        · exact h1
theorem rise_sub {A B : List S71} {g : S71} (h : Rise (A ++ g :: B)) : Rise (A ++ B) :=
  List.Pairwise.sublist (List.Sublist.append_left (List.sublist_cons_self g B) A) h
end Go.Proofs.Ytpigjmjbfpipnaa.Dk
namespace Go.Proofs.Ytpigjmjbfpipnaa.Ba
open Go.RowKit YtpigjmjbfpipnaaW.PrintWords YtpigjmjbfpipnaaW.PrintLast YtpigjmjbfpipnaaW.PrintMore Ytpigjmjbfpipnaa.PF
set_option linter.unusedVariables false
def step (c : Nat) : Nat := ((c * 2) % 65536) ^^^ (4129 * (c / 32768))
def steps : Nat → Nat → Nat
  | 0, c => c
  | n + 1, c => steps n (step c)
def byteS (c : Nat) (b : UInt8) : Nat := steps 8 (c ^^^ (b.toNat * 256))
def crcFrom (c : Nat) (l : List UInt8) : Nat := l.foldl byteS c
def crc (l : List UInt8) : Nat := crcFrom 65535 l

theorem step_lt (c : Nat) (h : c < 65536) : step c < 65536 :=
  Nat.xor_lt_two_pow (n := 16) (Nat.mod_lt _ (by decide)) (by omega)
theorem steps_lt : ∀ (n c : Nat), c < 65536 → steps n c < 65536
  | 0, _, h => h
  | n + 1, c, h => steps_lt n _ (step_lt c h)
theorem byteS_lt (c : Nat) (b : UInt8) (h : c < 65536) : byteS c b < 65536 :=
  steps_lt 8 _ (Nat.xor_lt_two_pow (n := 16) h (by have := u8_lt b; omega))
theorem crcFrom_lt : ∀ (l : List UInt8) (c : Nat), c < 65536 → crcFrom c l < 65536
  | [], _, h => h
  | b :: l, c, h => crcFrom_lt l _ (byteS_lt c b h)
theorem crc_lt (l : List UInt8) : crc l < 65536 := crcFrom_lt l _ (by decide)

theorem Sum_l1 (s : ByteArray) (x4 : Int) (r : Int) : ∀ (d : Nat) (j : Int) (c : Nat), 0 ≤ j → j + d = 8 → c < 65536 →
    Ev (fun k => pack_Sum.l0 k s (steps d c : Nat) (wrap64 (x4 + 1))) r → Ev (fun k => pack_Sum.l1 k s (c : Int) x4 j) r
  | 0, j, c, h0, hj, hc, h => by
    refine Ev.step (f := fun k => pack_Sum.l0 k s (c : Int) (wrap64 (x4 + 1))) (fun k => ?_) h
    simp only [pack_Sum.l1]; rw [if_neg (by omega)]
  | d + 1, j, c, h0, hj, hc, h => by
    refine Ev.step (f := fun k => pack_Sum.l1 k s (step c : Nat) x4 (j + 1)) (fun k => ?_) (Sum_l1 s x4 r d (j + 1) (step c) (by omega) (by omega) (step_lt c hc) h)
    simp only [pack_Sum.l1]; rw [if_pos (by omega), wrap64_id (by omega) (by omega)]
    have e1 : IntKind.u16.wrap ((c : Int) * 2) = (((c * 2) % 65536 : Nat) : Int) := by rw [u16_mod]; omega
    have e2 : IntKind.u16.wrap (4129 * ((c : Int) / 32768)) = ((4129 * (c / 32768) : Nat) : Int) := by rw [u16_mod]; omega
    rw [e1, e2, xor16 _ _ (Nat.mod_lt _ (by decide)) (by omega)]; rfl

theorem Sum_l0 (l : List UInt8) (hl : l.length ≤ 9223372036854775806) : ∀ (d i c : Nat), i + d = l.length → c < 65536 →
    Ev (fun k => pack_Sum.l0 k (ba l) (c : Int) (i : Int)) (crcFrom c (l.drop i) : Nat)
  | 0, i, c, hi, hc => by
    refine Ev.step (f := fun _ => some ((crcFrom c (l.drop i) : Nat) : Int)) (fun k => ?_) (Ev.now _)
    simp only [pack_Sum.l0]; rw [if_pos (by rw [ba_size]; omega), List.drop_of_length_le (by omega)]; rfl
  | d + 1, i, c, hi, hc => by
    have hb := u8_lt (l.getD i 0)
    have hd : l.drop i = l.getD i 0 :: l.drop (i + 1) := by
      rw [List.drop_eq_getElem_cons (by omega), List.getD_eq_getElem?_getD, List.getElem?_eq_getElem (by omega)]; rfl
    have hx : c ^^^ ((l.getD i 0).toNat * 256) < 65536 := Nat.xor_lt_two_pow (n := 16) hc (by omega)
    refine Ev.step (f := fun k => pack_Sum.l1 k (ba l) ((c ^^^ ((l.getD i 0).toNat * 256) : Nat) : Int) i 0) (fun k => ?_) (Sum_l1 (ba l) i _ 8 0 _ (by omega) (by omega) hx ?_)
    · simp only [pack_Sum.l0]; rw [if_neg (by rw [ba_size]; omega), if_pos (by omega), if_pos (by rw [ba_size]; omega), bt_ba]
      have e1 : IntKind.u16.wrap (IntKind.u16.wrap ((l.getD (i : Int).toNat 0).toNat : Int) * 256) = (((l.getD i 0).toNat * 256 : Nat) : Int) := by
        rw [u16_mod, u16_mod, Int.toNat_natCast]; omega
      rw [e1, xor16 _ _ hc (by omega)]
    · rw [wrap64_id (by omega) (by omega), hd]
      exact Sum_l0 l hl d (i + 1) _ (by omega) (byteS_lt c _ hc)

theorem Sum_ev (l : List UInt8) (hl : l.length ≤ 9223372036854775806) : Ev (fun k => pack_Sum.f k (ba l)) (crc l : Nat) :=
  Sum_l0 l hl l.length 0 65535 (by omega) (by decide)

theorem stepR_eq (c : Nat) (h : c < 65536) : (if c * 2 ≥ 65536 then (c * 2 - 65536) ^^^ 4129 else c * 2) = step c := by
  unfold step
  by_cases h2 : c * 2 ≥ 65536
  · rw [if_pos h2, show (c * 2) % 65536 = c * 2 - 65536 by omega, show c / 32768 = 1 by omega]
  · rw [if_neg h2, show (c * 2) % 65536 = c * 2 by omega, show c / 32768 = 0 by omega]; simp

theorem RSum_l1 (s : ByteArray) (x4 : Int) (r : Int) : ∀ (d : Nat) (j : Int) (c : Nat), 0 ≤ j → j + d = 8 → c < 65536 →
    Ev (fun k => gafferref01_Sum.l0 k s (steps d c : Nat) (wrap64 (x4 + 1))) r → Ev (fun k => gafferref01_Sum.l1 k s (c : Int) x4 j) r
  | 0, j, c, h0, hj, hc, h => by
    refine Ev.step (f := fun k => gafferref01_Sum.l0 k s (c : Int) (wrap64 (x4 + 1))) (fun k => ?_) h
    simp only [gafferref01_Sum.l1]; rw [if_neg (by omega)]
  | d + 1, j, c, h0, hj, hc, h => by
    refine Ev.step (f := fun k => gafferref01_Sum.l1 k s (step c : Nat) x4 (j + 1)) (fun k => ?_) (RSum_l1 s x4 r d (j + 1) (step c) (by omega) (by omega) (step_lt c hc) h)
    simp only [gafferref01_Sum.l1]; rw [if_pos (by omega), wrap64_id (by omega) (by omega), ← stepR_eq c hc]
    by_cases h2 : c * 2 ≥ 65536
    · rw [if_pos (by omega), if_pos h2]
      have e1 : (((c : Int) * 2) % 4294967296 - 65536) % 4294967296 = ((c * 2 - 65536 : Nat) : Int) := by omega
      rw [e1, show (4129 : Int) = ((4129 : Nat) : Int) from rfl, xor32 _ _ (by omega) (by decide)]
    · rw [if_neg (by omega), if_neg h2, show ((c : Int) * 2) % 4294967296 = ((c * 2 : Nat) : Int) by omega]

theorem RSum_l0 (l : List UInt8) (hl : l.length ≤ 9223372036854775806) : ∀ (d i c : Nat), i + d = l.length → c < 65536 →
    Ev (fun k => gafferref01_Sum.l0 k (ba l) (c : Int) (i : Int)) (crcFrom c (l.drop i) : Nat)
  | 0, i, c, hi, hc => by
    refine Ev.step (f := fun _ => some ((crcFrom c (l.drop i) : Nat) : Int)) (fun k => ?_) (Ev.now _)
    simp only [gafferref01_Sum.l0]; rw [if_neg (by rw [ba_size]; omega), List.drop_of_length_le (by omega), u16_mod]
    have : (c : Int) % 65536 = c := by omega
    rw [this]; rfl
  | d + 1, i, c, hi, hc => by
    have hb := u8_lt (l.getD i 0)
    have hd : l.drop i = l.getD i 0 :: l.drop (i + 1) := by
      rw [List.drop_eq_getElem_cons (by omega), List.getD_eq_getElem?_getD, List.getElem?_eq_getElem (by omega)]; rfl
    have hx : c ^^^ ((l.getD i 0).toNat * 256) < 65536 := Nat.xor_lt_two_pow (n := 16) hc (by omega)
    refine Ev.step (f := fun k => gafferref01_Sum.l1 k (ba l) ((c ^^^ ((l.getD i 0).toNat * 256) : Nat) : Int) i 0) (fun k => ?_) (RSum_l1 (ba l) i _ 8 0 _ (by omega) (by omega) hx ?_)
    · simp only [gafferref01_Sum.l0]; rw [if_pos (by rw [ba_size]; omega), if_pos (by omega), bt_ba]
      have e1 : (((l.getD (i : Int).toNat 0).toNat : Int) % 4294967296 * 256) % 4294967296 = (((l.getD i 0).toNat * 256 : Nat) : Int) := by
        rw [Int.toNat_natCast]; omega
      rw [e1, xor32 _ _ (by omega) (by omega)]
    · rw [wrap64_id (by omega) (by omega), hd]
      exact RSum_l0 l hl d (i + 1) _ (by omega) (byteS_lt c _ hc)

theorem RSum_ev (l : List UInt8) (hl : l.length ≤ 9223372036854775806) : Ev (fun k => gafferref01_Sum.f k (ba l)) (crc l : Nat) :=
  RSum_l0 l hl l.length 0 65535 (by omega) (by decide)
/-! digits -/
def nlF : Nat → Nat → Nat
  | 0, _ => 0
  | f + 1, n => if n = 0 then 0 else nlF f (n / 256) + 1
def nl (n : Nat) : Nat := nlF 8 n
def beN : Nat → Nat → List Nat
  | 0, _ => []
  | k + 1, n => (n / 256 ^ k) % 256 :: beN k n
def be (k n : Nat) : List UInt8 := (beN k n).map UInt8.ofNat
def val (l : List UInt8) : Nat := l.foldl (fun a b => a * 256 + b.toNat) 0
def numL (n : Nat) : List UInt8 := UInt8.ofNat (nl n) :: be (nl n) n
def textL (t : List UInt8) : List UInt8 := numL t.length ++ t

theorem ofNat_toNat (n : Nat) (h : n < 256) : (UInt8.ofNat n).toNat = n := by simp [UInt8.toNat_ofNat']; omega
theorem beN_length : ∀ k n, (beN k n).length = k
  | 0, _ => rfl
  | k + 1, n => by simp [beN, beN_length k n]
theorem be_length (k n : Nat) : (be k n).length = k := by simp [be, beN_length]
theorem foldl_val : ∀ (l : List UInt8) (a : Nat), l.foldl (fun a b => a * 256 + b.toNat) a = a * 256 ^ l.length + val l
  | [], a => by simp [val]
  | b :: l, a => by
    unfold val
    rw [List.foldl_cons, foldl_val l, List.foldl_cons, foldl_val l (0 * 256 + b.toNat), List.length_cons, Nat.pow_succ, Nat.add_mul, Nat.mul_assoc, Nat.mul_comm 256, Nat.zero_mul, Nat.zero_add, Nat.add_assoc]
theorem val_cons (b : UInt8) (l : List UInt8) : val (b :: l) = b.toNat * 256 ^ l.length + val l := by
  have := foldl_val l (0 * 256 + b.toNat)
  rw [Nat.zero_mul, Nat.zero_add] at this
  exact (by unfold val at this ⊢; rw [List.foldl_cons, Nat.zero_mul, Nat.zero_add]; exact this)
theorem val_snoc (l : List UInt8) (b : UInt8) : val (l ++ [b]) = val l * 256 + b.toNat := by unfold val; rw [List.foldl_append]; rfl
theorem val_lt : ∀ l : List UInt8, val l < 256 ^ l.length
  | [] => by simp [val]
  | b :: l => by
    rw [val_cons, List.length_cons, Nat.pow_succ]
    have h1 := val_lt l
    have h2 := u8_lt b
    have h3 : b.toNat * 256 ^ l.length ≤ 255 * 256 ^ l.length := Nat.mul_le_mul_right _ (by omega)
    omega
theorem val_be : ∀ k n, val (be k n) = n % 256 ^ k
  | 0, n => by simp [be, beN, val, Nat.mod_one]
  | k + 1, n => by
    have ih := val_be k n
    show val (UInt8.ofNat ((n / 256 ^ k) % 256) :: be k n) = _
    rw [val_cons, be_length, ih, ofNat_toNat _ (Nat.mod_lt _ (by decide)), Nat.pow_succ, Nat.mod_mul, Nat.mul_comm, Nat.add_comm]
theorem be_val : ∀ l : List UInt8, be l.length (val l) = l
  | [] => rfl
  | b :: l => by
    have ih := be_val l
    have hv := val_lt l
    have hb := u8_lt b
    have hp : 0 < 256 ^ l.length := Nat.pow_pos (by decide)
    show UInt8.ofNat ((val (b :: l) / 256 ^ l.length) % 256) :: be l.length (val (b :: l)) = b :: l
    have e1 : val (b :: l) / 256 ^ l.length = b.toNat := by
      rw [val_cons, Nat.mul_comm, Nat.mul_add_div hp, Nat.div_eq_of_lt hv]; omega
    have e2 : be l.length (val (b :: l)) = be l.length (val l) := by
      rw [val_cons]
      have : ∀ k m a, k ≤ m → be k (a * 256 ^ m + val l) = be k (val l) := by
        intro k
        induction k with
        | zero => intros; rfl
        | succ k ihk =>
          intro m a hk
          show UInt8.ofNat (((a * 256 ^ m + val l) / 256 ^ k) % 256) :: be k (a * 256 ^ m + val l) = UInt8.ofNat ((val l / 256 ^ k) % 256) :: be k (val l)
          rw [ihk m a (by omega)]
          congr 2
          obtain ⟨d, rfl⟩ : ∃ d, m = k + 1 + d := ⟨m - (k + 1), by omega⟩
          rw [Nat.pow_add, Nat.pow_succ, show a * (256 ^ k * 256 * 256 ^ d) = 256 ^ k * (256 * (a * 256 ^ d)) by simp only [Nat.mul_comm, Nat.mul_left_comm, Nat.mul_assoc], Nat.mul_add_div (Nat.pow_pos (by decide))]
          omega
      exact this _ _ _ (Nat.le_refl _)
    rw [e1, e2, ih, Nat.mod_eq_of_lt hb]
    congr 1
    apply UInt8.toNat_inj.mp; rw [ofNat_toNat _ hb]

theorem nlF_bound : ∀ f n, n < 256 ^ f → n < 256 ^ nlF f n
  | 0, n, h => h
  | f + 1, n, h => by
    unfold nlF
    by_cases h0 : n = 0
    · rw [if_pos h0, h0]; decide
    · rw [if_neg h0, Nat.pow_succ]
      have := nlF_bound f (n / 256) (by rw [Nat.pow_succ] at h; omega)
      omega
theorem nlF_le : ∀ f n, nlF f n ≤ f
  | 0, _ => Nat.le_refl _
  | f + 1, n => by
    unfold nlF; split
    · omega
    · have := nlF_le f (n / 256); omega
theorem nlF_low : ∀ f n, n ≠ 0 → n < 256 ^ f → 256 ^ (nlF f n - 1) ≤ n
  | 0, n, h0, h => by rw [Nat.pow_zero] at h; omega
  | f + 1, n, h0, h => by
    unfold nlF; rw [if_neg h0, Nat.add_sub_cancel]
    by_cases h1 : n / 256 = 0
    · have : nlF f (n / 256) = 0 := by rw [h1]; cases f <;> simp [nlF]
      rw [this]; simp; omega
    · have ih := nlF_low f (n / 256) h1 (by rw [Nat.pow_succ] at h; omega)
      have hn : nlF f (n / 256) ≠ 0 := by
        have h3 : n / 256 < 256 ^ f := by rw [Nat.pow_succ] at h; omega
        intro h2
        have := nlF_bound f (n / 256) h3
        rw [h2] at this; simp at this; omega
      obtain ⟨m, hm⟩ : ∃ m, nlF f (n / 256) = m + 1 := ⟨nlF f (n / 256) - 1, by omega⟩
      rw [hm] at ih ⊢
      rw [Nat.pow_succ]; simp at ih; omega
theorem nl_le (n : Nat) : nl n ≤ 8 := nlF_le 8 n
theorem nl_bound (n : Nat) (h : n < 18446744073709551616) : n < 256 ^ nl n := nlF_bound 8 n h
theorem nl_low (n : Nat) (h0 : n ≠ 0) (h : n < 18446744073709551616) : 256 ^ (nl n - 1) ≤ n := nlF_low 8 n h0 h
theorem nl_pos (n : Nat) (h0 : n ≠ 0) : nl n ≠ 0 := by unfold nl nlF; rw [if_neg h0]; omega
theorem nl_zero : nl 0 = 0 := rfl
theorem numL_length (n : Nat) : (numL n).length = nl n + 1 := by simp [numL, be_length]
theorem val_be_nl (n : Nat) (h : n < 18446744073709551616) : val (be (nl n) n) = n := by
  rw [val_be]; exact Nat.mod_eq_of_lt (nl_bound n h)

/-! bits.Len64 -/
theorem tab (i : Int) (h0 : 0 ≤ i) (h1 : i < 256) : bt (⟨#[0, 1, 2, 2, 3, 3, 3, 3, 4, 4, 4, 4, 4, 4, 4, 4, 5, 5, 5, 5, 5, 5, 5, 5, 5, 5, 5, 5, 5, 5, 5, 5, 6, 6, 6, 6, 6, 6, 6, 6, 6, 6, 6, 6, 6, 6, 6, 6, 6, 6, 6, 6, 6, 6, 6, 6, 6, 6, 6, 6, 6, 6, 6, 6, 7, 7, 7, 7, 7, 7, 7, 7, 7, 7, 7, 7, 7, 7, 7, 7, 7, 7, 7, 7, 7, 7, 7, 7, 7, 7, 7, 7, 7, 7, 7, 7, 7, 7, 7, 7, 7, 7, 7, 7, 7, 7, 7, 7, 7, 7, 7, 7, 7, 7, 7, 7, 7, 7, 7, 7, 7, 7, 7, 7, 7, 7, 7, 7, 8, 8, 8, 8, 8, 8, 8, 8, 8, 8, 8, 8, 8, 8, 8, 8, 8, 8, 8, 8, 8, 8, 8, 8, 8, 8, 8, 8, 8, 8, 8, 8, 8, 8, 8, 8, 8, 8, 8, 8, 8, 8, 8, 8, 8, 8, 8, 8, 8, 8, 8, 8, 8, 8, 8, 8, 8, 8, 8, 8, 8, 8, 8, 8, 8, 8, 8, 8, 8, 8, 8, 8, 8, 8, 8, 8, 8, 8, 8, 8, 8, 8, 8, 8, 8, 8, 8, 8, 8, 8, 8, 8, 8, 8, 8, 8, 8, 8, 8, 8, 8, 8, 8, 8, 8, 8, 8, 8, 8, 8, 8, 8, 8, 8, 8, 8, 8, 8, 8, 8, 8, 8, 8, 8, 8, 8, 8, 8]⟩ : ByteArray) i = (Lib.bitLen i.toNat : Int) := by
  have : ∀ n : Fin 256, bt (⟨#[0, 1, 2, 2, 3, 3, 3, 3, 4, 4, 4, 4, 4, 4, 4, 4, 5, 5, 5, 5, 5, 5, 5, 5, 5, 5, 5, 5, 5, 5, 5, 5, 6, 6, 6, 6, 6, 6, 6, 6, 6, 6, 6, 6, 6, 6, 6, 6, 6, 6, 6, 6, 6, 6, 6, 6, 6, 6, 6, 6, 6, 6, 6, 6, 7, 7, 7, 7, 7, 7, 7, 7, 7, 7, 7, 7, 7, 7, 7, 7, 7, 7, 7, 7, 7, 7, 7, 7, 7, 7, 7, 7, 7, 7, 7, 7, 7, 7, 7, 7, 7, 7, 7, 7, 7, 7, 7, 7, 7, 7, 7, 7, 7, 7, 7, 7, 7, 7, 7, 7, 7, 7, 7, 7, 7, 7, 7, 7, 8, 8, 8, 8, 8, 8, 8, 8, 8, 8, 8, 8, 8, 8, 8, 8, 8, 8, 8, 8, 8, 8, 8, 8, 8, 8, 8, 8, 8, 8, 8, 8, 8, 8, 8, 8, 8, 8, 8, 8, 8, 8, 8, 8, 8, 8, 8, 8, 8, 8, 8, 8, 8, 8, 8, 8, 8, 8, 8, 8, 8, 8, 8, 8, 8, 8, 8, 8, 8, 8, 8, 8, 8, 8, 8, 8, 8, 8, 8, 8, 8, 8, 8, 8, 8, 8, 8, 8, 8, 8, 8, 8, 8, 8, 8, 8, 8, 8, 8, 8, 8, 8, 8, 8, 8, 8, 8, 8, 8, 8, 8, 8, 8, 8, 8, 8, 8, 8, 8, 8, 8, 8, 8, 8, 8, 8, 8, 8]⟩ : ByteArray) (n.val : Int) = (Lib.bitLen n.val : Int) := by decide +kernel
  have e := this ⟨i.toNat, by omega⟩
  have e2 : ((i.toNat : Nat) : Int) = i := Int.toNat_of_nonneg h0
  rw [← e2, Int.toNat_natCast]
  exact e
theorem bitLen_64 (x : Nat) (h : x < 18446744073709551616) : Lib.bitLen x ≤ 64 := Lib.bitLen_le x 64 (by decide) h
theorem Len64_ev (a : Nat) (h : a < 18446744073709551616) : Ev (fun k => bits_Len64.f k (a : Int)) (Lib.bitLen a : Int) := by
  refine ⟨1, fun k hk => ?_⟩
  obtain ⟨k, rfl⟩ : ∃ m, k = m + 1 := ⟨k - 1, by omega⟩
  have hs32 := fun h' => Lib.bitLen_shift32 a h' h
  show bits_Len64.f (k + 1) (a : Int) = _
  unfold bits_Len64.f
  have aux : ∀ (x c : Nat), x < 4294967296 → c ≤ 32 → bits_Len64.j0 (k + 1) (x : Int) (c : Int) = some ((c + Lib.bitLen x : Nat) : Int) := by
    intro x c hx hc
    have s16 := fun h' => Lib.bitLen_shift16 x h' (by omega)
    have s8 := fun h' => Lib.bitLen_shift8 x h' (by omega)
    have s8' := fun h' => Lib.bitLen_shift8 (x / 65536) h' (by omega)
    have b0 := Lib.bitLen_le x 32 (by decide) (by omega)
    rw [bits_Len64.j0]
    by_cases h1 : (x : Int) ≥ 65536
    · rw [if_pos h1]
      by_cases h2 : (x : Int) / 65536 ≥ 256
      · rw [if_pos h2, if_pos (by omega), if_pos (by omega), tab _ (by omega) (by omega)]
        have e : ((x : Int) / 65536 / 256 % 256).toNat = x / 65536 / 256 := by omega
        rw [e]
        have := s16 (by omega); have := s8' (by omega)
        simp only [wrap64_id (n := ((c : Int) + 16)) (by omega) (by omega)]
        rw [wrap64_id (n := (Lib.bitLen (x / 65536 / 256) : Int)) (by omega) (by omega), wrap64_id (n := (c : Int) + 16 + 8) (by omega) (by omega), wrap64_id (by omega) (by omega)]
        congr 1; omega
      · rw [if_neg h2, if_pos (by omega), if_pos (by omega), tab _ (by omega) (by omega)]
        have e : ((x : Int) / 65536 % 256).toNat = x / 65536 := by omega
        rw [e]
        have := s16 (by omega)
        rw [wrap64_id (n := (c : Int) + 16) (by omega) (by omega), wrap64_id (n := (Lib.bitLen (x / 65536) : Int)) (by omega) (by omega), wrap64_id (by omega) (by omega)]
        congr 1; omega
    · rw [if_neg h1]
      by_cases h2 : (x : Int) ≥ 256
      · rw [if_pos h2, if_pos (by omega), if_pos (by omega), tab _ (by omega) (by omega)]
        have e : ((x : Int) / 256 % 256).toNat = x / 256 := by omega
        rw [e]
        have := s8 (by omega)
        rw [wrap64_id (n := (c : Int) + 8) (by omega) (by omega), wrap64_id (n := (Lib.bitLen (x / 256) : Int)) (by omega) (by omega), wrap64_id (by omega) (by omega)]
        congr 1; omega
      · rw [if_neg h2, if_pos (by omega), if_pos (by omega), tab _ (by omega) (by omega)]
        have e : ((x : Int) % 256).toNat = x := by omega
        rw [e, wrap64_id (n := (Lib.bitLen x : Int)) (by omega) (by omega), wrap64_id (by omega) (by omega)]
        congr 1
  by_cases h1 : (a : Int) ≥ 4294967296
  · rw [if_pos h1, show (a : Int) / 4294967296 = ((a / 4294967296 : Nat) : Int) by omega, show (32 : Int) = ((32 : Nat) : Int) from rfl, aux _ _ (by omega) (by omega), hs32 (by omega)]
  · rw [if_neg h1, show (0 : Int) = ((0 : Nat) : Int) from rfl, aux _ _ (by omega) (by omega), Nat.zero_add]
theorem bitLen_nl : ∀ f n, f ≤ 8 → n < 256 ^ f → (Lib.bitLen n + 7) / 8 = nlF f n
  | 0, n, _, h => by
    have : n = 0 := by rw [Nat.pow_zero] at h; omega
    subst this; rfl
  | f + 1, n, hf, h => by
    unfold nlF
    have h64 : 256 ^ (f + 1) ≤ 256 ^ 8 := Nat.pow_le_pow_right (by decide) hf
    have hn : n < 18446744073709551616 := Nat.lt_of_lt_of_le h h64
    by_cases h0 : n = 0
    · rw [if_pos h0, h0]; rfl
    · rw [if_neg h0]
      by_cases h1 : 256 ≤ n
      · rw [Lib.bitLen_shift8 n h1 hn]
        have := bitLen_nl f (n / 256) (by omega) (by rw [Nat.pow_succ] at h; omega)
        omega
      · have e : n / 256 = 0 := by omega
        have e2 : nlF f (n / 256) = 0 := by rw [e]; cases f <;> simp [nlF]
        rw [e2]
        have b := Lib.bitLen_le8 ⟨n, by omega⟩
        have b2 := Lib.bitLen_half n h0 hn
        have b' : Lib.bitLen n ≤ 8 := b
        omega

/-! the program's Number -/
def digs (k n i : Nat) : List Int := ((k :: (List.replicate (k - i) 0 ++ beN i n)).map fun x : Nat => (x : Int))
theorem digs_length (k n i : Nat) (h : i ≤ k) : (digs k n i).length = k + 1 := by simp [digs, beN_length]; omega
theorem digs_set (k n i : Nat) (h : i < k) : (digs k n i).set (k - i) (((n / 256 ^ i) % 256 : Nat) : Int) = digs k n (i + 1) := by
  unfold digs
  obtain ⟨d, rfl⟩ : ∃ d, k = i + d + 1 := ⟨k - i - 1, by omega⟩
  rw [show i + d + 1 - i = d + 1 by omega, show i + d + 1 - (i + 1) = d by omega, List.map_cons, List.map_cons, List.set_cons_succ]
  congr 1
  rw [show List.replicate (d + 1) 0 = List.replicate d 0 ++ [0] from List.replicate_succ', List.append_assoc, List.map_append, List.map_append, List.set_append_right _ _ (by simp)]
  simp [beN]
theorem str_digs (k n : Nat) (hk : k < 256) : strOfNums (digs k n k) = ba (UInt8.ofNat k :: be k n) := by
  unfold strOfNums digs ba be
  simp [Function.comp_def]
theorem shr_small' (n i : Nat) (h : i ≤ 8) : shr .u64 (n : Int) (8 * (i : Int)) % 256 = (((n / 256 ^ i) % 256 : Nat) : Int) := by
  unfold shr
  rw [show IntKind.u64.bits = 64 from rfl, show (8 * (i : Int)).toNat = 8 * i by omega, Nat.min_eq_left (by omega)]
  rw [show (2 : Int) ^ (8 * i) = ((256 ^ i : Nat) : Int) by rw [show (256 : Nat) = 2 ^ 8 from rfl, ← Nat.pow_mul]; push_cast; rfl]
  omega
theorem Number_l0 (n k : Nat) (hk : k ≤ 8) : ∀ d i, i + d = k →
    Ev (fun q => pack_Number.l0 q (n : Int) (k : Int) (digs k n i) (k : Int) (i : Int)) (ba (UInt8.ofNat k :: be k n))
  | 0, i, hi => by
    refine Ev.step (f := fun _ => some (ba (UInt8.ofNat k :: be k n))) (fun q => ?_) (Ev.now _)
    simp only [pack_Number.l0]; rw [if_neg (by omega)]
    obtain rfl : i = k := by omega
    rw [str_digs _ _ (by omega)]
  | d + 1, i, hi => by
    refine Ev.step (f := fun q => pack_Number.l0 q (n : Int) (k : Int) (digs k n (i + 1)) (k : Int) ((i + 1 : Nat) : Int)) (fun q => ?_) (Number_l0 n k hk d (i + 1) (by omega))
    have hl := digs_length k n i (by omega)
    simp only [pack_Number.l0]
    rw [if_pos (by omega), wrap64_id (n := 8 * (i : Int)) (by omega) (by omega), if_pos (by omega), wrap64_id (n := (k : Int) - i) (by omega) (by omega), if_pos (by omega), if_pos (by rw [hl]; omega), shr_small' n i (by omega),
      show ((k : Int) - i).toNat = k - i by omega, digs_set k n i (by omega), wrap64_id (by omega) (by omega)]
    rfl
theorem Number_ev (n : Nat) (h : n < 18446744073709551616) : Ev (fun k => pack_Number.f k (n : Int)) (ba (numL n)) := by
  have hb := bitLen_64 n h
  have hn := bitLen_nl 8 n (by decide) h
  have hk : nlF 8 n ≤ 8 := nlF_le 8 n
  refine Ev.bind (Len64_ev n h) ?_
  have e : wrap64 (Int.tdiv (wrap64 ((Lib.bitLen n : Int) + 7)) 8) = ((nlF 8 n : Nat) : Int) := by
    rw [wrap64_id (n := (Lib.bitLen n : Int) + 7) (by omega) (by omega), show (Lib.bitLen n : Int) + 7 = ((Lib.bitLen n + 7 : Nat) : Int) by omega, show (8 : Int) = ((8 : Nat) : Int) from rfl, ← Int.ofNat_tdiv, hn]
    exact wrap64_id (by omega) (by omega)
  rw [e]
  have e2 : wrap64 (((nlF 8 n : Nat) : Int) + 1) = ((nlF 8 n + 1 : Nat) : Int) := wrap64_id (by omega) (by omega)
  rw [e2]
  refine Ev.pos (by omega) (Ev.pos (by omega) ?_)
  refine Ev.bind_const ?_
  refine Ev.pos (by simp) ?_
  have e3 : (List.replicate (((nlF 8 n + 1 : Nat) : Int)).toNat (0 : Int)).set (0 : Int).toNat (((nlF 8 n : Nat) : Int) % 256) = digs (nlF 8 n) n 0 := by
    rw [Int.toNat_natCast, Int.toNat_zero, List.replicate_succ, List.set_cons_zero]
    unfold digs
    simp [beN]
    omega
  rw [e3]
  exact Number_l0 n (nlF 8 n) hk (nlF 8 n) 0 (by omega)

/-! the document's Number -/
theorem RNumber_l0 (N : Nat) (h : N < 18446744073709551616) : ∀ f j q, f + j = 8 → j ≤ nl N → q = N / 256 ^ j → q < 256 ^ f → nlF f q + j = nl N →
    Ev (fun k => gafferref01_Number.l0 k (q : Int) ((beN j N).map fun x : Nat => (x : Int))) (ba (numL N))
  | f, j, q, hf, hj, hq, hb, hn => by
    have h8 := nl_le N
    have hlen : ((beN j N).map fun x : Nat => (x : Int)).length = j := by simp [beN_length]
    have hN : q ≤ N := hq ▸ Nat.div_le_self _ _
    by_cases h0 : q = 0
    · have hj' : j = nl N := by
        rw [h0] at hn
        have : nlF f 0 = 0 := by cases f <;> simp [nlF]
        omega
      refine Ev.step (f := fun _ => some (ba (numL N))) (fun k => ?_) (Ev.now _)
      simp only [gafferref01_Number.l0]
      rw [if_neg (by omega), Option.bind_some, if_pos (by rw [hlen]; simp; omega), hlen]
      congr 1
      subst hj'
      unfold strOfNums numL be ba
      rw [show ((nl N : Nat) : Int) % 256 = ((nl N : Nat) : Int) by omega]
      simp [Function.comp_def]
    · obtain ⟨f, rfl⟩ : ∃ m, f = m + 1 := ⟨f - 1, by
        cases f with
        | zero => rw [Nat.pow_zero] at hb; omega
        | succ f => omega⟩
      have hdiv : q / 256 = N / 256 ^ (j + 1) := by rw [hq, Nat.div_div_eq_div_mul, ← Nat.pow_succ]
      have hn2 : nlF f (q / 256) + 1 + j = nl N := by
        rw [← hn]; conv => rhs; unfold nlF
        rw [if_neg h0]
      refine Ev.step (f := fun k => gafferref01_Number.l0 k ((q / 256 : Nat) : Int) ((beN (j + 1) N).map fun x : Nat => (x : Int))) (fun k => ?_) (RNumber_l0 N h f (j + 1) (q / 256) (by omega) (by omega) hdiv (by rw [Nat.pow_succ] at hb; omega) (by omega))
      simp only [gafferref01_Number.l0]
      rw [if_pos (by omega), Option.bind_some, if_pos (by rw [hlen]; simp; omega)]
      have e1 : Int.tmod (q : Int) 256 % 256 = ((q % 256 : Nat) : Int) := by
        rw [show (256 : Int) = ((256 : Nat) : Int) from rfl, ← Int.ofNat_tmod]; omega
      have e2 : IntKind.u64.wrap (Int.tdiv (q : Int) 256) = ((q / 256 : Nat) : Int) := by
        rw [show (256 : Int) = ((256 : Nat) : Int) from rfl, ← Int.ofNat_tdiv]
        exact u64_id (by omega) (by omega)
      rw [e1, e2, hq]; rfl
termination_by f => f
theorem RNumber_ev (n : Nat) (h : n < 18446744073709551616) : Ev (fun k => gafferref01_Number.f k (n : Int)) (ba (numL n)) := by
  exact RNumber_l0 n h 8 0 n rfl (by omega) (by rw [Nat.pow_zero, Nat.div_one]) h rfl
theorem Text_ev (t : List UInt8) (h : t.length ≤ 140737488351232) : Ev (fun k => pack_Text.f k (ba t)) (ba (textL t)) := by
  have e : IntKind.u64.wrap (((ba t).size : Nat) : Int) = ((t.length : Nat) : Int) := by rw [ba_size]; exact u64_id (by omega) (by omega)
  have h8 := nl_le t.length
  unfold pack_Text.f
  rw [e]
  refine Ev.bind (Number_ev t.length (by omega)) ?_
  refine Ev.pos (by rw [ba_size, ba_size, numL_length]; omega) ?_
  rw [ba_append]; exact Ev.now _
theorem RText_ev (t : List UInt8) (h : t.length ≤ 140737488351232) : Ev (fun k => gafferref01_Text.f k (ba t)) (ba (textL t)) := by
  have e : IntKind.u64.wrap (((ba t).size : Nat) : Int) = ((t.length : Nat) : Int) := by rw [ba_size]; exact u64_id (by omega) (by omega)
  have h8 := nl_le t.length
  unfold gafferref01_Text.f
  rw [e]
  refine Ev.bind (RNumber_ev t.length (by omega)) ?_
  refine Ev.pos (by rw [ba_size, ba_size, numL_length]; omega) ?_
  rw [ba_append]; exact Ev.now _

/-! value and fixed -/
theorem or_add (a b : Nat) (h : b < 256) : (a * 256) ||| b = a * 256 + b := by
  have := Nat.shiftLeft_add_eq_or_of_lt (b := b) (i := 8) (by simpa using h) a
  rw [Nat.shiftLeft_eq] at this
  exact this.symm
theorem value_l0 (l : List UInt8) (h8 : l.length ≤ 8) : ∀ d i, i + d = l.length →
    Ev (fun k => pack_value.l0 k (ba l) (val (l.take i) : Nat) (l.length : Int) (i : Int)) (val l : Nat)
  | 0, i, hi => by
    refine Ev.step (f := fun _ => some ((val l : Nat) : Int)) (fun k => ?_) (Ev.now _)
    simp only [pack_value.l0]; rw [if_neg (by omega), List.take_of_length_le (by omega)]
  | d + 1, i, hi => by
    refine Ev.step (f := fun k => pack_value.l0 k (ba l) (val (l.take (i + 1)) : Nat) (l.length : Int) ((i + 1 : Nat) : Int)) (fun k => ?_) (value_l0 l h8 d (i + 1) (by omega))
    have hv := val_lt (l.take i)
    have hlt : (l.take i).length = i := by simp; omega
    rw [hlt] at hv
    have h7 : 256 ^ i ≤ 256 ^ 7 := Nat.pow_le_pow_right (by decide) (by omega)
    have hb := u8_lt (l.getD i 0)
    simp only [pack_value.l0]
    rw [if_pos (by omega), if_pos (by omega), if_pos (by rw [ba_size]; omega), bt_ba, Int.toNat_natCast, wrap64_id (by omega) (by omega)]
    rw [show IntKind.u64.wrap ((val (l.take i) : Nat) * 256 : Int) = ((val (l.take i) * 256 : Nat) : Int) by rw [u64_id] <;> omega,
      show IntKind.u64.wrap ((l.getD i 0).toNat : Int) = (((l.getD i 0).toNat : Nat) : Int) by rw [u64_id] <;> omega,
      or64 _ _ (by omega) (by omega), or_add _ _ hb]
    have hs : l.take (i + 1) = l.take i ++ [l.getD i 0] := by
      rw [List.take_succ_eq_append_getElem (by omega), List.getD_eq_getElem?_getD, List.getElem?_eq_getElem (by omega)]; rfl
    rw [hs, val_snoc]; rfl
theorem value_ev (l : List UInt8) (h8 : l.length ≤ 8) : Ev (fun k => pack_value.f k (ba l)) (val l : Nat) := by
  unfold pack_value.f
  rw [ba_size]
  exact value_l0 l h8 l.length 0 (by omega)

def digf (k n i : Nat) : List Int := ((List.replicate (k - i) 0 ++ beN i n).map fun x : Nat => (x : Int))
theorem digf_length (k n i : Nat) (h : i ≤ k) : (digf k n i).length = k := by simp [digf, beN_length]; omega
theorem digf_set (k n i : Nat) (h : i < k) : (digf k n i).set (k - 1 - i) (((n / 256 ^ i) % 256 : Nat) : Int) = digf k n (i + 1) := by
  unfold digf
  obtain ⟨d, rfl⟩ : ∃ d, k = i + d + 1 := ⟨k - i - 1, by omega⟩
  rw [show i + d + 1 - i = d + 1 by omega, show i + d + 1 - (i + 1) = d by omega, show i + d + 1 - 1 - i = d by omega]
  rw [show List.replicate (d + 1) 0 = List.replicate d 0 ++ [0] from List.replicate_succ', List.append_assoc, List.map_append, List.map_append, List.set_append_right _ _ (by simp)]
  simp [beN]
theorem fixed_l0 (n k : Nat) (hk : k ≤ 8) : ∀ d i, i + d = k →
    Ev (fun q => pack_fixed.l0 q (n : Int) (k : Int) (digf k n i) (k : Int) (i : Int)) (ba (be k n))
  | 0, i, hi => by
    refine Ev.step (f := fun _ => some (ba (be k n))) (fun q => ?_) (Ev.now _)
    simp only [pack_fixed.l0]; rw [if_neg (by omega)]
    obtain rfl : i = k := by omega
    unfold strOfNums digf ba be
    simp [Function.comp_def]
  | d + 1, i, hi => by
    refine Ev.step (f := fun q => pack_fixed.l0 q (n : Int) (k : Int) (digf k n (i + 1)) (k : Int) ((i + 1 : Nat) : Int)) (fun q => ?_) (fixed_l0 n k hk d (i + 1) (by omega))
    have hl := digf_length k n i (by omega)
    simp only [pack_fixed.l0]
    rw [if_pos (by omega), wrap64_id (n := 8 * (i : Int)) (by omega) (by omega), if_pos (by omega), wrap64_id (n := (k : Int) - 1) (by omega) (by omega), wrap64_id (n := (k : Int) - 1 - i) (by omega) (by omega), if_pos (by omega), if_pos (by rw [hl]; omega), shr_small' n i (by omega),
      show ((k : Int) - 1 - i).toNat = k - 1 - i by omega, digf_set k n i (by omega), wrap64_id (by omega) (by omega)]
    rfl
theorem fixed_ev (n k : Nat) (hk : k ≤ 8) : Ev (fun q => pack_fixed.f q (n : Int) (k : Int)) (ba (be k n)) := by
  unfold pack_fixed.f
  refine Ev.pos (by omega) (Ev.pos (by omega) (Ev.bind_const ?_))
  have e : List.replicate ((k : Nat) : Int).toNat (0 : Int) = digf k n 0 := by
    unfold digf; rw [Int.toNat_natCast]; simp [beN]
  rw [e, digf_length k n 0 (by omega)]
  exact fixed_l0 n k hk k 0 (by omega)
def tup3 (r : Nat × List UInt8 × Nat) : Int × ByteArray × Int := ((r.1 : Int), ba r.2.1, (r.2.2 : Int))
def tup3' (r : List UInt8 × List UInt8 × Nat) : ByteArray × ByteArray × Int := (ba r.1, ba r.2.1, (r.2.2 : Int))
def takeN : List UInt8 → Nat × List UInt8 × Nat
  | [] => (0, [], 3)
  | b :: r => if 8 < b.toNat then (0, [], 4) else if 0 < b.toNat ∧ r ≠ [] ∧ r.getD 0 0 = 0 then (0, [], 4) else if r.length < b.toNat then (0, [], 3) else (val (r.take b.toNat), r.drop b.toNat, 0)
def takeT (l : List UInt8) : List UInt8 × List UInt8 × Nat :=
  if (takeN l).2.2 = 0 then
    if 65536 < (takeN l).1 then ([], [], 2) else if (takeN l).2.1.length < (takeN l).1 then ([], [], 3)
    else ((takeN l).2.1.take (takeN l).1, (takeN l).2.1.drop (takeN l).1, 0)
  else ([], [], (takeN l).2.2)
def frameL (p : List UInt8) : List UInt8 := be 4 p.length ++ be 2 (crc (be 4 p.length ++ p)) ++ p
def takeF (l : List UInt8) : List UInt8 × List UInt8 × Nat :=
  if l.length < 4 then ([], [], 3)
  else if 65536 < val (l.take 4) then ([], [], 2)
  else if l.length < val (l.take 4) + 6 then ([], [], 3)
  else if be 2 (crc (l.take 4 ++ (l.drop 6).take (val (l.take 4)))) = (l.drop 4).take 2 then ((l.drop 6).take (val (l.take 4)), l.drop (val (l.take 4) + 6), 0)
  else ([], [], 4)

theorem zero_toNat (b : UInt8) : b.toNat = 0 ↔ b = 0 := by
  constructor
  · intro h; apply UInt8.toNat_inj.mp; rw [h]; rfl
  · rintro rfl; rfl
theorem ba_tail (b : UInt8) (r : List UInt8) : (ba (b :: r)).extract 1 (ba (b :: r)).size = ba r := by
  rw [ba_size, ba_drop]; rfl

theorem TakeNumber_j0 (r : List UInt8) (b : Nat) (hr : r.length ≤ 4611686018427387904) (h8 : b ≤ 8) (x : Bool) :
    Ev (fun k => pack_TakeNumber.j0 k (ba r) (b : Int) x) (tup3 (if x = true then (0, [], 4) else if r.length < b then (0, [], 3) else (val (r.take b), r.drop b, 0))) := by
  refine Ev.step (f := fun k => if x = true then (some (0, (⟨#[]⟩ : ByteArray), 4)) else (if (b : Int) > ((ba r).size : Int) then (some (0, (⟨#[]⟩ : ByteArray), 3)) else (if 0 ≤ (b : Int) then (if (b : Int) ≤ ((ba r).size : Int) then ((pack_value.f k ((ba r).extract 0 ((b : Int) : Int).toNat)).bind fun t => (some (t, (ba r).extract ((b : Int) : Int).toNat (ba r).size, 0))) else (none)) else (none)))) (fun k => by rw [pack_TakeNumber.j0]) ?_
  by_cases hx : x = true
  · rw [if_pos hx]; exact Ev.pos hx (Ev.now _)
  · rw [if_neg hx]; refine Ev.neg hx ?_
    by_cases hb : r.length < b
    · rw [if_pos hb]; exact Ev.pos (by rw [ba_size]; omega) (Ev.now _)
    · rw [if_neg hb]
      refine Ev.neg (by rw [ba_size]; omega) (Ev.pos (by omega) (Ev.pos (by rw [ba_size]; omega) ?_))
      rw [Int.toNat_natCast, ba_take, ba_size, ba_drop]
      exact Ev.bind (value_ev (r.take b) (by simp; omega)) (Ev.now _)
theorem TakeNumber_ev (l : List UInt8) (hl : l.length ≤ 4611686018427387904) : Ev (fun k => pack_TakeNumber.f k (ba l)) (tup3 (takeN l)) := by
  unfold pack_TakeNumber.f
  cases l with
  | nil => exact Ev.pos (by rw [ba_list]) (Ev.now _)
  | cons b r =>
    have hb := u8_lt b
    have e0 : wrap64 (bt (ba (b :: r)) 0) = (b.toNat : Int) := by rw [bt_ba]; exact wrap64_id (by simp) (by simp; omega)
    simp only [List.length_cons] at hl
    refine Ev.neg (by rw [ba_list]; exact List.cons_ne_nil _ _) (Ev.pos (by rw [ba_size]; simp) (Ev.pos (by rw [ba_size]; simp; omega) ?_))
    rw [e0, ba_tail]
    rw [takeN]
    by_cases h8 : 8 < b.toNat
    · rw [if_pos h8]
      refine Ev.pos (by omega) ?_
      refine Ev.step (f := fun k => some (0, (⟨#[]⟩ : ByteArray), 4)) (fun k => by rw [pack_TakeNumber.j0, if_pos rfl]) (Ev.now _)
    · rw [if_neg h8]
      refine Ev.neg (by omega) ?_
      by_cases h0 : 0 < b.toNat
      · refine Ev.pos (by omega) ?_
        by_cases hr : r = []
        · refine Ev.pos (by rw [ba_list]; exact hr) ?_
          rw [if_neg (fun h => h.2.1 hr)]
          exact TakeNumber_j0 r b.toNat (by omega) (by omega) false
        · refine Ev.neg (by rw [ba_list]; exact hr) (Ev.pos (by rw [ba_size]; have := List.length_pos_iff.mpr hr; omega) ?_)
          have e1 : (bt (ba r) 0 == 0) = decide (r.getD 0 0 = 0) := by
            rw [bt_ba, Bool.eq_iff_iff, beq_iff_eq, decide_eq_true_eq, ← zero_toNat]
            simp
          rw [e1]
          have := TakeNumber_j0 r b.toNat (by omega) (by omega) (decide (r.getD 0 0 = 0))
          by_cases hz : r.getD 0 0 = 0
          · rw [if_pos ⟨h0, hr, hz⟩]; rw [if_pos (by simpa using hz)] at this; exact this
          · rw [if_neg (fun h => hz h.2.2)]; rw [if_neg (by simpa using hz)] at this; exact this
      · refine Ev.neg (by omega) ?_
        rw [if_neg (fun h => h0 h.1)]
        exact TakeNumber_j0 r b.toNat (by omega) (by omega) false

theorem RTakeNumber_l0 (b : UInt8) (r : List UInt8) (n : Nat) (hr : r.length ≤ 4611686018427387904) (h8 : n ≤ 8) (hn : n ≤ r.length) : ∀ d i, i + d = n →
    Ev (fun k => gafferref01_TakeNumber.l0 k (ba (b :: r)) (n : Int) (val (r.take i) : Nat) ((i + 1 : Nat) : Int)) (tup3 (val (r.take n), r.drop n, 0))
  | 0, i, hi => by
    refine Ev.step (f := fun k => some (tup3 (val (r.take n), r.drop n, 0))) (fun k => ?_) (Ev.now _)
    simp only [gafferref01_TakeNumber.l0]
    rw [if_neg (by omega), wrap64_id (by omega) (by omega), if_pos (by omega), if_pos (by rw [ba_size]; simp; omega), show ((n : Int) + 1).toNat = n + 1 by omega, ba_size, ba_drop]
    obtain rfl : i = n := by omega
    rfl
  | d + 1, i, hi => by
    refine Ev.step (f := fun k => gafferref01_TakeNumber.l0 k (ba (b :: r)) (n : Int) (val (r.take (i + 1)) : Nat) ((i + 1 + 1 : Nat) : Int)) (fun k => ?_) (RTakeNumber_l0 b r n hr h8 hn d (i + 1) (by omega))
    have hv := val_lt (r.take i)
    have hlt : (r.take i).length = i := by simp; omega
    rw [hlt] at hv
    have h7 : 256 ^ i ≤ 256 ^ 7 := Nat.pow_le_pow_right (by decide) (by omega)
    have hb := u8_lt (r.getD i 0)
    have hg : (b :: r).getD ((i + 1 : Nat) : Int).toNat 0 = r.getD i 0 := by rw [Int.toNat_natCast]; rfl
    simp only [gafferref01_TakeNumber.l0]
    rw [if_pos (by omega), if_pos (by omega), if_pos (by rw [ba_size]; simp; omega), bt_ba, hg, wrap64_id (by omega) (by omega)]
    have hs : r.take (i + 1) = r.take i ++ [r.getD i 0] := by
      rw [List.take_succ_eq_append_getElem (by omega), List.getD_eq_getElem?_getD, List.getElem?_eq_getElem (by omega)]; rfl
    rw [u64_id (n := 256 * ((val (r.take i) : Nat) : Int)) (by omega) (by omega), u64_id (n := ((r.getD i 0).toNat : Int)) (by omega) (by omega), u64_id (by omega) (by omega), hs, val_snoc]
    rw [show (256 : Int) * ((val (r.take i) : Nat) : Int) + ((r.getD i 0).toNat : Int) = ((val (r.take i) * 256 + (r.getD i 0).toNat : Nat) : Int) by omega]
    rfl
theorem RTakeNumber_j0 (b : UInt8) (r : List UInt8) (n : Nat) (hr : r.length ≤ 4611686018427387904) (h8 : n ≤ 8) (x : Bool) :
    Ev (fun k => gafferref01_TakeNumber.j0 k (ba (b :: r)) (n : Int) x) (tup3 (if x = true then (0, [], 4) else if r.length < n then (0, [], 3) else (val (r.take n), r.drop n, 0))) := by
  refine Ev.step (f := fun k => if x = true then (some (0, (⟨#[]⟩ : ByteArray), 4)) else (if ((ba (b :: r)).size : Int) < (wrap64 ((n : Int) + 1)) then (some (0, (⟨#[]⟩ : ByteArray), 3)) else (gafferref01_TakeNumber.l0 k (ba (b :: r)) (n : Int) 0 1))) (fun k => by rw [gafferref01_TakeNumber.j0]) ?_
  by_cases hx : x = true
  · rw [if_pos hx]; exact Ev.pos hx (Ev.now _)
  · rw [if_neg hx, wrap64_id (by omega) (by omega)]; refine Ev.neg hx ?_
    by_cases hb : r.length < n
    · rw [if_pos hb]; exact Ev.pos (by rw [ba_size]; simp; omega) (Ev.now _)
    · rw [if_neg hb]
      refine Ev.neg (by rw [ba_size]; simp; omega) ?_
      exact RTakeNumber_l0 b r n hr h8 (by omega) n 0 (by omega)
theorem RTakeNumber_ev (l : List UInt8) (hl : l.length ≤ 4611686018427387904) : Ev (fun k => gafferref01_TakeNumber.f k (ba l)) (tup3 (takeN l)) := by
  unfold gafferref01_TakeNumber.f
  cases l with
  | nil => exact Ev.pos (by rw [ba_list]) (Ev.now _)
  | cons b r =>
    have hb := u8_lt b
    have e0 : wrap64 (bt (ba (b :: r)) 0) = (b.toNat : Int) := by rw [bt_ba]; exact wrap64_id (by simp) (by simp; omega)
    simp only [List.length_cons] at hl
    refine Ev.neg (by rw [ba_list]; exact List.cons_ne_nil _ _) (Ev.pos (by rw [ba_size]; simp) ?_)
    rw [e0]
    rw [takeN]
    by_cases h8 : 8 < b.toNat
    · rw [if_pos h8]
      exact Ev.pos (by omega) (Ev.now _)
    · rw [if_neg h8]
      refine Ev.neg (by omega) ?_
      by_cases h0 : 0 < b.toNat
      · refine Ev.pos (by omega) ?_
        by_cases hr : r = []
        · refine Ev.neg (by rw [ba_size, hr]; simp) ?_
          rw [if_neg (fun h => h.2.1 hr)]
          exact RTakeNumber_j0 b r b.toNat (by omega) (by omega) false
        · have hp := List.length_pos_iff.mpr hr
          refine Ev.pos (by rw [ba_size]; simp; omega) (Ev.pos (by rw [ba_size]; simp; omega) ?_)
          have e1 : (bt (ba (b :: r)) 1 == 0) = decide (r.getD 0 0 = 0) := by
            rw [bt_ba, Bool.eq_iff_iff, beq_iff_eq, decide_eq_true_eq, ← zero_toNat]
            simp
          rw [e1]
          have := RTakeNumber_j0 b r b.toNat (by omega) (by omega) (decide (r.getD 0 0 = 0))
          by_cases hz : r.getD 0 0 = 0
          · rw [if_pos ⟨h0, hr, hz⟩]; rw [if_pos (by simpa using hz)] at this; exact this
          · rw [if_neg (fun h => hz h.2.2)]; rw [if_neg (by simpa using hz)] at this; exact this
      · refine Ev.neg (by omega) ?_
        rw [if_neg (fun h => h0 h.1)]
        exact RTakeNumber_j0 b r b.toNat (by omega) (by omega) false

theorem takeN_len (l : List UInt8) : (takeN l).2.1.length ≤ l.length := by
  cases l with
  | nil => simp [takeN]
  | cons b r => simp only [takeN]; repeat' split
                all_goals simp
                omega
theorem takeN_lt (l : List UInt8) : (takeN l).1 < 18446744073709551616 := by
  cases l with
  | nil => simp [takeN]
  | cons b r =>
    simp only [takeN]
    split
    · simp
    · split
      · simp
      · split
        · simp
        · rename_i h8 _ _
          have hv := val_lt (r.take b.toNat)
          have : (r.take b.toNat).length ≤ 8 := by simp; omega
          have := Nat.pow_le_pow_right (n := 256) (by decide) this
          simp only; omega
theorem TakeText_ev (l : List UInt8) (hl : l.length ≤ 4611686018427387904) : Ev (fun k => pack_TakeText.f k (ba l)) (tup3' (takeT l)) := by
  unfold pack_TakeText.f
  refine Ev.bind (TakeNumber_ev l hl) ?_
  have hlen := takeN_len l; have hlt := takeN_lt l
  unfold takeT tup3
  simp only
  by_cases he : (takeN l).2.2 = 0
  · refine Ev.pos (by omega) ?_
    rw [if_pos he]
    by_cases h1 : 65536 < (takeN l).1
    · rw [if_pos h1]; exact Ev.pos (by omega) (Ev.now _)
    · rw [if_neg h1]; refine Ev.neg (by omega) ?_
      rw [ba_size, u64_id (by omega) (by omega)]
      by_cases h2 : (takeN l).2.1.length < (takeN l).1
      · rw [if_pos h2]; exact Ev.pos (by omega) (Ev.now _)
      · rw [if_neg h2]; refine Ev.neg (by omega) (Ev.pos (by omega) (Ev.pos (by omega) ?_))
        rw [Int.toNat_natCast, ba_take, ba_drop]; exact Ev.now _
  · refine Ev.neg (by omega) ?_
    rw [if_neg he]; exact Ev.now _
theorem RTakeText_ev (l : List UInt8) (hl : l.length ≤ 4611686018427387904) : Ev (fun k => gafferref01_TakeText.f k (ba l)) (tup3' (takeT l)) := by
  unfold gafferref01_TakeText.f
  refine Ev.bind (RTakeNumber_ev l hl) ?_
  have hlen := takeN_len l; have hlt := takeN_lt l
  unfold takeT tup3
  simp only
  by_cases he : (takeN l).2.2 = 0
  · refine Ev.pos (by omega) ?_
    rw [if_pos he]
    by_cases h1 : 65536 < (takeN l).1
    · rw [if_pos h1]; exact Ev.pos (by omega) (Ev.now _)
    · rw [if_neg h1]; refine Ev.neg (by omega) ?_
      rw [ba_size, wrap64_id (by omega) (by omega)]
      by_cases h2 : (takeN l).2.1.length < (takeN l).1
      · rw [if_pos h2]; exact Ev.pos (by omega) (Ev.now _)
      · rw [if_neg h2]; refine Ev.neg (by omega) (Ev.pos (by omega) (Ev.pos (by omega) ?_))
        rw [Int.toNat_natCast, ba_take, ba_drop]; exact Ev.now _
  · refine Ev.neg (by omega) ?_
    rw [if_neg he]; exact Ev.now _

theorem frameL_length (p : List UInt8) : (frameL p).length = p.length + 6 := by simp [frameL, be_length]; omega
def frameR (p : List UInt8) : ByteArray × Int := if 65536 < p.length then (ba [], 2) else (ba (frameL p), 0)
theorem Frame_ev (p : List UInt8) (hp : p.length ≤ 4611686018427387904) : Ev (fun k => pack_Frame.f k (ba p)) (frameR p) := by
  unfold pack_Frame.f frameR
  by_cases h : 65536 < p.length
  · rw [if_pos h]; exact Ev.pos (by rw [ba_size]; omega) (Ev.now _)
  · rw [if_neg h]
    refine Ev.neg (by rw [ba_size]; omega) ?_
    rw [ba_size, u64_id (by omega) (by omega)]
    refine Ev.bind (fixed_ev p.length 4 (by decide)) ?_
    refine Ev.pos (by rw [ba_size, be_length]; omega) ?_
    rw [ba_append]
    refine Ev.bind (Sum_ev _ (by simp [be_length]; omega)) ?_
    have hc := crc_lt (be 4 p.length ++ p)
    rw [u64_id (by omega) (by omega)]
    refine Ev.bind (fixed_ev (crc (be 4 p.length ++ p)) 2 (by decide)) ?_
    refine Ev.pos (by rw [ba_size, ba_size, be_length, be_length]; omega) ?_
    rw [ba_append]
    refine Ev.pos (by rw [ba_size, List.length_append, be_length, be_length]; omega) ?_
    rw [ba_append]
    exact Ev.now _
theorem check_ev (l : List UInt8) (hl : l.length ≤ 9223372036854775806) : Ev (fun k => gafferref01_check.f k (ba l)) (ba (be 2 (crc l))) := by
  unfold gafferref01_check.f
  refine Ev.bind (RSum_ev l hl) ?_
  have hc := crc_lt l
  refine Ev.congr (f := fun _ => some (ba (be 2 (crc l)))) (fun k => ?_) (Ev.now _)
  congr 1
  rw [show (256 : Int) = ((256 : Nat) : Int) from rfl, ← Int.ofNat_tdiv, u16_mod]
  unfold strOfNums ba be beN beN beN
  simp only [List.map_cons, List.map_nil]
  rw [show (((crc l / 256 : Nat) : Int) % 65536 % ((256 : Nat) : Int)).toNat = crc l / 256 % 256 by omega, show (((crc l : Nat) : Int) % ((256 : Nat) : Int)).toNat = crc l % 256 by omega]
  simp
theorem four_ev (n : Nat) (h : n < 4294967296) : gafferref01_four.f (n : Int) = some (ba (be 4 n)) := by
  unfold gafferref01_four.f
  congr 1
  rw [show (16777216 : Int) = ((16777216 : Nat) : Int) from rfl, show (65536 : Int) = ((65536 : Nat) : Int) from rfl, show (256 : Int) = ((256 : Nat) : Int) from rfl, ← Int.ofNat_tdiv, ← Int.ofNat_tdiv, ← Int.ofNat_tdiv,
    wrap64_id (by omega) (by omega), wrap64_id (by omega) (by omega), wrap64_id (by omega) (by omega)]
  unfold strOfNums ba be beN beN beN beN beN
  simp only [List.map_cons, List.map_nil]
  rw [show (((n / 16777216 : Nat) : Int) % ((256 : Nat) : Int)).toNat = n / 256 ^ 3 % 256 by omega, show (((n / 65536 : Nat) : Int) % ((256 : Nat) : Int)).toNat = n / 256 ^ 2 % 256 by omega,
    show (((n / 256 : Nat) : Int) % ((256 : Nat) : Int)).toNat = n / 256 ^ 1 % 256 by omega, show ((n : Int) % ((256 : Nat) : Int)).toNat = n / 256 ^ 0 % 256 by omega]
theorem RFrame_ev (p : List UInt8) (hp : p.length ≤ 4611686018427387904) : Ev (fun k => gafferref01_Frame.f k (ba p)) (frameR p) := by
  unfold gafferref01_Frame.f frameR
  by_cases h : 65536 < p.length
  · rw [if_pos h]; exact Ev.pos (by rw [ba_size]; omega) (Ev.now _)
  · rw [if_neg h]
    refine Ev.neg (by rw [ba_size]; omega) ?_
    rw [ba_size, four_ev _ (by omega)]
    refine Ev.bind_const ?_
    refine Ev.pos (by rw [ba_size, be_length]; omega) ?_
    rw [ba_append]
    refine Ev.bind (check_ev _ (by simp [be_length]; omega)) ?_
    refine Ev.pos (by rw [ba_size, ba_size, be_length, be_length]; omega) ?_
    rw [ba_append]
    refine Ev.pos (by rw [ba_size, List.length_append, be_length, be_length]; omega) ?_
    rw [ba_append]
    exact Ev.now _

theorem val4_lt (l : List UInt8) : val (l.take 4) < 4294967296 := by
  have h := val_lt (l.take 4)
  have := Nat.pow_le_pow_right (n := 256) (by decide) (show (l.take 4).length ≤ 4 by simp; omega)
  omega
theorem frame_cut (l : List UInt8) (n : Nat) (h4 : 4 ≤ l.length) (hn : val (l.take 4) = n) (hl : n + 6 ≤ l.length) :
    frameL ((l.drop 6).take n) = l.take (n + 6) ↔ be 2 (crc (l.take 4 ++ (l.drop 6).take n)) = (l.drop 4).take 2 := by
  have hp : ((l.drop 6).take n).length = n := by simp; omega
  have h4' : (l.take 4).length = 4 := by simp; omega
  have e4 : be 4 n = l.take 4 := by have := be_val (l.take 4); rw [h4', hn] at this; exact this
  have es : l.take (n + 6) = l.take 4 ++ (l.drop 4).take 2 ++ (l.drop 6).take n := by
    rw [show n + 6 = 4 + (2 + n) by omega, List.take_add, List.take_add, List.drop_drop, List.append_assoc]
  unfold frameL
  rw [hp, e4, es]
  constructor
  · intro h
    have := List.append_cancel_right h
    exact List.append_cancel_left this
  · intro h; rw [h]
theorem TakeFrame_ev (l : List UInt8) (hl : l.length ≤ 4611686018427387904) : Ev (fun k => pack_TakeFrame.f k (ba l)) (tup3' (takeF l)) := by
  unfold pack_TakeFrame.f takeF
  by_cases h4 : l.length < 4
  · rw [if_pos h4]; exact Ev.pos (by rw [ba_size]; omega) (Ev.now _)
  · rw [if_neg h4]
    refine Ev.neg (by rw [ba_size]; omega) (Ev.pos (by decide) (Ev.pos (by rw [ba_size]; omega) ?_))
    rw [ba_take]
    refine Ev.bind (value_ev (l.take 4) (by simp; omega)) ?_
    have hv := val4_lt l
    obtain ⟨n, hn⟩ : ∃ n, val (l.take 4) = n := ⟨_, rfl⟩
    rw [hn] at hv ⊢
    by_cases h1 : 65536 < n
    · rw [if_pos h1]; exact Ev.pos (by omega) (Ev.now _)
    · rw [if_neg h1]; refine Ev.neg (by omega) ?_
      have aux : ∀ x : Bool, x = decide (l.length < n + 6) → Ev (fun k => pack_TakeFrame.j0 k (ba l) (n : Int) x) (tup3' (if l.length < n + 6 then ([], [], 3) else if be 2 (crc (l.take 4 ++ (l.drop 6).take n)) = (l.drop 4).take 2 then ((l.drop 6).take n, l.drop (n + 6), 0) else ([], [], 4))) := by
        rintro x rfl
        by_cases h6 : l.length < n + 6
        · rw [if_pos h6]
          exact Ev.step (f := fun k => some ((⟨#[]⟩ : ByteArray), (⟨#[]⟩ : ByteArray), 3)) (fun k => by rw [pack_TakeFrame.j0, if_pos (by simpa using h6)]) (Ev.now _)
        · rw [if_neg h6]
          have w1 : wrap64 (n : Int) = (n : Int) := wrap64_id (by omega) (by omega)
          have w2 : wrap64 (6 + (n : Int)) = ((n + 6 : Nat) : Int) := by rw [wrap64_id (by omega) (by omega)]; omega
          refine Ev.step (f := fun k => (pack_Frame.f k (ba ((l.drop 6).take n))).bind fun b => (if b.1.toList = l.take (n + 6) then (some (ba ((l.drop 6).take n), ba (l.drop (n + 6)), 0)) else (some ((⟨#[]⟩ : ByteArray), (⟨#[]⟩ : ByteArray), 4)))) (fun k => ?_) ?_
          · rw [pack_TakeFrame.j0, if_neg (by simpa using h6), w1, w2, if_pos (by omega), if_pos (by rw [ba_size]; omega), Int.toNat_natCast, ba_extract, show n + 6 - 6 = n by omega]
            congr 1; funext b
            rw [if_pos (by omega), ba_take, ba_list, ba_size, ba_drop]
          · have hp : ((l.drop 6).take n).length = n := by simp; omega
            refine Ev.bind (Frame_ev _ (by omega)) ?_
            have hF : frameR ((l.drop 6).take n) = (ba (frameL ((l.drop 6).take n)), 0) := by unfold frameR; rw [hp, if_neg (by omega)]
            rw [hF]
            simp only [ba_list]
            have hc := frame_cut l n (by omega) hn (by omega)
            by_cases hq : be 2 (crc (l.take 4 ++ (l.drop 6).take n)) = (l.drop 4).take 2
            · rw [if_pos hq]; exact Ev.pos (hc.mpr hq) (Ev.now _)
            · rw [if_neg hq]; exact Ev.neg (fun h => hq (hc.mp h)) (Ev.now _)
      by_cases h6 : l.length < 6
      · exact Ev.pos (by rw [ba_size]; omega) (aux true (by simp; omega))
      · refine Ev.neg (by rw [ba_size]; omega) ?_
        rw [ba_size, wrap64_id (by omega) (by omega), u64_id (by omega) (by omega)]
        exact aux _ (by rw [decide_eq_decide]; omega)
theorem RTakeFrame_l0 (l : List UInt8) (hl : l.length ≤ 4611686018427387904) (h4 : 4 ≤ l.length) : ∀ d i, i + d = 4 →
    Ev (fun k => gafferref01_TakeFrame.l0 k (ba l) (val (l.take i) : Nat) (i : Int)) (tup3' (takeF l))
  | 0, i, hi => by
    obtain rfl : i = 4 := by omega
    unfold takeF
    rw [if_neg (by omega)]
    have hv := val4_lt l
    obtain ⟨n, hn⟩ : ∃ n, val (l.take 4) = n := ⟨_, rfl⟩
    rw [hn] at hv ⊢
    by_cases h1 : 65536 < n
    · rw [if_pos h1]
      refine Ev.step (f := fun k => some ((⟨#[]⟩ : ByteArray), (⟨#[]⟩ : ByteArray), 2)) (fun k => ?_) (Ev.now _)
      simp only [gafferref01_TakeFrame.l0]; rw [if_neg (by decide), if_pos (by omega)]
    · rw [if_neg h1]
      have w1 : IntKind.u64.wrap ((n : Int) + 6) = ((n + 6 : Nat) : Int) := by rw [u64_id (by omega) (by omega)]; omega
      have w2 : IntKind.u64.wrap ((ba l).size : Int) = (l.length : Int) := by rw [ba_size, u64_id (by omega) (by omega)]
      by_cases h6 : l.length < n + 6
      · rw [if_pos h6]
        refine Ev.step (f := fun k => some ((⟨#[]⟩ : ByteArray), (⟨#[]⟩ : ByteArray), 3)) (fun k => ?_) (Ev.now _)
        simp only [gafferref01_TakeFrame.l0]; rw [if_neg (by decide), if_neg (by omega), w1, w2, if_pos (by omega)]
      · rw [if_neg h6]
        refine Ev.step (f := fun k => (gafferref01_check.f k (ba (l.take 4 ++ (l.drop 6).take n))).bind fun t => (if t.toList = (l.drop 4).take 2 then (some (ba ((l.drop 6).take n), ba (l.drop (n + 6)), 0)) else (some ((⟨#[]⟩ : ByteArray), (⟨#[]⟩ : ByteArray), 4)))) (fun k => ?_) ?_
        · simp only [gafferref01_TakeFrame.l0]
          rw [if_neg (by decide), if_neg (by omega), w1, w2, if_neg (by omega), if_pos (by omega), if_pos (by rw [ba_size]; omega), if_pos (by decide), if_pos (by rw [ba_size]; omega), Int.toNat_natCast, ba_take, ba_extract, show n + 6 - 6 = n by omega,
            if_pos (by rw [ba_size, ba_size]; simp; omega), ba_append]
          congr 1; funext b
          rw [if_pos (by decide), if_pos (by rw [ba_size]; omega), ba_extract, ba_list, ba_size, ba_drop, if_pos (show (0 : Int) ≤ ((n + 6 : Nat) : Int) by omega)]
        · refine Ev.bind (check_ev _ (by simp; omega)) ?_
          simp only [ba_list]
          by_cases hq : be 2 (crc (l.take 4 ++ (l.drop 6).take n)) = (l.drop 4).take 2
          · simp only [if_pos hq]; exact Ev.now _
          · simp only [if_neg hq]; exact Ev.now _
  | d + 1, i, hi => by
    refine Ev.step (f := fun k => gafferref01_TakeFrame.l0 k (ba l) (val (l.take (i + 1)) : Nat) ((i + 1 : Nat) : Int)) (fun k => ?_) (RTakeFrame_l0 l hl h4 d (i + 1) (by omega))
    have hv := val_lt (l.take i)
    have hlt : (l.take i).length = i := by simp; omega
    rw [hlt] at hv
    have h7 : 256 ^ i ≤ 256 ^ 7 := Nat.pow_le_pow_right (by decide) (by omega)
    have hb := u8_lt (l.getD i 0)
    have hs : l.take (i + 1) = l.take i ++ [l.getD i 0] := by
      rw [List.take_succ_eq_append_getElem (by omega), List.getD_eq_getElem?_getD, List.getElem?_eq_getElem (by omega)]; rfl
    simp only [gafferref01_TakeFrame.l0]
    rw [if_pos (by omega), if_pos (by omega), if_pos (by rw [ba_size]; omega), bt_ba, Int.toNat_natCast, wrap64_id (by omega) (by omega),
      u64_id (n := 256 * ((val (l.take i) : Nat) : Int)) (by omega) (by omega), u64_id (n := ((l.getD i 0).toNat : Int)) (by omega) (by omega), u64_id (by omega) (by omega), hs, val_snoc]
    rw [show (256 : Int) * ((val (l.take i) : Nat) : Int) + ((l.getD i 0).toNat : Int) = ((val (l.take i) * 256 + (l.getD i 0).toNat : Nat) : Int) by omega]
    rfl
theorem RTakeFrame_ev (l : List UInt8) (hl : l.length ≤ 4611686018427387904) : Ev (fun k => gafferref01_TakeFrame.f k (ba l)) (tup3' (takeF l)) := by
  unfold gafferref01_TakeFrame.f
  by_cases h4 : l.length < 4
  · have : takeF l = ([], [], 3) := by unfold takeF; rw [if_pos h4]
    rw [this]
    exact Ev.pos (by rw [ba_size]; omega) (Ev.now _)
  · exact Ev.neg (by rw [ba_size]; omega) (RTakeFrame_l0 l hl (by omega) 4 0 (by omega))
end Go.Proofs.Ytpigjmjbfpipnaa.Ba
namespace Go.Proofs.Ytpigjmjbfpipnaa.Ba
open Go.RowKit YtpigjmjbfpipnaaW.PrintWords YtpigjmjbfpipnaaW.PrintLast YtpigjmjbfpipnaaW.PrintMore
set_option linter.unusedVariables false
theorem nl_toNat (n : Nat) : (UInt8.ofNat (nl n)).toNat = nl n := ofNat_toNat _ (by have := nl_le n; omega)
theorem less_val : ∀ l m : List UInt8, l.length = m.length → Op.bytesLess l m = decide (val l < val m)
  | [], [], _ => by simp [Op.bytesLess]
  | a :: l, b :: m, h => by
    have hl : l.length = m.length := by simpa using h
    have ih := less_val l m hl
    have v1 := val_lt l; have v2 := val_lt m
    rw [hl] at v1
    have hp : 0 < 256 ^ m.length := Nat.pow_pos (by decide)
    rw [Op.bytesLess, ih, val_cons, val_cons, hl, Bool.eq_iff_iff]
    simp only [Bool.or_eq_true, Bool.and_eq_true, decide_eq_true_eq, beq_iff_eq, UInt8.lt_iff_toNat_lt]
    rcases Nat.lt_trichotomy a.toNat b.toNat with hab | hab | hab
    · have : a.toNat * 256 ^ m.length + 256 ^ m.length ≤ b.toNat * 256 ^ m.length := by
        have := Nat.mul_le_mul_right (256 ^ m.length) (show a.toNat + 1 ≤ b.toNat from hab)
        rwa [Nat.add_mul, Nat.one_mul] at this
      exact ⟨fun _ => by omega, fun _ => .inl hab⟩
    · have e : a = b := UInt8.toNat_inj.mp hab
      subst e
      exact ⟨fun h => by rcases h with h | h; omega; omega, fun h => .inr ⟨rfl, by omega⟩⟩
    · have : b.toNat * 256 ^ m.length + 256 ^ m.length ≤ a.toNat * 256 ^ m.length := by
        have := Nat.mul_le_mul_right (256 ^ m.length) (show b.toNat + 1 ≤ a.toNat from hab)
        rwa [Nat.add_mul, Nat.one_mul] at this
      exact ⟨fun h => by rcases h with h | ⟨h, _⟩; omega; subst h; omega, fun h => by omega⟩
theorem nl_mono (a b : Nat) (ha : a < 18446744073709551616) (hb : b < 18446744073709551616) (h : nl a < nl b) : a < b := by
  have h1 := nl_bound a ha
  have h2 := nl_low b (by rintro rfl; rw [nl_zero] at h; omega) hb
  have := Nat.pow_le_pow_right (n := 256) (by decide) (show nl a ≤ nl b - 1 by omega)
  omega
theorem order (a b : Nat) (ha : a < 18446744073709551616) (hb : b < 18446744073709551616) : Op.bytesLess (numL a) (numL b) = decide (a < b) := by
  unfold numL
  rw [Op.bytesLess, Bool.eq_iff_iff]
  simp only [Bool.or_eq_true, Bool.and_eq_true, decide_eq_true_eq, beq_iff_eq, UInt8.lt_iff_toNat_lt, nl_toNat]
  rcases Nat.lt_trichotomy (nl a) (nl b) with h | h | h
  · exact ⟨fun _ => nl_mono a b ha hb h, fun _ => .inl h⟩
  · rw [less_val _ _ (by rw [be_length, be_length, h]), val_be_nl a ha, val_be_nl b hb, decide_eq_true_eq]
    exact ⟨fun hh => by rcases hh with hh | hh; omega; exact hh.2, fun hh => .inr ⟨by rw [h], hh⟩⟩
  · have := nl_mono b a hb ha h
    refine ⟨fun hh => ?_, fun hh => by omega⟩
    rcases hh with hh | ⟨hh, _⟩
    · omega
    · have := congrArg UInt8.toNat hh; rw [nl_toNat, nl_toNat] at this; omega
theorem nat_of_u64 {n : Int} (h : (Lit.int .u64 n).wf = true) : ∃ m : Nat, n = m ∧ m < 18446744073709551616 := by
  simp only [Lit.wf, IntKind.min, IntKind.max, IntKind.signed, IntKind.bits, Bool.and_eq_true] at h
  refine ⟨n.toNat, ?_, ?_⟩ <;> simp at h <;> omega
theorem nl_of {n k : Nat} (hn : n < 18446744073709551616) (hk : k ≠ 0) (h1 : 256 ^ (k - 1) ≤ n) (h2 : n < 256 ^ k) : nl n = k := by
  have h0 : n ≠ 0 := by
    have := Nat.pow_pos (n := k - 1) (show 0 < 256 by decide)
    omega
  have hb := nl_bound n hn
  have hl := nl_low n h0 hn
  have hp := nl_pos n h0
  rcases Nat.lt_trichotomy (nl n) k with h | h | h
  · have := Nat.pow_le_pow_right (show 0 < 256 by decide) (show nl n ≤ k - 1 by omega)
    omega
  · exact h
  · have := Nat.pow_le_pow_right (show 0 < 256 by decide) (show k ≤ nl n - 1 by omega)
    omega
theorem takeN_inv {l : List UInt8} {n : Nat} {r : List UInt8} (h : takeN l = (n, r, 0)) : l = numL n ++ r := by
  cases l with
  | nil => simp [takeN] at h
  | cons b s =>
    rw [takeN] at h
    by_cases c1 : 8 < b.toNat
    · rw [if_pos c1] at h; simp at h
    · rw [if_neg c1] at h
      by_cases c2 : 0 < b.toNat ∧ s ≠ [] ∧ s.getD 0 0 = 0
      · rw [if_pos c2] at h; simp at h
      · rw [if_neg c2] at h
        by_cases c3 : s.length < b.toNat
        · rw [if_pos c3] at h; simp at h
        · rw [if_neg c3] at h
          obtain ⟨e1, h2⟩ := Prod.mk.inj h
          obtain ⟨e2, _⟩ := Prod.mk.inj h2
          subst e1
          subst e2
          have hlen : (s.take b.toNat).length = b.toNat := by rw [List.length_take]; omega
          have hv := val_lt (s.take b.toNat)
          rw [hlen] at hv
          have hn : val (s.take b.toNat) < 18446744073709551616 := Nat.lt_of_lt_of_le hv (Nat.le_trans (Nat.pow_le_pow_right (by decide) (show b.toNat ≤ 8 by omega)) (by decide))
          have hnl : nl (val (s.take b.toNat)) = b.toNat := by
            by_cases c0 : b.toNat = 0
            · rw [c0]; rfl
            · refine nl_of hn c0 ?_ hv
              obtain ⟨k, hk⟩ : ∃ k, b.toNat = k + 1 := ⟨b.toNat - 1, by omega⟩
              cases s with
              | nil => simp at c3; omega
              | cons a s =>
                have ha : a ≠ 0 := fun e => c2 ⟨by omega, by simp, by simp [e]⟩
                have ha1 : 1 ≤ a.toNat := by
                  rcases Nat.eq_zero_or_pos a.toNat with h | h
                  · exact absurd ((zero_toNat a).1 h) ha
                  · exact h
                rw [hk, List.take_succ_cons, val_cons]
                have hk2 : (s.take k).length = k := by rw [List.length_take]; simp at c3; omega
                rw [hk2, Nat.add_sub_cancel]
                have := Nat.mul_le_mul_right (256 ^ k) ha1
                omega
          have hbe : be b.toNat (val (s.take b.toNat)) = s.take b.toNat := by
            have := be_val (s.take b.toNat)
            rwa [hlen] at this
          show b :: s = (UInt8.ofNat (nl (val (s.take b.toNat))) :: be (nl (val (s.take b.toNat))) (val (s.take b.toNat))) ++ s.drop b.toNat
          rw [hnl, hbe, UInt8.ofNat_toNat, List.cons_append, List.take_append_drop]
end Go.Proofs.Ytpigjmjbfpipnaa.Ba
namespace Go.Proofs.Ytpigjmjbfpipnaa.Dk
open Go.RowKit YtpigjmjbfpipnaaW.PrintWords YtpigjmjbfpipnaaW.PrintLast YtpigjmjbfpipnaaW.PrintMore Ytpigjmjbfpipnaa.PF Ba Sh
set_option linter.unusedVariables false
attribute [local instance 10] Classical.propDecidable
theorem Check_l0 (l : List S71) (d : Bool) (f : Int) (hl : l.length < 4611686018427387904) : ∀ (m j : Nat) (b : Bool), j + m = l.length →
    Ev (fun k => disk_Check.l0 k b l (l.length : Int) (j : Int) l d f) (res (b = true ∧ (∀ i, j ≤ i → i < l.length → stepOk l i) ∧ l.length ≤ 4096))
  | 0, j, b, hj => by
    refine Ev.step (fun k => rfl) ?_
    simp only [disk_Check.l0]
    refine Ev.neg (by omega) ?_
    by_cases hb : b = true
    · refine Ev.pos hb ?_
      have hv : ∀ i, j ≤ i → i < l.length → stepOk l i := fun i h1 h2 => by omega
      by_cases h4 : l.length ≤ 4096
      · rw [res_pos ⟨hb, hv, h4⟩]
        exact Ev.neg (by omega) (Ev.now _)
      · rw [res_neg (fun h => h4 h.2.2)]
        exact Ev.pos (by omega) (Ev.now _)
    · rw [res_neg (fun h => hb h.1)]
      exact Ev.neg hb (Ev.now _)
  | m + 1, j, b, hj => by
    have ih := fun b => Check_l0 l d f hl m (j + 1) b (by omega)
    have hsp : ∀ b', (b = true ∧ stepOk l j ↔ b' = true) → (res (b' = true ∧ (∀ i, j + 1 ≤ i → i < l.length → stepOk l i) ∧ l.length ≤ 4096)) = (res (b = true ∧ (∀ i, j ≤ i → i < l.length → stepOk l i) ∧ l.length ≤ 4096)) := by
      intro b' hb'
      by_cases h : b' = true ∧ (∀ i, j + 1 ≤ i → i < l.length → stepOk l i) ∧ l.length ≤ 4096
      · rw [res_pos h, res_pos]
        obtain ⟨h1, h2⟩ := hb'.2 h.1
        refine ⟨h1, fun i hi hi2 => ?_, h.2.2⟩
        rcases Nat.eq_or_lt_of_le hi with rfl | hi
        · exact h2
        · exact h.2.1 i hi hi2
      · rw [res_neg h, res_neg]
        intro h2
        exact h ⟨hb'.1 ⟨h2.1, h2.2.1 j (Nat.le_refl _) (by omega)⟩, fun i hi => h2.2.1 i (by omega), h2.2.2⟩
    refine Ev.step (fun k => rfl) ?_
    simp only [disk_Check.l0]
    refine Ev.pos (by omega) (Ev.pos (by omega) (Ev.pos (by omega) ?_))
    rw [wrap_add1 (by omega), rd_nat]
    by_cases hb : b = true
    · refine Ev.pos hb ?_
      have last : stepOk l j ↔ (j = 0 ∨ blt (nm (l.getD (j - 1) z71)) (nm (l.getD j z71))) ∧ (0 ≤ (l.getD j z71).f2 ∧ (l.getD j z71).f2 ≤ ((l.getD j z71).f1.size : Int)) := Iff.rfl
      by_cases h0 : j = 0
      · subst h0
        refine Ev.pos rfl ?_
        by_cases h2 : (l.getD 0 z71).f2 ≥ 0
        · refine Ev.pos h2 ?_
          rw [← hsp _ (by rw [last]; exact ⟨fun h => decide_eq_true h.2.2.2, fun h => ⟨hb, .inl rfl, h2, of_decide_eq_true h⟩⟩)]
          exact ih _
        · refine Ev.neg h2 ?_
          rw [← hsp false (by rw [last]; exact ⟨fun h => absurd h.2.2.1 h2, fun h => by cases h⟩)]
          exact ih _
      · refine Ev.neg (by omega) (Ev.pos (by rw [wrap_sub1 (by omega) (by omega)]; omega) (Ev.pos (by rw [wrap_sub1 (by omega) (by omega)]; omega) ?_))
        rw [wrap_sub1 (by omega) (by omega), rd_nat]
        by_cases h1 : blt (nm (l.getD (j - 1) z71)) (nm (l.getD j z71))
        · refine Ev.pos h1 ?_
          by_cases h2 : (l.getD j z71).f2 ≥ 0
          · refine Ev.pos h2 ?_
            rw [← hsp _ (by rw [last]; exact ⟨fun h => decide_eq_true h.2.2.2, fun h => ⟨hb, .inr h1, h2, of_decide_eq_true h⟩⟩)]
            exact ih _
          · refine Ev.neg h2 ?_
            rw [← hsp false (by rw [last]; exact ⟨fun h => absurd h.2.2.1 h2, fun h => by cases h⟩)]
            exact ih _
        · refine Ev.neg h1 ?_
          rw [← hsp false (by rw [last]; exact ⟨fun h => (h.2.1.elim (fun e => absurd e h0) (fun e => absurd e h1)), fun h => by cases h⟩)]
          exact ih _
    · refine Ev.neg hb ?_
      rw [← hsp false ⟨fun h => absurd h.1 hb, fun h => by cases h⟩]
      exact ih _
theorem Check_ev (l : List S71) (d : Bool) (f : Int) (hl : l.length < 4611686018427387904) : Ev (fun k => disk_Check.f k l d f) (res (Good l)) := by
  unfold disk_Check.f
  have h := Check_l0 l d f hl l.length 0 true (by omega)
  have e : (res (true = true ∧ (∀ i, 0 ≤ i → i < l.length → stepOk l i) ∧ l.length ≤ 4096)) = (res (Good l)) := by
    by_cases hg : Good l
    · rw [res_pos hg, res_pos ⟨rfl, fun i _ h => hg.1 i h, hg.2⟩]
    · rw [res_neg hg, res_neg (fun h => hg ⟨fun i h2 => h.2.1 i (Nat.zero_le _) h2, h.2.2⟩)]
  rw [← e]
  exact h
theorem RCheck_l0 (l : List S71) (d : Bool) (f : Int) (hl : l.length < 4611686018427387904) : ∀ (m j : Nat), j + m = l.length →
    Ev (fun k => gafferref02_Check.l0 k l (l.length : Int) (j : Int) l d f) (res (∀ i, j ≤ i → i < l.length → stepOk l i))
  | 0, j, hj => by
    refine Ev.step (fun k => rfl) ?_
    simp only [gafferref02_Check.l0]
    rw [res_pos (fun i h1 h2 => by omega)]
    exact Ev.neg (by omega) (Ev.now _)
  | m + 1, j, hj => by
    have ih := RCheck_l0 l d f hl m (j + 1) (by omega)
    have hyes : stepOk l j → (res (∀ i, j + 1 ≤ i → i < l.length → stepOk l i)) = (res (∀ i, j ≤ i → i < l.length → stepOk l i)) := by
      intro hs
      by_cases h : ∀ i, j + 1 ≤ i → i < l.length → stepOk l i
      · rw [res_pos h, res_pos]
        intro i hi hi2
        rcases Nat.eq_or_lt_of_le hi with rfl | hi
        · exact hs
        · exact h i hi hi2
      · rw [res_neg h, res_neg (fun h2 => h (fun i hi => h2 i (by omega)))]
    have hno : ¬ stepOk l j → (10 : Int) = (res (∀ i, j ≤ i → i < l.length → stepOk l i)) := fun hs => by rw [res_neg (fun h => hs (h j (Nat.le_refl _) (by omega)))]
    refine Ev.step (fun k => rfl) ?_
    simp only [gafferref02_Check.l0]
    refine Ev.pos (by omega) (Ev.pos (by omega) (Ev.pos (by omega) ?_))
    rw [wrap_add1 (by omega), rd_nat]
    by_cases h2 : (l.getD j z71).f2 < 0
    · rw [← hno (fun h => by have := h.2.1; omega)]
      exact Ev.pos h2 (Ev.now _)
    · refine Ev.neg h2 ?_
      by_cases h3 : (l.getD j z71).f2 > ((l.getD j z71).f1.size : Int)
      · rw [← hno (fun h => by have := h.2.2; omega)]
        exact Ev.pos h3 (Ev.now _)
      · refine Ev.neg h3 ?_
        by_cases h0 : j = 0
        · refine Ev.neg (by omega) ?_
          rw [← hyes ⟨.inl h0, by constructor <;> omega⟩]
          exact ih
        · refine Ev.pos (by omega) (Ev.pos (by rw [wrap_sub1 (by omega) (by omega)]; omega) (Ev.pos (by rw [wrap_sub1 (by omega) (by omega)]; omega) ?_))
          rw [wrap_sub1 (by omega) (by omega), rd_nat]
          by_cases h1 : blt (nm (l.getD (j - 1) z71)) (nm (l.getD j z71))
          · refine Ev.pos h1 ?_
            rw [← hyes ⟨.inr h1, by constructor <;> omega⟩]
            exact ih
          · rw [← hno (fun h => h.1.elim h0 h1)]
            exact Ev.neg h1 (Ev.now _)
theorem RCheck_ev (l : List S71) (d : Bool) (f : Int) (hl : l.length < 4611686018427387904) : Ev (fun k => gafferref02_Check.f k l d f) (res (Good l)) := by
  unfold gafferref02_Check.f
  by_cases h4 : l.length ≤ 4096
  · refine Ev.neg (by omega) ?_
    have h := RCheck_l0 l d f hl l.length 0 (by omega)
    have e : (res (∀ i, 0 ≤ i → i < l.length → stepOk l i)) = (res (Good l)) := by
      by_cases hg : Good l
      · rw [res_pos hg, res_pos (fun i _ h => hg.1 i h)]
      · rw [res_neg hg, res_neg (fun h => hg ⟨fun i h2 => h i (Nat.zero_le _) h2, h4⟩)]
    rw [← e]
    exact h
  · rw [res_neg (fun h => h4 h.2)]
    exact Ev.pos (by omega) (Ev.now _)
theorem Copy_at (l : List S71) (d : Bool) (f : Int) (hl : l.length < 3518437208883) : gafferref02_Copy.f l d f = some (l, d, f) := by
  unfold gafferref02_Copy.f
  simp [hl]
theorem Clone_at (l : List S71) (hl : l.length < 3518437208883) : api_File_48.f l = some l := by
  unfold api_File_48.f
  simp [hl]
theorem Same_l0 (l : List S71) (d : Bool) (f : Int) (hl : l.length < 4611686018427387904) : ∀ (m j : Nat), j + m = l.length → Ev (fun k => gafferref02_Same.l0 k (l.length : Int) (j : Int) l d f l d f) true
  | 0, j, hj => by
    refine Ev.step (fun k => rfl) ?_
    simp only [gafferref02_Same.l0]
    exact Ev.neg (by omega) (Ev.now _)
  | m + 1, j, hj => by
    refine Ev.step (fun k => rfl) ?_
    simp only [gafferref02_Same.l0]
    refine Ev.pos (by omega) (Ev.pos (by omega) (Ev.pos (by omega) (Ev.pos (by omega) (Ev.neg (by simp) ?_))))
    rw [wrap_add1 (by omega)]
    exact Same_l0 l d f hl m (j + 1) (by omega)
theorem Same_ev (l : List S71) (d : Bool) (f : Int) (hl : l.length < 4611686018427387904) : Ev (fun k => gafferref02_Same.f k l d f l d f) true := by
  unfold gafferref02_Same.f
  refine Ev.neg (by simp) (Ev.pos rfl ?_)
  refine Ev.step (fun k => rfl) ?_
  simp only [gafferref02_Same.j0]
  refine Ev.neg (by simp) ?_
  exact Same_l0 l d f hl l.length 0 (by omega)
end Go.Proofs.Ytpigjmjbfpipnaa.Dk
