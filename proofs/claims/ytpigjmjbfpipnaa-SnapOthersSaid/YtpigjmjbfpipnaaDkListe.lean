/- Files in rising order; a list at a name; what a change comes to. No condition beside those in each row. -/
import Derived.Test.YtpigjmjbfpipnaaPEx0
import Derived.Test.YtpigjmjbfpipnaaBae
import Derived.Test.YtpigjmjbfpipnaaSh
namespace Go.Proofs.Ytpigjmjbfpipnaa.Dk
open Go.RowKit Go.Proofs.YtpigjmjbfpipnaaW.PrintWords Go.Proofs.YtpigjmjbfpipnaaW.PrintLast Go.Proofs.YtpigjmjbfpipnaaW.PrintMore Go.Proofs.Ytpigjmjbfpipnaa.PE Go.Proofs.Ytpigjmjbfpipnaa.Ba Go.Proofs.Ytpigjmjbfpipnaa.Sh
set_option linter.unusedVariables false
attribute [local instance 10] Classical.propDecidable

def blt (a b : List UInt8) : Prop := Op.bytesLess a b = true
instance (a b : List UInt8) : Decidable (blt a b) := inferInstanceAs (Decidable (_ = true))
theorem blt_irrefl (a : List UInt8) : ¬ blt a a := by
  have h := bytes_total a a
  unfold blt
  cases hx : Op.bytesLess a a with
  | false => simp
  | true => rw [hx] at h; simp at h
theorem blt_asymm {a b : List UInt8} (h : blt a b) : ¬ blt b a := by
  have h2 := bytes_total a b
  unfold blt at *
  rw [h] at h2
  simpa using h2.symm
theorem blt_tri {a b : List UInt8} (h : ¬ blt a b) (hne : a ≠ b) : blt b a := by
  have h2 := bytes_total a b
  unfold blt at *
  rw [Bool.not_eq_true] at h
  rw [h] at h2
  have : (a == b) = false := by simpa using hne
  rw [this] at h2
  simpa using h2.symm
theorem blt_cons (x y : UInt8) (a b : List UInt8) : blt (x :: a) (y :: b) ↔ x.toNat < y.toNat ∨ (x.toNat = y.toNat ∧ blt a b) := by
  have hxy : x = y ↔ x.toNat = y.toNat := ⟨fun h => by rw [h], fun h => UInt8.toNat_inj.mp h⟩
  unfold blt
  simp only [Op.bytesLess, Bool.or_eq_true, Bool.and_eq_true, beq_iff_eq, decide_eq_true_eq, hxy]
  exact Iff.rfl
theorem blt_trans : ∀ {a b c : List UInt8}, blt a b → blt b c → blt a c
  | a, [], c, h, k => by cases a <;> simp [blt, Op.bytesLess] at h
  | a, y :: b, [], h, k => by simp [blt, Op.bytesLess] at k
  | [], y :: b, z :: c, h, k => by simp [blt, Op.bytesLess]
  | x :: a, y :: b, z :: c, h, k => by
    rw [blt_cons] at *
    rcases h with h | ⟨h, h2⟩ <;> rcases k with k | ⟨k, k2⟩
    · exact .inl (by omega)
    · exact .inl (by omega)
    · exact .inl (by omega)
    · exact .inr ⟨by omega, blt_trans h2 k2⟩
def nm (x : S71) : List UInt8 := x.f0.toList
def Ok1 (x : S71) : Prop := 0 ≤ x.f2 ∧ x.f2 ≤ (x.f1.size : Int)
instance (x : S71) : Decidable (Ok1 x) := inferInstanceAs (Decidable (_ ∧ _))
def stepOk (l : List S71) (j : Nat) : Prop := (j = 0 ∨ blt (nm (l.getD (j - 1) z71)) (nm (l.getD j z71))) ∧ Ok1 (l.getD j z71)
instance (l : List S71) (j : Nat) : Decidable (stepOk l j) := inferInstanceAs (Decidable (_ ∧ _))
def Good (l : List S71) : Prop := (∀ j, j < l.length → stepOk l j) ∧ l.length ≤ 4096
noncomputable def res (p : Prop) : Int := if p then 0 else 10
theorem res_pos {p : Prop} (h : p) : res p = 0 := if_pos h
theorem res_neg {p : Prop} (h : ¬ p) : res p = 10 := if_neg h
theorem rd_nat (l : List S71) (j : Nat) : rd_T71 l (j : Int) = l.getD j z71 := rfl
theorem wrap_sub1 {j : Nat} (h : 0 < j) (hb : j < 4611686018427387904) : wrap64 ((j : Int) - 1) = ((j - 1 : Nat) : Int) := by rw [wrap64_id (by omega) (by omega)]; omega
theorem wrap_add1 {j : Nat} (hb : j < 4611686018427387904) : wrap64 ((j : Int) + 1) = ((j + 1 : Nat) : Int) := by rw [wrap64_id (by omega) (by omega)]; omega
theorem getD_lt {l : List S71} {j : Nat} (h : j < l.length) : l.getD j z71 = l[j] := by rw [List.getD_eq_getElem?_getD, List.getElem?_eq_getElem h]; rfl
def Rise (l : List S71) : Prop := l.Pairwise (fun a b => blt (nm a) (nm b))
theorem Good.rise {l : List S71} (h : Good l) : Rise l := by
  have key : ∀ (d i : Nat), i + d + 1 < l.length → blt (nm (l.getD i z71)) (nm (l.getD (i + d + 1) z71)) := by
    intro d
    induction d with
    | zero => intro i hi; exact ((h.1 (i + 1) hi).1.resolve_left (by omega))
    | succ d ih =>
      intro i hi
      refine blt_trans (ih i (by omega)) ?_
      have := ((h.1 (i + (d + 1) + 1) hi).1.resolve_left (by omega))
      exact this
  refine List.pairwise_iff_getElem.2 (fun i j hi hj hij => ?_)
  have := key (j - i - 1) i (by omega)
  rw [show i + (j - i - 1) + 1 = j by omega, getD_lt hi, getD_lt hj] at this
  exact this
theorem Good.ok {l : List S71} (h : Good l) : ∀ x ∈ l, Ok1 x := by
  intro x hx
  obtain ⟨j, hj, rfl⟩ := List.getElem_of_mem hx
  have := (h.1 j hj).2
  rwa [getD_lt hj] at this
theorem good_of {l : List S71} (hr : Rise l) (ho : ∀ x ∈ l, Ok1 x) (h4 : l.length ≤ 4096) : Good l := by
  refine ⟨fun j hj => ⟨?_, ?_⟩, h4⟩
  · rcases Nat.eq_zero_or_pos j with h0 | h0
    · exact .inl h0
    · refine .inr ?_
      rw [getD_lt hj, getD_lt (show j - 1 < l.length by omega)]
      exact List.pairwise_iff_getElem.1 hr (j - 1) j (by omega) hj (by omega)
  · rw [getD_lt hj]; exact ho _ (List.getElem_mem _)
/-- A rising list, parted at a name. -/
inductive Parts (n : List UInt8) : List S71 → Prop
  | none (A B : List S71) (ha : ∀ x ∈ A, blt (nm x) n) (hb : ∀ x ∈ B, blt n (nm x)) : Parts n (A ++ B)
  | some (A : List S71) (f : S71) (B : List S71) (ha : ∀ x ∈ A, blt (nm x) n) (hf : nm f = n) (hb : ∀ x ∈ B, blt n (nm x)) : Parts n (A ++ f :: B)
theorem parts (n : List UInt8) : ∀ {l : List S71}, Rise l → Parts n l
  | [], _ => Parts.none [] [] (by simp) (by simp)
  | x :: l, h => by
    obtain ⟨h1, h2⟩ := List.pairwise_cons.1 h
    by_cases hx : blt (nm x) n
    · have := parts n h2
      cases this with
      | none A B ha hb => exact Parts.none (x :: A) B (by intro y hy; exact (List.mem_cons.1 hy).elim (fun e => by rw [e]; exact hx) (fun hy => ha y hy)) hb
      | some A f B ha hf hb => exact Parts.some (x :: A) f B (by intro y hy; exact (List.mem_cons.1 hy).elim (fun e => by rw [e]; exact hx) (fun hy => ha y hy)) hf hb
    · by_cases he : nm x = n
      · exact Parts.some [] x l (by simp) he (fun y hy => he ▸ h1 y hy)
      · have hn := blt_tri hx he
        exact Parts.none [] (x :: l) (by simp) (by intro y hy; exact (List.mem_cons.1 hy).elim (fun e => by rw [e]; exact hn) (fun hy => blt_trans hn (h1 y hy)))
theorem getD_left {A B : List S71} {i : Nat} (h : i < A.length) : (A ++ B).getD i z71 = A.getD i z71 := by
  simp only [List.getD_eq_getElem?_getD]
  rw [List.getElem?_append_left h]
theorem getD_right {A B : List S71} {i : Nat} (h : A.length ≤ i) : (A ++ B).getD i z71 = B.getD (i - A.length) z71 := by
  simp only [List.getD_eq_getElem?_getD]
  rw [List.getElem?_append_right h]
theorem getD_mem {A : List S71} {i : Nat} (h : i < A.length) : A.getD i z71 ∈ A := by rw [getD_lt h]; exact List.getElem_mem _
abbrev R4 := List S71 × Bool × Int × Int
def dec (f : Int) : Int := if f > 0 then f - 1 else f
noncomputable def opR (why : Int) (l l0 l1 : List S71) (d : Bool) (f : Int) : R4 :=
  if ¬ Good l then ([], false, 0, 10) else if d = true then (l, d, f, 8) else if ¬ why = 0 then (l, d, f, why) else if f = 0 then (l0, true, f, 8) else (l1, d, dec f, 0)
def named (a : ByteArray) : Prop := a.toList ≠ [] ∧ a.size ≤ 32
noncomputable def withL (g : S71) : Bool → List S71 → List S71
  | put, [] => if put = true then [] else [g]
  | put, x :: r => if put = false ∧ ¬ blt (nm x) (nm g) then (if nm x = nm g then g :: withL g true r else g :: x :: withL g true r) else (if nm x = nm g then withL g put r else x :: withL g put r)
theorem withL_len (g : S71) : ∀ (put : Bool) (r : List S71), (withL g put r).length ≤ r.length + 1
  | put, [] => by unfold withL; split <;> simp
  | put, x :: r => by
    have h1 := withL_len' g r
    have h2 := withL_len g put r
    unfold withL
    split <;> split <;> simp only [List.length_cons] <;> omega
where withL_len' (g : S71) : ∀ (r : List S71), (withL g true r).length ≤ r.length
  | [] => by simp [withL]
  | x :: r => by
    have := withL_len' g r
    unfold withL
    rw [if_neg (fun h => by cases h.1)]
    split <;> simp only [List.length_cons] <;> omega
theorem withL_less (g : S71) (R : List S71) : ∀ (A : List S71), (∀ x ∈ A, blt (nm x) (nm g)) → withL g false (A ++ R) = A ++ withL g false R
  | [], _ => rfl
  | x :: A, h => by
    have hx := h x List.mem_cons_self
    rw [List.cons_append, withL, if_neg (fun h => h.2 hx), if_neg (fun e => by rw [e] at hx; exact blt_irrefl _ hx), withL_less g R A (fun y hy => h y (List.mem_cons_of_mem _ hy))]
    rfl
theorem withL_true (g : S71) : ∀ (B : List S71), (∀ x ∈ B, blt (nm g) (nm x)) → withL g true B = B
  | [], _ => by simp [withL]
  | x :: B, h => by
    have hx := h x List.mem_cons_self
    rw [withL, if_neg (fun h => by cases h.1), if_neg (fun e => by rw [e] at hx; exact blt_irrefl _ hx), withL_true g B (fun y hy => h y (List.mem_cons_of_mem _ hy))]
theorem withL_none (g : S71) (A B : List S71) (ha : ∀ x ∈ A, blt (nm x) (nm g)) (hb : ∀ x ∈ B, blt (nm g) (nm x)) : withL g false (A ++ B) = A ++ g :: B := by
  rw [withL_less g B A ha]
  congr 1
  cases B with
  | nil => simp [withL]
  | cons x B =>
    have hx := hb x List.mem_cons_self
    rw [withL, if_pos ⟨rfl, blt_asymm hx⟩, if_neg (fun e => by rw [e] at hx; exact blt_irrefl _ hx), withL_true g B (fun y hy => hb y (List.mem_cons_of_mem _ hy))]
theorem withL_some (g o : S71) (A B : List S71) (ha : ∀ x ∈ A, blt (nm x) (nm g)) (ho : nm o = nm g) (hb : ∀ x ∈ B, blt (nm g) (nm x)) : withL g false (A ++ o :: B) = A ++ g :: B := by
  rw [withL_less g _ A ha]
  congr 1
  rw [withL, if_pos ⟨rfl, by rw [ho]; exact blt_irrefl _⟩, if_pos ho, withL_true g B hb]
theorem set_mid (A : List S71) (g x : S71) (B : List S71) : (A ++ g :: B).set A.length x = A ++ x :: B := by
  rw [List.set_append_right _ _ (Nat.le_refl _), Nat.sub_self]; rfl
theorem getD_mid (A : List S71) (g : S71) (B : List S71) : (A ++ g :: B).getD A.length z71 = g := by
  rw [getD_right (Nat.le_refl _), Nat.sub_self]; rfl
/-- What is known of a list at a name: nothing, or it has none such, or one. -/
inductive At (n : List UInt8) (l : List S71) : Option (List S71 × Option S71 × List S71) → Prop
  | bad (h : ¬ Good l) : At n l none
  | none (A B : List S71) (hg : Good l) (e : l = A ++ B) (ha : ∀ x ∈ A, blt (nm x) n) (hb : ∀ x ∈ B, blt n (nm x)) : At n l (some (A, none, B))
  | some (A : List S71) (g : S71) (B : List S71) (hg : Good l) (e : l = A ++ g :: B) (ha : ∀ x ∈ A, blt (nm x) n) (hn : nm g = n) (hb : ∀ x ∈ B, blt n (nm x)) : At n l (some (A, some g, B))
theorem at_of (n : List UInt8) (l : List S71) : ∃ o, At n l o := by
  by_cases hg : Good l
  · have h := parts n hg.rise
    generalize hl : l = q at h
    cases h with
    | none A B ha hb => exact ⟨_, At.none A B (hl ▸ hg) rfl ha hb⟩
    | some A g B ha hn hb => exact ⟨_, At.some A g B (hl ▸ hg) rfl ha hn hb⟩
  · exact ⟨_, At.bad hg⟩
/-- The outcome of a change: why it is refused (0: not), the list if the power goes, the list if not. -/
noncomputable def outcome (l : List S71) (d : Bool) (f : Int) (x : Int × List S71 × List S71) : R4 := opR x.1 l x.2.1 x.2.2 d f
theorem opR_bad {l : List S71} (h : ¬ Good l) (why : Int) (l0 l1 : List S71) (d : Bool) (f : Int) : opR why l l0 l1 d f = ([], false, 0, 10) := by unfold opR; rw [if_pos h]
theorem opR_why {l : List S71} (h : Good l) {why : Int} (hw : why ≠ 0) (l0 l1 : List S71) (f : Int) : opR why l l0 l1 false f = (l, false, f, why) := by unfold opR; rw [if_neg (fun x => x h), if_neg (by decide), if_pos hw]
theorem opR_go {l : List S71} (h : Good l) (l0 l1 : List S71) (f : Int) : opR 0 l l0 l1 false f = if f = 0 then (l0, true, f, 8) else (l1, false, dec f, 0) := by unfold opR; rw [if_neg (fun x => x h), if_neg (by decide), if_neg (fun x => x rfl)]
theorem at_len {n : List UInt8} {l : List S71} {A B : List S71} {o : Option S71} (h : At n l (some (A, o, B))) : A.length + B.length ≤ l.length := by
  cases h with
  | none _ _ _ e => rw [e, List.length_append]; exact Nat.le_refl _
  | some _ _ _ _ e => rw [e, List.length_append, List.length_cons]; omega
theorem opR_len {why : Int} {l l0 l1 : List S71} {d : Bool} {f : Int} {B : Nat} (h : l.length ≤ B) (h0 : l0.length ≤ B) (h1 : l1.length ≤ B) : (opR why l l0 l1 d f).1.length ≤ B := by
  unfold opR
  split
  · exact Nat.zero_le _
  · split
    · exact h
    · split
      · exact h
      · split
        · exact h0
        · exact h1
theorem rise_sub {A B : List S71} {g : S71} (h : Rise (A ++ g :: B)) : Rise (A ++ B) :=
  List.Pairwise.sublist (List.Sublist.append_left (List.sublist_cons_self g B) A) h
theorem rise_ins {A B : List S71} {g : S71} (h : Rise (A ++ B)) (ha : ∀ x ∈ A, blt (nm x) (nm g)) (hb : ∀ x ∈ B, blt (nm g) (nm x)) : Rise (A ++ g :: B) := by
  obtain ⟨h1, h2, h3⟩ := List.pairwise_append.1 h
  refine List.pairwise_append.2 ⟨h1, List.pairwise_cons.2 ⟨hb, h2⟩, fun x hx y hy => ?_⟩
  rcases List.mem_cons.1 hy with rfl | hy
  · exact ha x hx
  · exact h3 x hx y hy
end Go.Proofs.Ytpigjmjbfpipnaa.Dk
