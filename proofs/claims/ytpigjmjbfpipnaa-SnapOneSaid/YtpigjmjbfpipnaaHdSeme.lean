/- What the changes of a disk do to which files are there: told by membership. No condition of its own. -/
import Derived.Test.YtpigjmjbfpipnaaPEx0
import Derived.Test.YtpigjmjbfpipnaaDkAdde
import Derived.Test.YtpigjmjbfpipnaaDkSynce
import Derived.Test.YtpigjmjbfpipnaaDkSwape
import Derived.Test.YtpigjmjbfpipnaaDkDrope
import Derived.Test.YtpigjmjbfpipnaaDkReade
namespace Go.Proofs.Ytpigjmjbfpipnaa.Dk
open Go.RowKit Go.Proofs.YtpigjmjbfpipnaaW.PrintWords Go.Proofs.YtpigjmjbfpipnaaW.PrintLast Go.Proofs.YtpigjmjbfpipnaaW.PrintMore Go.Proofs.Ytpigjmjbfpipnaa.PE Go.Proofs.Ytpigjmjbfpipnaa.Ba Go.Proofs.Ytpigjmjbfpipnaa.Sh Go.Proofs.Ytpigjmjbfpipnaa.Op
set_option linter.unusedVariables false
attribute [local instance 10] Classical.propDecidable

theorem blt_ne {a b : List UInt8} (h : blt a b) : a ≠ b := by rintro rfl; exact blt_irrefl _ h
theorem blt_ne' {a b : List UInt8} (h : blt a b) : b ≠ a := fun e => blt_ne h e.symm
theorem rise_inj : ∀ {l : List S71}, Rise l → ∀ x ∈ l, ∀ y ∈ l, nm x = nm y → x = y
  | [], _, x, hx, _, _, _ => by simp at hx
  | a :: l, h, x, hx, y, hy, e => by
    obtain ⟨h1, h2⟩ := List.pairwise_cons.1 h
    rcases List.mem_cons.1 hx with hx1 | hx1 <;> rcases List.mem_cons.1 hy with hy1 | hy1
    · rw [hx1, hy1]
    · subst hx1; exact absurd e (blt_ne (h1 y hy1))
    · subst hy1; exact absurd e (blt_ne' (h1 x hx1))
    · exact rise_inj h2 x hx1 y hy1 e
theorem mem_mid {A B : List S71} {g x : S71} : x ∈ A ++ g :: B ↔ x = g ∨ x ∈ A ++ B := by
  simp only [List.mem_append, List.mem_cons]
  constructor
  · rintro (h | h | h)
    · exact .inr (.inl h)
    · exact .inl h
    · exact .inr (.inr h)
  · rintro (h | h | h)
    · exact .inr (.inl h)
    · exact .inl h
    · exact .inr (.inr h)
theorem apart_mid {A B : List S71} {n : List UInt8} (ha : ∀ x ∈ A, blt (nm x) n) (hb : ∀ x ∈ B, blt n (nm x)) : ∀ x ∈ A ++ B, nm x ≠ n := fun x hx =>
  (List.mem_append.1 hx).elim (fun h => blt_ne (ha x h)) (fun h => blt_ne' (hb x h))
theorem good_mid {A B : List S71} {g : S71} (hr : Rise (A ++ B)) (ho : ∀ x ∈ A ++ B, Ok1 x) (hg : Ok1 g) (ha : ∀ x ∈ A, blt (nm x) (nm g)) (hb : ∀ x ∈ B, blt (nm g) (nm x)) (h4 : (A ++ B).length + 1 ≤ 4096) : Good (A ++ g :: B) := by
  refine good_of (rise_ins hr ha hb) (fun x hx => (mem_mid.1 hx).elim (fun e => e ▸ hg) (ho x)) ?_
  rw [List.length_append] at *
  rw [List.length_cons]
  omega

/-- A file of a name, dropped. -/
theorem drop_sem {n : List UInt8} {l : List S71} {o} (h : At n l o) (hg : Good l) (hm : ∃ g ∈ l, nm g = n) :
    (dropO o l).1 = 0 ∧ (dropO o l).2.1 = l ∧ Good (dropO o l).2.2 ∧ (dropO o l).2.2.length + 1 = l.length ∧ ∀ x, x ∈ (dropO o l).2.2 ↔ x ∈ l ∧ nm x ≠ n := by
  cases h with
  | bad h => exact absurd hg h
  | none A B _ e ha hb =>
    obtain ⟨g, hg1, hg2⟩ := hm
    exact absurd hg2 (apart_mid ha hb g (e ▸ hg1))
  | some A g B _ e ha hn hb =>
    have hr : Rise (A ++ B) := rise_sub (e ▸ hg.rise)
    have hl : l.length = (A ++ B).length + 1 := by rw [e, List.length_append, List.length_cons, List.length_append]; omega
    refine ⟨rfl, rfl, good_of hr (fun x hx => hg.ok x (by rw [e]; exact mem_mid.2 (.inr hx))) (by show (A ++ B).length ≤ 4096; have := hg.2; omega), hl.symm, fun x => ?_⟩
    show x ∈ A ++ B ↔ _
    rw [e, mem_mid]
    constructor
    · intro hx; exact ⟨.inr hx, apart_mid ha hb x hx⟩
    · rintro ⟨rfl | hx, h2⟩
      · exact absurd hn h2
      · exact hx
/-- A new file, of bytes. -/
theorem add_sem {n data : ByteArray} {l : List S71} {o} (h : At n.toList l o) (hg : Good l) (hm : ∀ g ∈ l, nm g ≠ n.toList) (hn : named n) :
    (addO o l n data).1 = (if 4096 ≤ l.length then 11 else 0) ∧ (addO o l n data).2.1 = (addO o l n data).2.2 ∧ (l.length < 4096 → Good (addO o l n data).2.2) ∧ ∀ x, x ∈ (addO o l n data).2.2 ↔ x ∈ l ∨ x = ⟨n, data, 0⟩ := by
  cases h with
  | bad h => exact absurd hg h
  | some A g B _ e ha hn hb => exact absurd hn (hm g (by rw [e]; exact mem_mid.2 (.inl rfl)))
  | none A B _ e ha hb =>
    refine ⟨?_, rfl, fun h4 => ?_, fun x => ?_⟩
    · show (if ¬ named n then (5 : Int) else if 4096 ≤ l.length then 11 else 0) = _
      rw [if_neg (fun h => h hn)]
    · exact good_mid (e ▸ hg.rise) (e ▸ hg.ok) ⟨Int.le_refl _, Int.natCast_nonneg _⟩ ha hb (by rw [← e]; omega)
    · show x ∈ A ++ _ :: B ↔ _
      rw [e, mem_mid]
      exact ⟨fun h => h.elim .inr .inl, fun h => h.elim .inr .inl⟩
/-- A file, synced. -/
theorem sync_sem {n : List UInt8} {l : List S71} {o} (h : At n l o) (hg : Good l) {g : S71} (hm : g ∈ l) (hn : nm g = n) :
    (syncO o l).1 = 0 ∧ (syncO o l).2.1 = l ∧ Good (syncO o l).2.2 ∧ (syncO o l).2.2.length = l.length ∧ ∀ x, x ∈ (syncO o l).2.2 ↔ (x ∈ l ∧ nm x ≠ n) ∨ x = ⟨g.f0, g.f1, (g.f1.size : Int)⟩ := by
  cases h with
  | bad h => exact absurd hg h
  | none A B _ e ha hb => exact absurd hn (apart_mid ha hb g (e ▸ hm))
  | some A g2 B _ e ha hn2 hb =>
    obtain rfl : g2 = g := rise_inj hg.rise g2 (by rw [e]; exact mem_mid.2 (.inl rfl)) g hm (by rw [hn, hn2])
    have hr : Rise (A ++ B) := rise_sub (e ▸ hg.rise)
    have hl : l.length = (A ++ B).length + 1 := by rw [e, List.length_append, List.length_cons, List.length_append]; omega
    refine ⟨rfl, rfl, ?_, ?_, fun x => ?_⟩
    · exact good_mid hr (fun x hx => hg.ok x (by rw [e]; exact mem_mid.2 (.inr hx))) ⟨Int.natCast_nonneg _, Int.le_refl _⟩ (by intro x hx; show blt (nm x) (nm g2); rw [hn2]; exact ha x hx) (by intro x hx; show blt (nm g2) (nm x); rw [hn2]; exact hb x hx) (by have := hg.2; omega)
    · show (A ++ _ :: B).length = _
      rw [hl, List.length_append, List.length_cons, List.length_append]; omega
    · show x ∈ A ++ _ :: B ↔ _
      rw [e, mem_mid]
      constructor
      · rintro (h | h)
        · exact .inr h
        · exact .inl ⟨mem_mid.2 (.inr h), apart_mid ha hb x h⟩
      · rintro (⟨h, h2⟩ | h)
        · rcases mem_mid.1 h with rfl | h
          · exact absurd hn2 h2
          · exact .inr h
        · exact .inl h
/-- A file that is called otherwise. -/
theorem swap_sem {n tb : ByteArray} {l : List S71} {o} (h : At n.toList l o) (hg : Good l) {g : S71} (hm : g ∈ l) (hn : nm g = n.toList) (hs : g.f2 = (g.f1.size : Int)) (ht : named tb) :
    (swapO o l tb).1 = 0 ∧ (swapO o l tb).2.1 = l ∧ Good (swapO o l tb).2.2 ∧ ∀ x, x ∈ (swapO o l tb).2.2 ↔ (x ∈ l ∧ nm x ≠ n.toList ∧ nm x ≠ tb.toList) ∨ x = ⟨tb, g.f1, g.f2⟩ := by
  cases h with
  | bad h => exact absurd hg h
  | none A B _ e ha hb => exact absurd hn (apart_mid ha hb g (e ▸ hm))
  | some A g2 B _ e ha hn2 hb =>
    obtain rfl : g2 = g := rise_inj hg.rise g2 (by rw [e]; exact mem_mid.2 (.inl rfl)) g hm (by rw [hn, hn2])
    have hr : Rise (A ++ B) := rise_sub (e ▸ hg.rise)
    have hok : ∀ x ∈ A ++ B, Ok1 x := fun x hx => hg.ok x (by rw [e]; exact mem_mid.2 (.inr hx))
    have hl : l.length = (A ++ B).length + 1 := by rw [e, List.length_append, List.length_cons, List.length_append]; omega
    have hABne := apart_mid ha hb
    have hokg : Ok1 (⟨tb, g2.f1, g2.f2⟩ : S71) := hg.ok g2 hm
    refine ⟨?_, rfl, ?_⟩
    · show (if g2.f2 < (g2.f1.size : Int) then (9 : Int) else if ¬ named tb then 5 else 0) = 0
      rw [if_neg (by omega), if_neg (fun h => h ht)]
    · show Good (withL ⟨tb, g2.f1, g2.f2⟩ false (A ++ B)) ∧ ∀ x, x ∈ withL ⟨tb, g2.f1, g2.f2⟩ false (A ++ B) ↔ _
      generalize hAB : A ++ B = C at hr hok hl hABne
      have hC : ∀ x, (x ∈ l ∧ nm x ≠ n.toList) ↔ x ∈ C := fun x => by
        rw [e, mem_mid, hAB]
        constructor
        · rintro ⟨rfl | h, h2⟩
          · exact absurd hn2 h2
          · exact h
        · intro h; exact ⟨.inr h, hABne x h⟩
      have h4 := hg.2
      cases parts (nm (⟨tb, g2.f1, g2.f2⟩ : S71)) hr with
      | none A B ha hb =>
        rw [withL_none _ A B ha hb]
        refine ⟨good_mid hr hok hokg ha hb (by omega), fun x => ?_⟩
        rw [mem_mid, ← and_assoc, hC]
        constructor
        · rintro (h | h)
          · exact .inr h
          · exact .inl ⟨h, apart_mid ha hb x h⟩
        · rintro (h | h)
          · exact .inr h.1
          · exact .inl h
      | some A o B ha ho hb =>
        rw [withL_some _ o A B ha ho hb]
        have hr2 := rise_sub hr
        have hl2 : (A ++ o :: B).length = (A ++ B).length + 1 := by rw [List.length_append, List.length_cons, List.length_append]; omega
        refine ⟨good_mid hr2 (fun x hx => hok x (mem_mid.2 (.inr hx))) hokg ha hb (by omega), fun x => ?_⟩
        rw [mem_mid, ← and_assoc, hC, mem_mid]
        constructor
        · rintro (h | h)
          · exact .inr h
          · exact .inl ⟨.inr h, apart_mid ha hb x h⟩
        · rintro (⟨rfl | h, h2⟩ | h)
          · exact absurd ho h2
          · exact .inr h
          · exact .inl h
end Go.Proofs.Ytpigjmjbfpipnaa.Dk
