import Derived.Test.YtpigjmjbfpipnaaPDx13
import Derived.Test.YtpigjmjbfpipnaaHdSemd
namespace Go.Proofs.Ytpigjmjbfpipnaa.Dk
open Go.RowKit YtpigjmjbfpipnaaW.PrintWords YtpigjmjbfpipnaaW.PrintLast YtpigjmjbfpipnaaW.PrintMore Ytpigjmjbfpipnaa.PD Ba Sh Ytpigjmjbfpipnaa.Op
set_option linter.unusedVariables false
attribute [local instance 10] Classical.propDecidable

noncomputable def oAt (n : ByteArray) (l : List S71) : Option (List S71 × Option S71 × List S71) := Classical.choose (at_of n.toList l)
theorem oAt_at (n : ByteArray) (l : List S71) : At n.toList l (oAt n l) := Classical.choose_spec (at_of n.toList l)
noncomputable def rdR (l : List S71) (d : Bool) (n : ByteArray) : ByteArray × Int := readR l d (oAt n l)
noncomputable def addR (l : List S71) (d : Bool) (f : Int) (n data : ByteArray) : R4 := outcome l d f (addO (oAt n l) l n data)
noncomputable def syncR (l : List S71) (d : Bool) (f : Int) (n : ByteArray) : R4 := outcome l d f (syncO (oAt n l) l)
noncomputable def dropR (l : List S71) (d : Bool) (f : Int) (n : ByteArray) : R4 := outcome l d f (dropO (oAt n l) l)
noncomputable def swapR (l : List S71) (d : Bool) (f : Int) (n tb : ByteArray) : R4 := outcome l d f (swapO (oAt n l) l tb)
def tmp (n : ByteArray) : ByteArray := n ++ (⟨#[46, 116, 109, 112]⟩ : ByteArray)
noncomputable def tailR (l : List S71) (d : Bool) (f : Int) (tm nm dt : ByteArray) : R4 :=
  if (addR l d f tm dt).2.2.2 = 0 then
    (if (syncR (addR l d f tm dt).1 (addR l d f tm dt).2.1 (addR l d f tm dt).2.2.1 tm).2.2.2 = 0 then
      swapR (syncR (addR l d f tm dt).1 (addR l d f tm dt).2.1 (addR l d f tm dt).2.2.1 tm).1 (syncR (addR l d f tm dt).1 (addR l d f tm dt).2.1 (addR l d f tm dt).2.2.1 tm).2.1 (syncR (addR l d f tm dt).1 (addR l d f tm dt).2.1 (addR l d f tm dt).2.2.1 tm).2.2.1 tm nm
    else syncR (addR l d f tm dt).1 (addR l d f tm dt).2.1 (addR l d f tm dt).2.2.1 tm)
  else addR l d f tm dt
noncomputable def putR (l : List S71) (d : Bool) (f : Int) (nm dt : ByteArray) : R4 :=
  if (rdR l d (tmp nm)).2 = 0 then
    (if (dropR l d f (tmp nm)).2.2.2 = 0 then tailR (dropR l d f (tmp nm)).1 (dropR l d f (tmp nm)).2.1 (dropR l d f (tmp nm)).2.2.1 (tmp nm) nm dt else dropR l d f (tmp nm))
  else tailR l d f (tmp nm) nm dt

theorem dec_lt {f : Int} (h : f < 9223372036854775808) : dec f < 9223372036854775808 := by unfold dec; split <;> omega
theorem opR_fuse {why : Int} {l l0 l1 : List S71} {d : Bool} {f : Int} (h : f < 9223372036854775808) : (opR why l l0 l1 d f).2.2.1 < 9223372036854775808 := by
  unfold opR
  split
  · show (0 : Int) < _; omega
  · split
    · exact h
    · split
      · exact h
      · split
        · exact h
        · exact dec_lt h
theorem addR_len (l d f n data) : (addR l d f n data).1.length ≤ l.length + 1 := opR_len (by omega) (addO_len (oAt_at n l) n data).1 (addO_len (oAt_at n l) n data).2
theorem syncR_len (l d f n) : (syncR l d f n).1.length ≤ l.length + 1 := opR_len (by omega) (syncO_len (oAt_at n l)).1 (syncO_len (oAt_at n l)).2
theorem dropR_len (l d f n) : (dropR l d f n).1.length ≤ l.length + 1 := opR_len (by omega) (dropO_len (oAt_at n l)).1 (dropO_len (oAt_at n l)).2
theorem swapR_len (l d f n tb) : (swapR l d f n tb).1.length ≤ l.length + 1 := opR_len (by omega) (swapO_len (oAt_at n l) tb).1 (swapO_len (oAt_at n l) tb).2
theorem tailR_len (l d f tm nm dt) : (tailR l d f tm nm dt).1.length ≤ l.length + 3 := by
  unfold tailR
  have h1 := addR_len l d f tm dt
  split
  · have h2 := syncR_len (addR l d f tm dt).1 (addR l d f tm dt).2.1 (addR l d f tm dt).2.2.1 tm
    split
    · have h3 := swapR_len (syncR (addR l d f tm dt).1 (addR l d f tm dt).2.1 (addR l d f tm dt).2.2.1 tm).1 (syncR (addR l d f tm dt).1 (addR l d f tm dt).2.1 (addR l d f tm dt).2.2.1 tm).2.1 (syncR (addR l d f tm dt).1 (addR l d f tm dt).2.1 (addR l d f tm dt).2.2.1 tm).2.2.1 tm nm
      omega
    · omega
  · omega
theorem putR_len (l d f nm dt) : (putR l d f nm dt).1.length ≤ l.length + 4 := by
  unfold putR
  have h1 := dropR_len l d f (tmp nm)
  split
  · split
    · have h2 := tailR_len (dropR l d f (tmp nm)).1 (dropR l d f (tmp nm)).2.1 (dropR l d f (tmp nm)).2.2.1 (tmp nm) nm dt
      omega
    · omega
  · have h2 := tailR_len l d f (tmp nm) nm dt
    omega
theorem dropR_mem {l : List S71} {d : Bool} {f : Int} {n : ByteArray} : ∀ x ∈ (dropR l d f n).1, x ∈ l := by
  intro x hx
  unfold dropR outcome opR at hx
  split at hx
  · simp at hx
  · split at hx
    · exact hx
    · split at hx
      · exact hx
      · have ho := oAt_at n l
        generalize oAt n l = o at hx ho
        cases ho with
        | bad h => split at hx <;> exact hx
        | none A B _ e _ _ => split at hx <;> exact hx
        | some A g B _ e _ _ _ =>
          split at hx
          · exact hx
          · rw [e]; exact mem_mid.2 (.inr hx)
theorem all_ev (l : List S71) (d : Bool) (f : Int) (tm nm dt : ByteArray) (hl : l.length + 3 < 3518437208883) (hf : f < 9223372036854775808) (hs : ∀ x ∈ l, x.f1.size ≤ 4611686018427387903) (hd : dt.size ≤ 4611686018427387904) :
    Ev (fun k => hard_all.f k tm nm dt l d f) (tailR l d f tm nm dt) := by
  unfold hard_all.f tailR
  refine Ev.bind (Add_ev l d f tm dt _ (oAt_at tm l) (by omega) hf hs hd) ?_
  show Ev (fun k => if (addR l d f tm dt).2.2.2 = 0 then hard_all.s1 k tm nm (addR l d f tm dt).1 (addR l d f tm dt).2.1 (addR l d f tm dt).2.2.1 else some (addR l d f tm dt)) _
  have l1 := addR_len l d f tm dt
  have f1 : (addR l d f tm dt).2.2.1 < 9223372036854775808 := opR_fuse hf
  by_cases c1 : (addR l d f tm dt).2.2.2 = 0
  · rw [if_pos c1]
    refine Ev.pos c1 ?_
    generalize addR l d f tm dt = x at l1 f1 ⊢
    unfold hard_all.s1
    refine Ev.bind (Sync_ev x.1 x.2.1 x.2.2.1 tm _ (oAt_at tm x.1) (by omega) f1) ?_
    show Ev (fun k => if (syncR x.1 x.2.1 x.2.2.1 tm).2.2.2 = 0 then hard_all.s2 k tm nm (syncR x.1 x.2.1 x.2.2.1 tm).1 (syncR x.1 x.2.1 x.2.2.1 tm).2.1 (syncR x.1 x.2.1 x.2.2.1 tm).2.2.1 else some (syncR x.1 x.2.1 x.2.2.1 tm)) _
    have l2 := syncR_len x.1 x.2.1 x.2.2.1 tm
    have f2 : (syncR x.1 x.2.1 x.2.2.1 tm).2.2.1 < 9223372036854775808 := opR_fuse f1
    by_cases c2 : (syncR x.1 x.2.1 x.2.2.1 tm).2.2.2 = 0
    · rw [if_pos c2]
      refine Ev.pos c2 ?_
      generalize syncR x.1 x.2.1 x.2.2.1 tm = y at l2 f2 ⊢
      unfold hard_all.s2
      refine Ev.bind (Swap_ev y.1 y.2.1 y.2.2.1 tm nm _ (oAt_at tm y.1) (by omega) f2) ?_
      show Ev (fun k => if (swapR y.1 y.2.1 y.2.2.1 tm nm).2.2.2 = 0 then some ((swapR y.1 y.2.1 y.2.2.1 tm nm).1, (swapR y.1 y.2.1 y.2.2.1 tm nm).2.1, (swapR y.1 y.2.1 y.2.2.1 tm nm).2.2.1, 0) else some (swapR y.1 y.2.1 y.2.2.1 tm nm)) _
      generalize swapR y.1 y.2.1 y.2.2.1 tm nm = z
      obtain ⟨z1, z2, z3, z4⟩ := z
      by_cases c3 : z4 = 0
      · subst c3; exact Ev.pos rfl (Ev.now _)
      · exact Ev.neg c3 (Ev.now _)
    · rw [if_neg c2]
      exact Ev.neg c2 (Ev.now _)
  · rw [if_neg c1]
    exact Ev.neg c1 (Ev.now _)
theorem Put_ev (l : List S71) (d : Bool) (f : Int) (nm dt : ByteArray) (hl : l.length + 4 < 3518437208883) (hf : f < 9223372036854775808) (hs : ∀ x ∈ l, x.f1.size ≤ 4611686018427387903) (hd : dt.size ≤ 4611686018427387904) (hn : nm.size ≤ 4611686018427387904) :
    Ev (fun k => hard_Put.f k l d f nm dt) (putR l d f nm dt) := by
  unfold hard_Put.f putR
  refine Ev.pos (by omega) (Ev.bind (Read_ev l d f (tmp nm) _ (oAt_at (tmp nm) l) (by omega)) ?_)
  show Ev (fun k => if (rdR l d (tmp nm)).2 = 0 then _ else _) _
  by_cases c1 : (rdR l d (tmp nm)).2 = 0
  · rw [if_pos c1]
    refine Ev.pos c1 (Ev.bind (Drop_ev l d f (tmp nm) _ (oAt_at (tmp nm) l) (by omega) hf) ?_)
    show Ev (fun k => if (dropR l d f (tmp nm)).2.2.2 = 0 then hard_all.f k (tmp nm) nm dt (dropR l d f (tmp nm)).1 (dropR l d f (tmp nm)).2.1 (dropR l d f (tmp nm)).2.2.1 else some (dropR l d f (tmp nm))) _
    have l1 := dropR_len l d f (tmp nm)
    have f1 : (dropR l d f (tmp nm)).2.2.1 < 9223372036854775808 := opR_fuse hf
    by_cases c2 : (dropR l d f (tmp nm)).2.2.2 = 0
    · rw [if_pos c2]
      exact Ev.pos c2 (all_ev _ _ _ _ _ _ (by omega) f1 (fun x hx => hs x (dropR_mem x hx)) hd)
    · rw [if_neg c2]
      exact Ev.neg c2 (Ev.now _)
  · rw [if_neg c1]
    exact Ev.neg c1 (all_ev l d f (tmp nm) nm dt (by omega) hf hs hd)

/-! What is there then -/
structure Saved (l : List S71) (nm dt : ByteArray) (e : List S71) : Prop where
  good : Good e
  mem : ∀ x, x ∈ e ↔ (x ∈ l ∧ Dk.nm x ≠ nm.toList ∧ Dk.nm x ≠ (tmp nm).toList) ∨ x = ⟨nm, dt, (dt.size : Int)⟩
structure Unsaved (l : List S71) (f : Int) (nm dt : ByteArray) (w : Int) (e : List S71) : Prop where
  good : Good e
  bytes : ∀ x ∈ e, x ∈ l ∨ x.f1 = dt
  mem : ∀ x, Dk.nm x ≠ (tmp nm).toList → (x ∈ e ↔ x ∈ l)
  why : w = 8 ∧ 0 ≤ f ∨ w = 11 ∧ 4096 ≤ l.length
end Go.Proofs.Ytpigjmjbfpipnaa.Dk
