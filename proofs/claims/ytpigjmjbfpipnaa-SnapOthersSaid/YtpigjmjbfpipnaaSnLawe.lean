/- What the laws of snapshots on a disk share. No condition of its own. -/
import Derived.Test.YtpigjmjbfpipnaaPEx7
import Derived.Test.YtpigjmjbfpipnaaPEx11
import Derived.Test.YtpigjmjbfpipnaaSnFilee
namespace Go.Proofs.Ytpigjmjbfpipnaa.Sn
open Go.RowKit Go.Proofs.YtpigjmjbfpipnaaW.PrintWords Go.Proofs.YtpigjmjbfpipnaaW.PrintLast Go.Proofs.YtpigjmjbfpipnaaW.PrintMore Go.Proofs.Ytpigjmjbfpipnaa.PE Go.Proofs.Ytpigjmjbfpipnaa.Ba Go.Proofs.Ytpigjmjbfpipnaa.Sh Go.Proofs.Ytpigjmjbfpipnaa.Op Go.Proofs.Ytpigjmjbfpipnaa.Dk
set_option linter.unusedVariables false
attribute [local instance 10] Classical.propDecidable

/-- What saving on a right disk that stands comes to. -/
inductive SaveOf (l : List S71) (f : Int) (i t : Nat) (ms : List Int) (dt : List UInt8) (r : R4) : Prop where
  | no (w : Int) (e : r = (l, false, f, w)) (hw : w = 4 ∨ w = 17)
  | done (ok : snapOk i t ms dt) (h0 : r.2.2.2 = 0) (h1 : r.2.1 = false) (h2 : f < 0 → r.2.2.1 = f) (hS : Saved l sname (ba (sfileL i t ms dt)) r.1)
  | off (ok : snapOk i t ms dt) (h0 : r.2.2.2 ≠ 0) (hU : Unsaved l f sname (ba (sfileL i t ms dt)) r.2.2.2 r.1)
theorem loadSB_why (s : List UInt8) : (loadSB s).2.2.2.2 = 0 ∨ (loadSB s).2.2.2.2 = 4 := by
  unfold loadSB
  split
  · rcases decR_two (takeF s).1 with e | e
    · exact .inl e
    · rw [e]; exact .inr rfl
  · exact .inr rfl
theorem loadSR_why {l : List S71} (hg : Dk.Good l) : (loadSR l false).2.2.2.2 = 0 ∨ (loadSR l false).2.2.2.2 = 4 := by
  unfold loadSR
  by_cases hm : ∃ g ∈ l, nm g = sname.toList
  · obtain ⟨g, h1, h2⟩ := hm
    rw [rd_some hg h1 h2, if_pos rfl]
    exact loadSB_why _
  · rw [rd_none hg (fun g h1 h2 => hm ⟨g, h1, h2⟩), if_neg (by decide), if_pos rfl]
    exact .inl rfl
theorem save_of {l : List S71} (hg : Dk.Good l) (f : Int) (i t : Nat) (ms : List Int) (dt : List UInt8) : SaveOf l f i t ms dt (saveSR l false f i t ms dt) := by
  have hn : ∀ w, noSR l false f w = (l, false, f, w) := fun w => by unfold noSR; exact if_pos hg
  unfold saveSR
  by_cases h : snapOk i t ms dt
  · rw [if_pos h]
    by_cases c : (loadSR l false).2.2.2.2 = 0
    · rw [if_pos c]
      by_cases c2 : (loadSR l false).1 > (i : Int)
      · rw [if_pos c2, hn]
        exact .no 17 rfl (.inr rfl)
      · rw [if_neg c2]
        rcases put_sem (f := f) (nm := sname) (dt := ba (sfileL i t ms dt)) hg named_s named_st ne_st with ⟨h0, h1, h2, hS⟩ | ⟨h0, hU⟩
        · exact .done h h0 h1 h2 hS
        · exact .off h h0 hU
    · rw [if_neg c, hn]
      rcases loadSR_why hg with e | e
      · exact absurd e c
      · rw [e]
        exact .no 4 rfl (.inl rfl)
  · rw [if_neg h, hn]
    exact .no 4 rfl (.inl rfl)
theorem save_ofgood {l : List S71} (hg : Dk.Good l) {f : Int} {i t : Nat} {ms : List Int} {dt : List UInt8} {r : R4} (h : SaveOf l f i t ms dt r) : Dk.Good r.1 := by
  cases h with
  | no w e hw => rw [e]; exact hg
  | done ok h0 h1 h2 hS => exact hS.good
  | off ok h0 hU => exact hU.good
theorem save_ofsize {l : List S71} {f : Int} {i t : Nat} {ms : List Int} {dt : List UInt8} {r : R4} (h : SaveOf l f i t ms dt r) (hs : ∀ x ∈ l, x.f1.size ≤ 4611686018427387903) : ∀ x ∈ r.1, x.f1.size ≤ 4611686018427387903 := by
  have hd : snapOk i t ms dt → (ba (sfileL i t ms dt)).size ≤ 4611686018427387903 := fun h => by rw [ba_size]; have := (sfileL_len h).2; omega
  cases h with
  | no w e hw => rw [e]; exact hs
  | done ok h0 h1 h2 hS =>
    intro y hy
    rcases (hS.mem y).1 hy with h | h
    · exact hs y h.1
    · rw [h]; exact hd ok
  | off ok h0 hU =>
    intro y hy
    rcases hU.bytes y hy with h | h
    · exact hs y h
    · rw [h]; exact hd ok
theorem down_power {l : List S71} (hg : Dk.Good l) (f : Int) (i t : Nat) (ms : List Int) (dt : List UInt8) : saveSR l true f i t ms dt = (l, true, f, 8) ∨ saveSR l true f i t ms dt = (l, true, f, 4) := by
  have hn : ∀ w, noSR l true f w = (l, true, f, w) := fun w => by unfold noSR; exact if_pos hg
  have hL : loadSR l true = (0, 0, [], ba [], 8) := by
    have hr : rdR l true sname = (⟨#[]⟩, 8) := by unfold rdR; exact readR_down hg _
    unfold loadSR
    rw [hr, if_neg (by decide), if_neg (by decide)]
  unfold saveSR
  by_cases h : snapOk i t ms dt
  · rw [if_pos h, hL, if_neg (by decide), hn]
    exact .inl rfl
  · rw [if_neg h, hn]
    exact .inr rfl
theorem saveSR_len (l : List S71) (d : Bool) (f : Int) (i t : Nat) (ms : List Int) (dt : List UInt8) : (saveSR l d f i t ms dt).1.length ≤ l.length + 4 := by
  have hn : ∀ w, (noSR l d f w).1.length ≤ l.length + 4 := fun w => by
    unfold noSR
    split
    · exact Nat.le_add_right _ _
    · exact Nat.zero_le _
  unfold saveSR
  split
  · split
    · split
      · exact hn _
      · exact putR_len _ _ _ _ _
    · exact hn _
  · exact hn _
/-- A disk that stood and is off was told so. -/
theorem opR_fine {why : Int} {l l0 l1 : List S71} {f : Int} {d : Bool} (hd : d = false) (h : (opR why l l0 l1 d f).2.2.2 ≠ 8) : (opR why l l0 l1 d f).2.1 = false := by
  subst hd
  by_cases hg : Dk.Good l
  · by_cases hw : why = 0
    · subst hw
      rw [opR_go hg] at h ⊢
      split at h
      · exact absurd rfl h
      · rename_i h0; rw [if_neg h0]
    · rw [opR_why hg hw]
  · rw [opR_bad hg]
theorem tailR_fine {l : List S71} {f : Int} {a b c : ByteArray} {d : Bool} (hd : d = false) (h : (tailR l d f a b c).2.2.2 ≠ 8) : (tailR l d f a b c).2.1 = false := by
  unfold tailR at h ⊢
  split at h
  · rename_i h1
    rw [if_pos h1]
    have d1 : (addR l d f a c).2.1 = false := opR_fine hd (by rw [show (opR _ _ _ _ d f).2.2.2 = (0 : Int) from h1]; decide)
    split at h
    · rename_i h2
      rw [if_pos h2]
      have d2 := opR_fine (why := _) (l := _) (l0 := _) (l1 := _) (f := _) d1 (by rw [show (opR _ _ _ _ _ _).2.2.2 = (0 : Int) from h2]; decide)
      exact opR_fine d2 h
    · rename_i h2
      rw [if_neg h2]
      exact opR_fine d1 h
  · rename_i h1
    rw [if_neg h1]
    exact opR_fine hd h
theorem putR_fine {l : List S71} {f : Int} {nm dt : ByteArray} {d : Bool} (hd : d = false) (h : (putR l d f nm dt).2.2.2 ≠ 8) : (putR l d f nm dt).2.1 = false := by
  unfold putR at h ⊢
  split at h
  · rename_i h1
    rw [if_pos h1]
    split at h
    · rename_i h2
      rw [if_pos h2]
      have d2 : (dropR l d f (tmp nm)).2.1 = false := opR_fine hd (by rw [show (opR _ _ _ _ d f).2.2.2 = (0 : Int) from h2]; decide)
      exact tailR_fine d2 h
    · rename_i h2
      rw [if_neg h2]
      exact opR_fine hd h
  · rename_i h1
    rw [if_neg h1]
    exact tailR_fine hd h
theorem saveSR_fine {l : List S71} (hg : Dk.Good l) {f : Int} {i t : Nat} {ms : List Int} {dt : List UInt8} (h : (saveSR l false f i t ms dt).2.2.2 ≠ 8) : (saveSR l false f i t ms dt).2.1 = false := by
  have hn : ∀ w, (noSR l false f w).2.1 = false := fun w => by unfold noSR; rw [if_pos hg]
  unfold saveSR at h ⊢
  split at h
  · rename_i h1
    rw [if_pos h1]
    split at h
    · rename_i h2
      rw [if_pos h2]
      split at h
      · rename_i h3; rw [if_pos h3]; exact hn _
      · rename_i h3; rw [if_neg h3]; exact putR_fine rfl h
    · rename_i h2; rw [if_neg h2]; exact hn _
  · rename_i h1; rw [if_neg h1]; exact hn _
/-- What came in as a snapshot: two numbers, some members, some bytes. -/
structure CameS (x : S48) (i t : Nat) (d : List UInt8) : Prop where
  ei : x.f0 = (i : Int)
  et : x.f1 = (t : Int)
  ed : x.f3 = ba d
  hi : i < 18446744073709551616
  ht : t < 18446744073709551616
  hm : x.f2.length < 4611686018427387904
theorem cameS {x : S48} (h : ok48 x) : ∃ i t d, CameS x i t d := by
  obtain ⟨hi0, ht0, hm, hd⟩ := h
  obtain ⟨i, ei, hi⟩ := nat_of_u64 hi0
  obtain ⟨t, et, ht⟩ := nat_of_u64 ht0
  obtain ⟨d, ed, hdl⟩ := exists_ba x.f3
  exact ⟨i, t, d, ei, et, ed, hi, ht, by have := hm.1; omega⟩
end Go.Proofs.Ytpigjmjbfpipnaa.Sn
