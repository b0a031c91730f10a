/- What stands in the file 'snap', what is loaded of it, and what saving comes to. No condition of its own. -/
import Derived.Test.YtpigjmjbfpipnaaPEx7
import Derived.Test.YtpigjmjbfpipnaaPEx11
import Derived.Test.YtpigjmjbfpipnaaPEx3
import Derived.Test.YtpigjmjbfpipnaaHdPute
import Derived.Test.YtpigjmjbfpipnaaPackLawe
import Derived.Test.YtpigjmjbfpipnaaSnCodee
namespace Go.Proofs.Ytpigjmjbfpipnaa.Sn
open Go.RowKit Go.Proofs.YtpigjmjbfpipnaaW.PrintWords Go.Proofs.YtpigjmjbfpipnaaW.PrintLast Go.Proofs.YtpigjmjbfpipnaaW.PrintMore Go.Proofs.Ytpigjmjbfpipnaa.PE Go.Proofs.Ytpigjmjbfpipnaa.Ba Go.Proofs.Ytpigjmjbfpipnaa.Sh Go.Proofs.Ytpigjmjbfpipnaa.Op Go.Proofs.Ytpigjmjbfpipnaa.Dk
set_option linter.unusedVariables false
attribute [local instance 10] Classical.propDecidable

abbrev R5 := Int × Int × List Int × ByteArray × Int
def sname : ByteArray := (⟨#[115, 110, 97, 112]⟩ : ByteArray)
theorem named_s : named sname := ⟨by rw [sname, ByteArray.toList_eq]; simp, by show 4 ≤ 32; omega⟩
theorem tmp_s : tmp sname = (⟨#[115, 110, 97, 112, 46, 116, 109, 112]⟩ : ByteArray) := rfl
theorem named_st : named (tmp sname) := ⟨by rw [tmp_s, ByteArray.toList_eq]; simp, by show 8 ≤ 32; omega⟩
theorem ne_st : sname.toList ≠ (tmp sname).toList := by rw [tmp_s, sname, ByteArray.toList_eq, ByteArray.toList_eq]; simp
theorem takeF_len (l : List UInt8) : (takeF l).1.length ≤ l.length := by
  unfold takeF
  repeat' split
  all_goals first | exact Nat.zero_le _ | (simp only [List.length_take, List.length_drop]; omega)
theorem frame_small (p : List UInt8) (h : p.length ≤ 65536) : frameR p = (ba (frameL p), 0) := by unfold frameR; rw [if_neg (by omega)]
theorem rdR_size {l : List S71} {d : Bool} {n : ByteArray} {B : Nat} (hs : ∀ x ∈ l, x.f1.size ≤ B) : (rdR l d n).1.size ≤ B := by
  unfold rdR readR
  split
  · exact Nat.zero_le _
  · split
    · exact Nat.zero_le _
    · have ho := oAt_at n l
      generalize oAt n l = o at ho
      cases ho with
      | bad h => exact Nat.zero_le _
      | none A B _ e _ _ => exact Nat.zero_le _
      | some A g B _ e _ _ _ => exact hs g (by rw [e]; exact mem_mid.2 (.inl rfl))
def sfileL (i t : Nat) (ms : List Int) (d : List UInt8) : List UInt8 := frameL (snapL i t ms d)
theorem sfileL_len {i t : Nat} {ms : List Int} {d : List UInt8} (h : snapOk i t ms d) : (snapL i t ms d).length ≤ 65536 ∧ (sfileL i t ms d).length ≤ 65600 := by
  obtain ⟨_, h2, h3⟩ := ok_mem h
  have := snapL_len i t ms d h2
  unfold sfileL
  rw [frameL_length]
  omega
/-- What bytes are as a snapshot: theirs, or none. -/
noncomputable def loadSB (s : List UInt8) : R5 := if (takeF s).2.2 = 0 ∧ (takeF s).2.1 = [] then decR (takeF s).1 else (0, 0, [], ba [], 4)
theorem decR_two (l : List UInt8) : (decR l).2.2.2.2 = 0 ∨ decR l = (0, 0, [], ba [], 4) := by
  unfold decR
  split
  · split
    · exact .inl rfl
    · exact .inr rfl
  · exact .inr rfl
theorem loadSB_file {i t : Nat} {ms : List Int} {d : List UInt8} (hi : i < 18446744073709551616) (ht : t < 18446744073709551616) (h : snapOk i t ms d) : loadSB (sfileL i t ms d) = ((i : Int), (t : Int), ms, ba d, 0) := by
  have h1 := takeF_frameL (snapL i t ms d) [] (sfileL_len h).1
  rw [List.append_nil] at h1
  unfold loadSB sfileL
  rw [h1, if_pos ⟨rfl, rfl⟩]
  exact decR_snapL hi ht h
theorem loadSB_ev (s : List UInt8) (hs : s.length ≤ 4611686018427387903) :
    Ev (fun k => (pack_TakeFrame.f k (ba s)).bind fun x => (snap_Decode.f k x.1).bind fun y => if x.2.2 = 0 then (if y.2.2.2.2 = 0 then (if x.2.1.toList = ([] : List UInt8) then some (y.1, y.2.1, y.2.2.1, y.2.2.2.1, (0 : Int)) else some (0, 0, ([] : List Int), (⟨#[]⟩ : ByteArray), 4)) else some (0, 0, ([] : List Int), (⟨#[]⟩ : ByteArray), 4)) else some (0, 0, ([] : List Int), (⟨#[]⟩ : ByteArray), 4)) (loadSB s) := by
  have hlen := takeF_len s
  refine Ev.bind (TakeFrame_ev s (by omega)) (Ev.bind (Decode_ev _ (by omega)) ?_)
  unfold loadSB
  show Ev (fun k => if ((takeF s).2.2 : Int) = 0 then (if (decR (takeF s).1).2.2.2.2 = 0 then (if (ba (takeF s).2.1).toList = ([] : List UInt8) then some ((decR (takeF s).1).1, (decR (takeF s).1).2.1, (decR (takeF s).1).2.2.1, (decR (takeF s).1).2.2.2.1, (0 : Int)) else some (0, 0, ([] : List Int), (⟨#[]⟩ : ByteArray), 4)) else some (0, 0, ([] : List Int), (⟨#[]⟩ : ByteArray), 4)) else some (0, 0, ([] : List Int), (⟨#[]⟩ : ByteArray), 4)) _
  rw [ba_list]
  by_cases c1 : (takeF s).2.2 = 0
  · refine Ev.pos (by omega) ?_
    by_cases c2 : (takeF s).2.1 = []
    · have hc : (takeF s).2.2 = 0 ∧ (takeF s).2.1 = [] := ⟨c1, c2⟩
      rw [if_pos hc]
      rcases decR_two (takeF s).1 with e | e
      · generalize decR (takeF s).1 = z at e ⊢
        obtain ⟨z1, z2, z3, z4, z5⟩ := z
        have e : z5 = 0 := e
        subst e
        exact Ev.pos rfl (Ev.pos c2 (Ev.now _))
      · rw [e]
        exact Ev.neg (by simp) (Ev.now _)
    · have hc : ¬ ((takeF s).2.2 = 0 ∧ (takeF s).2.1 = []) := fun h => c2 h.2
      rw [if_neg hc]
      exact Ev.ite (fun _ => Ev.neg c2 (Ev.now _)) (fun _ => Ev.now _)
  · have hc : ¬ ((takeF s).2.2 = 0 ∧ (takeF s).2.1 = []) := fun h => c1 h.1
    rw [if_neg hc]
    exact Ev.neg (by omega) (Ev.now _)
noncomputable def loadSR (l : List S71) (d : Bool) : R5 :=
  if (rdR l d sname).2 = 0 then loadSB (rdR l d sname).1.toList else if (rdR l d sname).2 = 6 then (0, 0, [], ba [], 0) else (0, 0, [], ba [], (rdR l d sname).2)
theorem LoadS_ev (l : List S71) (d : Bool) (f : Int) (hl : l.length < 4611686018427387904) (hs : ∀ x ∈ l, x.f1.size ≤ 4611686018427387903) : Ev (fun k => snap_Load.f k l d f) (loadSR l d) := by
  unfold snap_Load.f loadSR
  have hR : Ev (fun k => disk_Read.f k l d f (⟨#[115, 110, 97, 112]⟩ : ByteArray)) (rdR l d sname) := Read_ev l d f _ _ (oAt_at (⟨#[115, 110, 97, 112]⟩ : ByteArray) l) hl
  have hz := rdR_size (d := d) (n := sname) hs
  generalize rdR l d sname = x at hR hz ⊢
  refine Ev.bind hR ?_
  obtain ⟨x1, x2⟩ := x
  obtain ⟨s, rfl, hsl⟩ := exists_ba x1
  by_cases c : x2 = 0
  · subst c
    rw [if_pos rfl]
    have := loadSB_ev s (by rw [hsl]; exact hz)
    rw [show loadSB s = loadSB (ba s).toList by rw [ba_list]] at this
    exact Ev.neg (by show ¬ (0 : Int) = 6; decide) (Ev.pos rfl this)
  · rw [if_neg c]
    by_cases c2 : x2 = 6
    · rw [if_pos c2]; exact Ev.pos c2 (Ev.now _)
    · rw [if_neg c2]; exact Ev.neg c2 (Ev.neg c (Ev.now _))

/-! Saving -/
noncomputable def noSR (l : List S71) (d : Bool) (f w : Int) : R4 := if Dk.Good l then (l, d, f, w) else ([], false, 0, w)
noncomputable def saveSR (l : List S71) (d : Bool) (f : Int) (i t : Nat) (ms : List Int) (dt : List UInt8) : R4 :=
  if snapOk i t ms dt then
    (if (loadSR l d).2.2.2.2 = 0 then (if (loadSR l d).1 > (i : Int) then noSR l d f 17 else putR l d f sname (ba (sfileL i t ms dt))) else noSR l d f (loadSR l d).2.2.2.2)
  else noSR l d f 4
theorem save_j0 (l : List S71) (d : Bool) (f : Int) (i t : Nat) (ms : List Int) (dt : List UInt8) (w : Int) (hi : i < 18446744073709551616) (ht : t < 18446744073709551616) (hok : w = 0 → snapOk i t ms dt) (hl : l.length + 4 < 3518437208883) (hf : f < 9223372036854775808) (hs : ∀ x ∈ l, x.f1.size ≤ 4611686018427387903) :
    Ev (fun k => snap_Save.j0 k w l d f (i : Int) (t : Int) ms (ba dt)) (if w = 0 then putR l d f sname (ba (sfileL i t ms dt)) else noSR l d f w) := by
  refine Ev.step (fun k => rfl) ?_
  simp only [snap_Save.j0]
  by_cases c : w = 0
  · have h := hok c
    obtain ⟨z1, z2⟩ := sfileL_len h
    rw [if_pos c]
    refine Ev.pos c (Ev.bind (Bytes_ev i t ms dt hi ht h) (Ev.bind (Frame_ev _ (by omega)) ?_))
    rw [frame_small _ z1]
    refine Ev.bind (Put_ev l d f sname _ hl hf hs (by show (ba (sfileL i t ms dt)).size ≤ _; rw [ba_size]; omega) (by show 4 ≤ _; omega)) ?_
    exact Ev.now _
  · rw [if_neg c]
    refine Ev.neg c (Ev.bind (Dk.Check_ev l d f (by omega)) ?_)
    unfold noSR
    by_cases hg : Dk.Good l
    · rw [if_pos hg, res_pos hg]
      refine Ev.pos rfl (Ev.bind (Ev.now _) (Ev.pos (by simp only [List.length_nil]; omega) ?_))
      exact Ev.now _
    · rw [if_neg hg, res_neg hg]
      exact Ev.neg (by decide) (Ev.now _)
theorem SaveS_ev (l : List S71) (d : Bool) (f : Int) (i t : Nat) (ms : List Int) (dt : List UInt8) (hi : i < 18446744073709551616) (ht : t < 18446744073709551616) (hm : ms.length < 4611686018427387904) (hl : l.length + 4 < 3518437208883) (hf : f < 9223372036854775808) (hs : ∀ x ∈ l, x.f1.size ≤ 4611686018427387903) :
    Ev (fun k => snap_Save.f k l d f (i : Int) (t : Int) ms (ba dt)) (saveSR l d f i t ms dt) := by
  unfold snap_Save.f saveSR
  refine Ev.bind (Check_ev i t ms dt hm) ?_
  by_cases h : snapOk i t ms dt
  · have hj := fun w => save_j0 l d f i t ms dt w hi ht (fun _ => h) hl hf hs
    rw [okR_0 h, if_pos h]
    refine Ev.pos rfl (Ev.bind (LoadS_ev l d f (by omega) hs) ?_)
    generalize loadSR l d = z
    by_cases c : z.2.2.2.2 = 0
    · rw [if_pos c]
      refine Ev.pos c ?_
      by_cases c2 : z.1 > (i : Int)
      · rw [if_pos c2]
        refine Ev.pos c2 ?_
        have := hj 17
        rwa [if_neg (by decide)] at this
      · rw [if_neg c2]
        refine Ev.neg c2 ?_
        have := hj z.2.2.2.2
        rwa [if_pos c] at this
    · rw [if_neg c]
      refine Ev.neg c ?_
      have := hj z.2.2.2.2
      rwa [if_neg c] at this
  · rw [okR_4 h, if_neg h]
    refine Ev.neg (by decide) ?_
    have := save_j0 l d f i t ms dt 4 hi ht (fun e => absurd e (by decide)) hl hf hs
    rwa [if_neg (by decide)] at this
/-- Loaded of a right disk that stands: what is there. -/
theorem loadS_some {l : List S71} (hg : Dk.Good l) {i t : Nat} {ms : List Int} {d : List UInt8} (hi : i < 18446744073709551616) (ht : t < 18446744073709551616) (h : snapOk i t ms d) {g : S71} (hm : g ∈ l) (hn : nm g = sname.toList) (hb : g.f1 = ba (sfileL i t ms d)) : loadSR l false = ((i : Int), (t : Int), ms, ba d, 0) := by
  unfold loadSR
  rw [show rdR l false sname = (g.f1, 0) from rd_some hg hm hn, if_pos rfl, hb]
  show loadSB (ba (sfileL i t ms d)).toList = _
  rw [ba_list]; exact loadSB_file hi ht h
theorem loadS_same {l l' : List S71} (hg : Dk.Good l) (hg' : Dk.Good l') (hm : ∀ g, nm g = sname.toList → (g ∈ l ↔ g ∈ l')) : loadSR l false = loadSR l' false := by
  unfold loadSR rdR
  rw [readR_go hg, readR_go hg', readO_same (oAt_at sname l) (oAt_at sname l') hg hg' hm]
end Go.Proofs.Ytpigjmjbfpipnaa.Sn
