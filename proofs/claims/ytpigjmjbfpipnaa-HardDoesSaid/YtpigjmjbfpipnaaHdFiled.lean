import Derived.Test.YtpigjmjbfpipnaaPDx6
import Derived.Test.YtpigjmjbfpipnaaPDx5
import Derived.Test.YtpigjmjbfpipnaaPDx9
import Derived.Test.YtpigjmjbfpipnaaPDx13
import Derived.Test.YtpigjmjbfpipnaaHdPutd
import Derived.Test.YtpigjmjbfpipnaaPackLawd
namespace Go.Proofs.Ytpigjmjbfpipnaa.Dk
open Go.RowKit YtpigjmjbfpipnaaW.PrintWords YtpigjmjbfpipnaaW.PrintLast YtpigjmjbfpipnaaW.PrintMore Ytpigjmjbfpipnaa.PD Ba Sh Ytpigjmjbfpipnaa.Op
set_option linter.unusedVariables false
attribute [local instance 10] Classical.propDecidable

def payL (t v : Nat) : List UInt8 := numL t ++ numL v
def fileL (t v : Nat) : List UInt8 := frameL (payL t v)
theorem payL_len (t v : Nat) : (payL t v).length ≤ 18 := by
  unfold payL
  rw [List.length_append, numL_length, numL_length]
  have := nl_le t; have := nl_le v
  omega
theorem fileL_len (t v : Nat) : (fileL t v).length ≤ 24 := by unfold fileL; rw [frameL_length]; have := payL_len t v; omega
theorem take_file (t v : Nat) : takeF (fileL t v) = (payL t v, [], 0) := by
  have := takeF_frameL (payL t v) [] (by have := payL_len t v; omega)
  rwa [List.append_nil] at this
theorem take_term (t v : Nat) (ht : t < 18446744073709551616) : takeN (payL t v) = (t, numL v, 0) := takeN_numL t ht _
theorem take_vote (v : Nat) (hv : v < 18446744073709551616) : takeN (numL v) = (v, [], 0) := by
  have := takeN_numL v hv []
  rwa [List.append_nil] at this
theorem fileL_inj {t v t' v' : Nat} (ht : t < 18446744073709551616) (hv : v ≤ 7) (ht' : t' < 18446744073709551616) (hv' : v' ≤ 7) (h : fileL t v = fileL t' v') : t = t' ∧ v = v' := by
  have h1 := take_file t v
  rw [h, take_file] at h1
  have h2 : payL t' v' = payL t v := (Prod.mk.inj h1).1
  have h3 := take_term t v ht
  rw [← h2, take_term t' v' ht'] at h3
  obtain ⟨e1, e2⟩ := Prod.mk.inj h3
  have h4 := take_vote v (by omega)
  rw [← (Prod.mk.inj e2).1, take_vote v' (by omega)] at h4
  exact ⟨e1.symm, (Prod.mk.inj h4).1.symm⟩
theorem frame_small (p : List UInt8) (h : p.length ≤ 65536) : frameR p = (ba (frameL p), 0) := by unfold frameR; rw [if_neg (by omega)]
theorem file_ev (t v : Nat) (ht : t < 18446744073709551616) (hv : v ≤ 7) : Ev (fun k => hard_file.f k (t : Int) (v : Int)) (ba (fileL t v)) := by
  unfold hard_file.f
  refine Ev.bind (Number_ev t ht) ?_
  rw [u64_id (n := (v : Int)) (by omega) (by omega)]
  refine Ev.bind (Number_ev v (by omega)) ?_
  have h1 := numL_length t; have h2 := numL_length v; have h3 := nl_le t; have h4 := nl_le v
  refine Ev.pos (by rw [ba_size, ba_size]; omega) ?_
  rw [ba_append]
  refine Ev.bind (Frame_ev (payL t v) (by have := payL_len t v; omega)) ?_
  rw [frame_small _ (by have := payL_len t v; omega)]
  exact Ev.now _
def rdV (p : List UInt8) : Nat × Nat := ((takeN p).1, min (takeN (takeN p).2.1).1 7)
theorem read_ev (p : List UInt8) (hp : p.length ≤ 4611686018427387904) : Ev (fun k => hard_read.f k (ba p)) (((rdV p).1 : Int), ((rdV p).2 : Int)) := by
  unfold hard_read.f
  refine Ev.bind (TakeNumber_ev p hp) (Ev.bind (TakeNumber_ev _ (by have := takeN_len p; omega)) ?_)
  have h := takeN_lt (takeN p).2.1
  have e : wrap64 (mn ((takeN (takeN p).2.1).1 : Int) 7) = ((min (takeN (takeN p).2.1).1 7 : Nat) : Int) := by
    have h7 : mn ((takeN (takeN p).2.1).1 : Int) 7 = ((min (takeN (takeN p).2.1).1 7 : Nat) : Int) := by unfold mn; split <;> omega
    rw [h7, wrap64_id (by omega) (by omega)]
  show Ev (fun _ => some (((takeN p).1 : Int), wrap64 (mn ((takeN (takeN p).2.1).1 : Int) 7))) _
  rw [e]
  exact Ev.now _
theorem takeF_len (l : List UInt8) : (takeF l).1.length ≤ l.length := by
  unfold takeF
  repeat' split
  all_goals first | exact Nat.zero_le _ | (simp only [List.length_take, List.length_drop]; omega)
noncomputable def loadB (s : List UInt8) : Int × Int × Int :=
  if h : ∃ x : Nat × Nat, (x.1 < 18446744073709551616 ∧ x.2 ≤ 7) ∧ s = fileL x.1 x.2 then (((Classical.choose h).1 : Int), ((Classical.choose h).2 : Int), 0) else (0, 0, 4)
theorem loadB_file {t v : Nat} (ht : t < 18446744073709551616) (hv : v ≤ 7) : loadB (fileL t v) = ((t : Int), (v : Int), 0) := by
  have h : ∃ x : Nat × Nat, (x.1 < 18446744073709551616 ∧ x.2 ≤ 7) ∧ fileL t v = fileL x.1 x.2 := ⟨(t, v), ⟨ht, hv⟩, rfl⟩
  unfold loadB
  rw [dif_pos h]
  have hc := Classical.choose_spec h
  obtain ⟨e1, e2⟩ := fileL_inj ht hv hc.1.1 hc.1.2 hc.2
  rw [← e1, ← e2]
theorem loadB_none {s : List UInt8} (h : ∀ t v, t < 18446744073709551616 → v ≤ 7 → s ≠ fileL t v) : loadB s = (0, 0, 4) := by
  unfold loadB
  rw [dif_neg]
  rintro ⟨x, ⟨h1, h2⟩, e⟩
  exact h _ _ h1 h2 e
noncomputable def loadR (l : List S71) (d : Bool) : Int × Int × Int :=
  if (rdR l d (⟨#[104, 97, 114, 100]⟩ : ByteArray)).2 = 0 then loadB (rdR l d (⟨#[104, 97, 114, 100]⟩ : ByteArray)).1.toList else if (rdR l d (⟨#[104, 97, 114, 100]⟩ : ByteArray)).2 = 6 then (0, 0, 0) else (0, 0, (rdR l d (⟨#[104, 97, 114, 100]⟩ : ByteArray)).2)
theorem rdR_size {l : List S71} {d : Bool} {n : ByteArray} {B : Nat} (hs : ∀ x ∈ l, x.f1.size ≤ B) : (rdR l d n).1.size ≤ B := by
  unfold rdR readR
  split
  · exact Nat.zero_le _
  · split
    · exact Nat.zero_le _
    · have ho := oAt_at n l
      generalize oAt n l = o at ho
      cases ho with
      | bad h => exact Nat.zero_le _
      | none A B _ e _ _ => exact Nat.zero_le _
      | some A g B _ e _ _ _ => exact hs g (by rw [e]; exact mem_mid.2 (.inl rfl))
theorem loadS_ev (s : List UInt8) (hs : s.length ≤ 4611686018427387904) :
    Ev (fun k => (pack_TakeFrame.f k (ba s)).bind fun x => (hard_read.f k x.1).bind fun y => (hard_file.f k y.1 y.2).bind fun z => if z.toList = (ba s).toList then some (y.1, y.2, (0 : Int)) else some (0, 0, 4)) (loadB s) := by
  have hlen := takeF_len s
  refine Ev.bind (TakeFrame_ev s hs) (Ev.bind (read_ev _ (by omega)) (Ev.bind (file_ev _ _ (takeN_lt _) (Nat.min_le_right _ _)) ?_))
  by_cases h : ∃ t v, t < 18446744073709551616 ∧ v ≤ 7 ∧ s = fileL t v
  · obtain ⟨t, v, ht, hv, rfl⟩ := h
    have e1 : (takeF (fileL t v)).1 = payL t v := by rw [take_file]
    have e2 : rdV (takeF (fileL t v)).1 = (t, v) := by
      rw [e1]; unfold rdV
      rw [take_term t v ht]
      show (t, min (takeN (numL v)).1 7) = _
      rw [take_vote v (by omega)]
      show (t, min v 7) = _
      rw [Nat.min_eq_left hv]
    rw [loadB_file ht hv]
    show Ev (fun _ => if (ba (fileL (rdV (takeF (fileL t v)).1).1 (rdV (takeF (fileL t v)).1).2)).toList = (ba (fileL t v)).toList then some (((rdV (takeF (fileL t v)).1).1 : Int), ((rdV (takeF (fileL t v)).1).2 : Int), (0 : Int)) else some (0, 0, 4)) _
    rw [e2]
    exact Ev.pos rfl (Ev.now _)
  · rw [loadB_none (fun t v ht hv e => h ⟨t, v, ht, hv, e⟩)]
    refine Ev.neg (fun e => h ⟨(rdV (takeF s).1).1, (rdV (takeF s).1).2, takeN_lt _, Nat.min_le_right _ _, ?_⟩) (Ev.now _)
    rw [ba_list, ba_list] at e
    exact e.symm
theorem Load_ev (l : List S71) (d : Bool) (f : Int) (hl : l.length < 4611686018427387904) (hs : ∀ x ∈ l, x.f1.size ≤ 4611686018427387904) : Ev (fun k => hard_Load.f k l d f) (loadR l d) := by
  unfold hard_Load.f loadR
  have hR : Ev (fun k => disk_Read.f k l d f (⟨#[104, 97, 114, 100]⟩ : ByteArray)) (rdR l d (⟨#[104, 97, 114, 100]⟩ : ByteArray)) := Read_ev l d f _ _ (oAt_at (⟨#[104, 97, 114, 100]⟩ : ByteArray) l) hl
  have hz := rdR_size (d := d) (n := (⟨#[104, 97, 114, 100]⟩ : ByteArray)) hs
  generalize rdR l d (⟨#[104, 97, 114, 100]⟩ : ByteArray) = x at hR hz ⊢
  refine Ev.bind hR ?_
  obtain ⟨x1, x2⟩ := x
  obtain ⟨s, rfl, hsl⟩ := exists_ba x1
  by_cases c : x2 = 0
  · rw [if_pos c]
    refine Ev.pos c ?_
    have := loadS_ev s (by rw [hsl]; exact hz)
    rw [show loadB s = loadB (ba s).toList by rw [ba_list]] at this
    exact this
  · rw [if_neg c]
    refine Ev.neg c ?_
    by_cases c2 : x2 = 6
    · rw [if_pos c2, if_pos c2]; exact Ev.now _
    · rw [if_neg c2, if_neg c2]; exact Ev.now _

/-! Saving -/
def hname : ByteArray := (⟨#[104, 97, 114, 100]⟩ : ByteArray)
noncomputable def saveR (l : List S71) (d : Bool) (f : Int) (t v : Int) : R4 :=
  if v < 0 ∨ 7 < v then (if Good l then (l, d, f, 1) else ([], false, 0, 1)) else putR l d f hname (ba (fileL t.toNat v.toNat))
theorem hcheck (t v : Int) : hard_Check.f t v = some (if v < 0 ∨ 7 < v then 1 else 0) := by
  unfold hard_Check.f
  by_cases h1 : v < 0
  · rw [if_pos h1, if_pos (.inl h1)]
  · rw [if_neg h1]
    by_cases h2 : v > 7
    · rw [if_pos h2, if_pos (.inr h2)]
    · rw [if_neg h2, if_neg (by omega)]
theorem Save_ev (l : List S71) (d : Bool) (f : Int) (t v : Int) (ht : 0 ≤ t) (ht2 : t < 18446744073709551616) (hl : l.length + 4 < 3518437208883) (hf : f < 9223372036854775808) (hs : ∀ x ∈ l, x.f1.size ≤ 4611686018427387903) :
    Ev (fun k => hard_Save.f k l d f t v) (saveR l d f t v) := by
  unfold hard_Save.f saveR
  rw [hcheck]
  by_cases c : v < 0 ∨ 7 < v
  · rw [if_pos c, if_pos c]
    refine Ev.bind (Ev.now _) (Ev.neg (by decide) (Ev.bind (Check_ev l d f (by omega)) ?_))
    by_cases hg : Good l
    · rw [if_pos hg, res_pos hg]
      refine Ev.pos rfl (Ev.bind (Ev.now _) (Ev.pos (by simp only [List.length_nil]; omega) ?_))
      exact Ev.now _
    · rw [if_neg hg, res_neg hg]
      exact Ev.neg (by decide) (Ev.now _)
  · rw [if_neg c, if_neg c]
    have hz : (fileL t.toNat v.toNat).length ≤ 24 := fileL_len _ _
    have hfile := file_ev t.toNat v.toNat (by omega) (by omega)
    rw [Int.toNat_of_nonneg ht, Int.toNat_of_nonneg (by omega)] at hfile
    refine Ev.bind (Ev.now _) (Ev.pos rfl (Ev.bind hfile (Ev.bind (Put_ev l d f hname _ hl hf hs (by rw [ba_size]; omega) (by show 4 ≤ _; omega)) ?_)))
    exact Ev.now _
end Go.Proofs.Ytpigjmjbfpipnaa.Dk
