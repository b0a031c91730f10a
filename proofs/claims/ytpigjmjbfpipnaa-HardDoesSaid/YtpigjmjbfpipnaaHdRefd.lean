import Derived.Test.YtpigjmjbfpipnaaPDx18
import Derived.Test.YtpigjmjbfpipnaaPDx9
import Derived.Test.YtpigjmjbfpipnaaPDx8
import Derived.Test.YtpigjmjbfpipnaaPDx13
import Derived.Test.YtpigjmjbfpipnaaHdFiled
import Derived.Test.YtpigjmjbfpipnaaDkRReadd
import Derived.Test.YtpigjmjbfpipnaaDkRAddd
import Derived.Test.YtpigjmjbfpipnaaDkRSyncd
import Derived.Test.YtpigjmjbfpipnaaDkRSwapd
import Derived.Test.YtpigjmjbfpipnaaDkRDropd
namespace Go.Proofs.Ytpigjmjbfpipnaa.Dk
open Go.RowKit YtpigjmjbfpipnaaW.PrintWords YtpigjmjbfpipnaaW.PrintLast YtpigjmjbfpipnaaW.PrintMore Ytpigjmjbfpipnaa.PD Ba Sh Ytpigjmjbfpipnaa.Op
set_option linter.unusedVariables false
attribute [local instance 10] Classical.propDecidable

theorem rput_j1 (l : List S71) (d : Bool) (f : Int) (tm nm : ByteArray) (w : Int) (hl : l.length + 2 < 3518437208883) (hf : f < 9223372036854775808) :
    Ev (fun k => gafferref04_Put.j1 k nm tm w l d f) (if w = 0 then (if (syncR l d f tm).2.2.2 = 0 then swapR (syncR l d f tm).1 (syncR l d f tm).2.1 (syncR l d f tm).2.2.1 tm nm else syncR l d f tm) else (l, d, f, w)) := by
  refine Ev.step (fun k => rfl) ?_
  simp only [gafferref04_Put.j1]
  by_cases c : w = 0
  · rw [if_pos c]
    have hR : Ev (fun k => gafferref02_Sync.f k l d f tm) (syncR l d f tm) := RSync_ev l d f tm _ (oAt_at tm l) (by omega) hf
    have l2 := syncR_len l d f tm
    have f2 : (syncR l d f tm).2.2.1 < 9223372036854775808 := opR_fuse hf
    generalize syncR l d f tm = y at hR l2 f2 ⊢
    refine Ev.pos c (Ev.bind hR ?_)
    by_cases c2 : y.2.2.2 = 0
    · rw [if_pos c2]
      refine Ev.pos c2 (Ev.bind (RSwap_ev y.1 y.2.1 y.2.2.1 tm nm _ (oAt_at tm y.1) (by omega) f2) (Ev.now _))
    · rw [if_neg c2]
      exact Ev.neg c2 (Ev.now _)
  · rw [if_neg c]
    exact Ev.neg c (Ev.now _)
theorem rput_j0 (l : List S71) (d : Bool) (f : Int) (tm nm dt : ByteArray) (w : Int) (hl : l.length + 3 < 3518437208883) (hf : f < 9223372036854775808) (hs : ∀ x ∈ l, x.f1.size ≤ 4611686018427387903) (hd : dt.size ≤ 4611686018427387904) :
    Ev (fun k => gafferref04_Put.j0 k nm dt tm w l d f) (if w = 0 then tailR l d f tm nm dt else (l, d, f, w)) := by
  refine Ev.step (fun k => rfl) ?_
  simp only [gafferref04_Put.j0]
  by_cases c : w = 0
  · rw [if_pos c]
    unfold tailR
    have hR : Ev (fun k => gafferref02_Add.f k l d f tm dt) (addR l d f tm dt) := RAdd_ev l d f tm dt _ (oAt_at tm l) (by omega) hf hs hd
    have l2 := addR_len l d f tm dt
    have f2 : (addR l d f tm dt).2.2.1 < 9223372036854775808 := opR_fuse hf
    generalize addR l d f tm dt = y at hR l2 f2 ⊢
    refine Ev.pos c (Ev.bind hR ?_)
    have := rput_j1 y.1 y.2.1 y.2.2.1 tm nm y.2.2.2 (by omega) f2
    exact this
  · rw [if_neg c]
    refine Ev.neg c ?_
    have := rput_j1 l d f tm nm w (by omega) hf
    rw [if_neg c] at this
    exact this
theorem RPut_ev (l : List S71) (d : Bool) (f : Int) (nm dt : ByteArray) (hl : l.length + 4 < 3518437208883) (hf : f < 9223372036854775808) (hs : ∀ x ∈ l, x.f1.size ≤ 4611686018427387903) (hd : dt.size ≤ 4611686018427387904) (hn : nm.size ≤ 4611686018427387904) :
    Ev (fun k => gafferref04_Put.f k l d f nm dt) (putR l d f nm dt) := by
  unfold gafferref04_Put.f putR
  have hR : Ev (fun k => gafferref02_Read.f k l d f (tmp nm)) (rdR l d (tmp nm)) := RRead_ev l d f (tmp nm) _ (oAt_at (tmp nm) l) (by omega)
  generalize rdR l d (tmp nm) = x at hR ⊢
  refine Ev.pos (by omega) (Ev.bind hR ?_)
  by_cases c : x.2 = 0
  · rw [if_pos c]
    have hD : Ev (fun k => gafferref02_Drop.f k l d f (tmp nm)) (dropR l d f (tmp nm)) := RDrop_ev l d f (tmp nm) _ (oAt_at (tmp nm) l) (by omega) hf
    have l2 := dropR_len l d f (tmp nm)
    have f2 : (dropR l d f (tmp nm)).2.2.1 < 9223372036854775808 := opR_fuse hf
    have m2 := @dropR_mem l d f (tmp nm)
    generalize dropR l d f (tmp nm) = y at hD l2 f2 m2 ⊢
    refine Ev.pos c (Ev.bind hD ?_)
    exact rput_j0 y.1 y.2.1 y.2.2.1 (tmp nm) nm dt y.2.2.2 (by omega) f2 (fun x hx => hs x (m2 x hx)) hd
  · rw [if_neg c]
    refine Ev.neg c ?_
    have := rput_j0 l d f (tmp nm) nm dt 0 (by omega) hf hs hd
    rw [if_pos rfl] at this
    exact this
theorem rfile_ev (t v : Nat) (ht : t < 18446744073709551616) (hv : v ≤ 7) : Ev (fun k => gafferref04_file.f k (t : Int) (v : Int)) (ba (fileL t v)) := by
  unfold gafferref04_file.f
  refine Ev.bind (RNumber_ev t ht) ?_
  rw [u64_id (n := (v : Int)) (by omega) (by omega)]
  refine Ev.bind (RNumber_ev v (by omega)) ?_
  have h1 := numL_length t; have h2 := numL_length v; have h3 := nl_le t; have h4 := nl_le v
  refine Ev.pos (by rw [ba_size, ba_size]; omega) ?_
  rw [ba_append]
  refine Ev.bind (RFrame_ev (payL t v) (by have := payL_len t v; omega)) ?_
  rw [frame_small _ (by have := payL_len t v; omega)]
  exact Ev.now _
theorem rload_j0 (s : List UInt8) (t v : Nat) (ht : t < 18446744073709551616) (hv : v < 18446744073709551616) (b : Bool) (hb : v ≤ 7 → b = false → s = fileL t v → loadB s = ((t : Int), (v : Int), 0)) (hn : (b = true ∨ 7 < v ∨ s ≠ fileL t v) → loadB s = (0, 0, 4)) (h7 : 7 < v → b = true) :
    Ev (fun k => gafferref04_Load.j0 k (ba s) (t : Int) (v : Int) b) (loadB s) := by
  refine Ev.step (fun k => rfl) ?_
  simp only [gafferref04_Load.j0]
  cases b with
  | true =>
    rw [hn (.inl rfl)]
    exact Ev.pos (by simp) (Ev.now _)
  | false =>
    have hv7 : v ≤ 7 := by
      rcases Nat.lt_or_ge 7 v with h | h
      · exact absurd (h7 h) (by simp)
      · exact h
    rw [wrap64_id (n := (v : Int)) (by omega) (by omega)]
    refine Ev.neg (by simp) (Ev.bind (rfile_ev t v ht hv7) ?_)
    by_cases c : s = fileL t v
    · rw [hb hv7 rfl c]
      exact Ev.pos (by rw [c]) (Ev.now _)
    · rw [hn (.inr (.inr c))]
      exact Ev.neg (fun e => c (by rw [ba_list, ba_list] at e; exact e.symm)) (Ev.now _)
theorem rloadS_ev (s : List UInt8) (hs : s.length ≤ 4611686018427387904) :
    Ev (fun k => (gafferref01_TakeFrame.f k (ba s)).bind fun x => (gafferref01_TakeNumber.f k x.1).bind fun y => (gafferref01_TakeNumber.f k y.2.1).bind fun z => if x.2.2 = 0 then (if y.2.2 = 0 then (if z.2.2 = 0 then (gafferref04_Load.j0 k (ba s) y.1 z.1 (decide (z.1 > 7))) else (gafferref04_Load.j0 k (ba s) y.1 z.1 true)) else (gafferref04_Load.j0 k (ba s) y.1 z.1 true)) else (gafferref04_Load.j0 k (ba s) y.1 z.1 true)) (loadB s) := by
  have hlen := takeF_len s
  have hlen2 := takeN_len (takeF s).1
  refine Ev.bind (RTakeFrame_ev s hs) (Ev.bind (RTakeNumber_ev _ (by omega)) (Ev.bind (RTakeNumber_ev _ (by omega)) ?_))
  have ht := takeN_lt (takeF s).1
  have hv := takeN_lt (takeN (takeF s).1).2.1
  show Ev (fun k => if ((takeF s).2.2 : Int) = 0 then (if ((takeN (takeF s).1).2.2 : Int) = 0 then (if ((takeN (takeN (takeF s).1).2.1).2.2 : Int) = 0 then (gafferref04_Load.j0 k (ba s) ((takeN (takeF s).1).1 : Int) ((takeN (takeN (takeF s).1).2.1).1 : Int) (decide (((takeN (takeN (takeF s).1).2.1).1 : Int) > 7))) else (gafferref04_Load.j0 k (ba s) ((takeN (takeF s).1).1 : Int) ((takeN (takeN (takeF s).1).2.1).1 : Int) true)) else (gafferref04_Load.j0 k (ba s) ((takeN (takeF s).1).1 : Int) ((takeN (takeN (takeF s).1).2.1).1 : Int) true)) else (gafferref04_Load.j0 k (ba s) ((takeN (takeF s).1).1 : Int) ((takeN (takeN (takeF s).1).2.1).1 : Int) true)) _
  by_cases h : ∃ t v, t < 18446744073709551616 ∧ v ≤ 7 ∧ s = fileL t v
  · obtain ⟨t, v, ht0, hv0, rfl⟩ := h
    have e1 : (takeF (fileL t v)).1 = payL t v := by rw [take_file]
    have e2 : (takeF (fileL t v)).2.2 = 0 := by rw [take_file]
    rw [e1, e2, take_term t v ht0, show (t, numL v, 0).2.1 = numL v from rfl, take_vote v (by omega)]
    refine Ev.pos rfl (Ev.pos rfl (Ev.pos rfl ?_))
    refine rload_j0 (fileL t v) t v ht0 (by omega) _ (fun _ _ _ => loadB_file ht0 hv0) ?_ (fun h => by omega)
    rintro (h | h | h)
    · have := of_decide_eq_true h
      omega
    · omega
    · exact absurd rfl h
  · have hn := loadB_none (fun t v ht hv e => h ⟨t, v, ht, hv, e⟩)
    have hj : ∀ b, (7 < (takeN (takeN (takeF s).1).2.1).1 → b = true) → Ev (fun k => gafferref04_Load.j0 k (ba s) ((takeN (takeF s).1).1 : Int) ((takeN (takeN (takeF s).1).2.1).1 : Int) b) (loadB s) := fun b h7 =>
      rload_j0 s _ _ ht hv b (fun hv7 _ e => absurd ⟨_, _, ht, hv7, e⟩ h) (fun _ => hn) h7
    refine Ev.ite (fun _ => Ev.ite (fun _ => Ev.ite (fun _ => hj _ (fun h7 => by simp; omega)) (fun _ => hj _ (fun _ => rfl))) (fun _ => hj _ (fun _ => rfl))) (fun _ => hj _ (fun _ => rfl))
theorem RLoad_ev (l : List S71) (d : Bool) (f : Int) (hl : l.length < 4611686018427387904) (hs : ∀ x ∈ l, x.f1.size ≤ 4611686018427387904) : Ev (fun k => gafferref04_Load.f k l d f) (loadR l d) := by
  unfold gafferref04_Load.f loadR
  have hR : Ev (fun k => gafferref02_Read.f k l d f (⟨#[104, 97, 114, 100]⟩ : ByteArray)) (rdR l d (⟨#[104, 97, 114, 100]⟩ : ByteArray)) := RRead_ev l d f _ _ (oAt_at (⟨#[104, 97, 114, 100]⟩ : ByteArray) l) hl
  have hz := rdR_size (d := d) (n := (⟨#[104, 97, 114, 100]⟩ : ByteArray)) hs
  generalize rdR l d (⟨#[104, 97, 114, 100]⟩ : ByteArray) = x at hR hz ⊢
  refine Ev.bind hR ?_
  obtain ⟨x1, x2⟩ := x
  obtain ⟨s, rfl, hsl⟩ := exists_ba x1
  by_cases c : x2 = 6
  · subst c
    exact Ev.pos rfl (Ev.now _)
  · refine Ev.neg c ?_
    by_cases c2 : x2 = 0
    · subst c2
      have := rloadS_ev s (by rw [hsl]; exact hz)
      rw [show loadB s = loadB (ba s).toList by rw [ba_list]] at this
      exact Ev.pos rfl this
    · rw [if_neg c2, if_neg c]
      exact Ev.neg c2 (Ev.now _)
theorem rcheck (t v : Int) : gafferref04_Check.f t v = some (if v < 0 ∨ 7 < v then 1 else 0) := by
  unfold gafferref04_Check.f
  by_cases h1 : v < 0
  · rw [if_pos h1, if_pos (.inl h1)]
  · rw [if_neg h1]
    by_cases h2 : v > 7
    · rw [if_pos h2, if_pos (.inr h2)]
    · rw [if_neg h2, if_neg (by omega)]
theorem RSave_ev (l : List S71) (d : Bool) (f : Int) (t v : Int) (ht : 0 ≤ t) (ht2 : t < 18446744073709551616) (hl : l.length + 4 < 3518437208883) (hf : f < 9223372036854775808) (hs : ∀ x ∈ l, x.f1.size ≤ 4611686018427387903) :
    Ev (fun k => gafferref04_Save.f k l d f t v) (saveR l d f t v) := by
  unfold gafferref04_Save.f saveR
  rw [rcheck]
  by_cases c : v < 0 ∨ 7 < v
  · rw [if_pos c, if_pos c]
    refine Ev.bind (Ev.now _) (Ev.neg (by decide) (Ev.bind (RCheck_ev l d f (by omega)) (Ev.step (fun k => rfl) ?_)))
    simp only [gafferref04_Save.j0]
    by_cases hg : Good l
    · rw [if_pos hg, res_pos hg]
      refine Ev.neg (by simp) (Ev.neg (by decide) ?_)
      rw [Copy_at l d f (by omega)]
      exact Ev.bind (Ev.now _) (Ev.now _)
    · rw [if_neg hg, res_neg hg]
      exact Ev.pos (by simp) (Ev.now _)
  · rw [if_neg c, if_neg c]
    have hz : (fileL t.toNat v.toNat).length ≤ 24 := fileL_len _ _
    have hfile := rfile_ev t.toNat v.toNat (by omega) (by omega)
    rw [Int.toNat_of_nonneg ht, Int.toNat_of_nonneg (by omega)] at hfile
    refine Ev.bind (Ev.now _) (Ev.pos rfl (Ev.step (fun k => rfl) ?_))
    simp only [gafferref04_Save.j0]
    refine Ev.neg (by simp) (Ev.pos (by simp) (Ev.bind hfile (Ev.bind (RPut_ev l d f hname _ hl hf hs (by rw [ba_size]; omega) (by show 4 ≤ _; omega)) ?_)))
    exact Ev.now _
end Go.Proofs.Ytpigjmjbfpipnaa.Dk
