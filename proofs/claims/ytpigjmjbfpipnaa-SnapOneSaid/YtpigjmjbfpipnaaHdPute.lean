/- What Put does to a disk: its five changes one behind the other, and what is there then. No condition of its own. -/
import Derived.Test.YtpigjmjbfpipnaaPEx11
import Derived.Test.YtpigjmjbfpipnaaHdSeme
namespace Go.Proofs.Ytpigjmjbfpipnaa.Dk
open Go.RowKit Go.Proofs.YtpigjmjbfpipnaaW.PrintWords Go.Proofs.YtpigjmjbfpipnaaW.PrintLast Go.Proofs.YtpigjmjbfpipnaaW.PrintMore Go.Proofs.Ytpigjmjbfpipnaa.PE Go.Proofs.Ytpigjmjbfpipnaa.Ba Go.Proofs.Ytpigjmjbfpipnaa.Sh Go.Proofs.Ytpigjmjbfpipnaa.Op
set_option linter.unusedVariables false
attribute [local instance 10] Classical.propDecidable

noncomputable def oAt (n : ByteArray) (l : List S71) : Option (List S71 × Option S71 × List S71) := Classical.choose (at_of n.toList l)
theorem oAt_at (n : ByteArray) (l : List S71) : At n.toList l (oAt n l) := Classical.choose_spec (at_of n.toList l)
noncomputable def rdR (l : List S71) (d : Bool) (n : ByteArray) : ByteArray × Int := readR l d (oAt n l)
noncomputable def addR (l : List S71) (d : Bool) (f : Int) (n data : ByteArray) : R4 := outcome l d f (addO (oAt n l) l n data)
noncomputable def syncR (l : List S71) (d : Bool) (f : Int) (n : ByteArray) : R4 := outcome l d f (syncO (oAt n l) l)
noncomputable def dropR (l : List S71) (d : Bool) (f : Int) (n : ByteArray) : R4 := outcome l d f (dropO (oAt n l) l)
noncomputable def swapR (l : List S71) (d : Bool) (f : Int) (n tb : ByteArray) : R4 := outcome l d f (swapO (oAt n l) l tb)
def tmp (n : ByteArray) : ByteArray := n ++ (⟨#[46, 116, 109, 112]⟩ : ByteArray)
noncomputable def tailR (l : List S71) (d : Bool) (f : Int) (tm nm dt : ByteArray) : R4 :=
  if (addR l d f tm dt).2.2.2 = 0 then
    (if (syncR (addR l d f tm dt).1 (addR l d f tm dt).2.1 (addR l d f tm dt).2.2.1 tm).2.2.2 = 0 then
      swapR (syncR (addR l d f tm dt).1 (addR l d f tm dt).2.1 (addR l d f tm dt).2.2.1 tm).1 (syncR (addR l d f tm dt).1 (addR l d f tm dt).2.1 (addR l d f tm dt).2.2.1 tm).2.1 (syncR (addR l d f tm dt).1 (addR l d f tm dt).2.1 (addR l d f tm dt).2.2.1 tm).2.2.1 tm nm
    else syncR (addR l d f tm dt).1 (addR l d f tm dt).2.1 (addR l d f tm dt).2.2.1 tm)
  else addR l d f tm dt
noncomputable def putR (l : List S71) (d : Bool) (f : Int) (nm dt : ByteArray) : R4 :=
  if (rdR l d (tmp nm)).2 = 0 then
    (if (dropR l d f (tmp nm)).2.2.2 = 0 then tailR (dropR l d f (tmp nm)).1 (dropR l d f (tmp nm)).2.1 (dropR l d f (tmp nm)).2.2.1 (tmp nm) nm dt else dropR l d f (tmp nm))
  else tailR l d f (tmp nm) nm dt

theorem dec_lt {f : Int} (h : f < 9223372036854775808) : dec f < 9223372036854775808 := by unfold dec; split <;> omega
theorem opR_fuse {why : Int} {l l0 l1 : List S71} {d : Bool} {f : Int} (h : f < 9223372036854775808) : (opR why l l0 l1 d f).2.2.1 < 9223372036854775808 := by
  unfold opR
  split
  · show (0 : Int) < _; omega
  · split
    · exact h
    · split
      · exact h
      · split
        · exact h
        · exact dec_lt h
theorem addR_len (l d f n data) : (addR l d f n data).1.length ≤ l.length + 1 := opR_len (by omega) (addO_len (oAt_at n l) n data).1 (addO_len (oAt_at n l) n data).2
theorem syncR_len (l d f n) : (syncR l d f n).1.length ≤ l.length + 1 := opR_len (by omega) (syncO_len (oAt_at n l)).1 (syncO_len (oAt_at n l)).2
theorem dropR_len (l d f n) : (dropR l d f n).1.length ≤ l.length + 1 := opR_len (by omega) (dropO_len (oAt_at n l)).1 (dropO_len (oAt_at n l)).2
theorem swapR_len (l d f n tb) : (swapR l d f n tb).1.length ≤ l.length + 1 := opR_len (by omega) (swapO_len (oAt_at n l) tb).1 (swapO_len (oAt_at n l) tb).2
theorem tailR_len (l d f tm nm dt) : (tailR l d f tm nm dt).1.length ≤ l.length + 3 := by
  unfold tailR
  have h1 := addR_len l d f tm dt
  split
  · have h2 := syncR_len (addR l d f tm dt).1 (addR l d f tm dt).2.1 (addR l d f tm dt).2.2.1 tm
    split
    · have h3 := swapR_len (syncR (addR l d f tm dt).1 (addR l d f tm dt).2.1 (addR l d f tm dt).2.2.1 tm).1 (syncR (addR l d f tm dt).1 (addR l d f tm dt).2.1 (addR l d f tm dt).2.2.1 tm).2.1 (syncR (addR l d f tm dt).1 (addR l d f tm dt).2.1 (addR l d f tm dt).2.2.1 tm).2.2.1 tm nm
      omega
    · omega
  · omega
theorem putR_len (l d f nm dt) : (putR l d f nm dt).1.length ≤ l.length + 4 := by
  unfold putR
  have h1 := dropR_len l d f (tmp nm)
  split
  · split
    · have h2 := tailR_len (dropR l d f (tmp nm)).1 (dropR l d f (tmp nm)).2.1 (dropR l d f (tmp nm)).2.2.1 (tmp nm) nm dt
      omega
    · omega
  · have h2 := tailR_len l d f (tmp nm) nm dt
    omega
theorem dropR_mem {l : List S71} {d : Bool} {f : Int} {n : ByteArray} : ∀ x ∈ (dropR l d f n).1, x ∈ l := by
  intro x hx
  unfold dropR outcome opR at hx
  split at hx
  · simp at hx
  · split at hx
    · exact hx
    · split at hx
      · exact hx
      · have ho := oAt_at n l
        generalize oAt n l = o at hx ho
        cases ho with
        | bad h => split at hx <;> exact hx
        | none A B _ e _ _ => split at hx <;> exact hx
        | some A g B _ e _ _ _ =>
          split at hx
          · exact hx
          · rw [e]; exact mem_mid.2 (.inr hx)
/-- The three changes of the row. -/
theorem all_ev (l : List S71) (d : Bool) (f : Int) (tm nm dt : ByteArray) (hl : l.length + 3 < 3518437208883) (hf : f < 9223372036854775808) (hs : ∀ x ∈ l, x.f1.size ≤ 4611686018427387903) (hd : dt.size ≤ 4611686018427387904) :
    Ev (fun k => hard_all.f k tm nm dt l d f) (tailR l d f tm nm dt) := by
  unfold hard_all.f tailR
  refine Ev.bind (Add_ev l d f tm dt _ (oAt_at tm l) (by omega) hf hs hd) ?_
  show Ev (fun k => if (addR l d f tm dt).2.2.2 = 0 then hard_all.s1 k tm nm (addR l d f tm dt).1 (addR l d f tm dt).2.1 (addR l d f tm dt).2.2.1 else some (addR l d f tm dt)) _
  have l1 := addR_len l d f tm dt
  have f1 : (addR l d f tm dt).2.2.1 < 9223372036854775808 := opR_fuse hf
  by_cases c1 : (addR l d f tm dt).2.2.2 = 0
  · rw [if_pos c1]
    refine Ev.pos c1 ?_
    generalize addR l d f tm dt = x at l1 f1 ⊢
    unfold hard_all.s1
    refine Ev.bind (Sync_ev x.1 x.2.1 x.2.2.1 tm _ (oAt_at tm x.1) (by omega) f1) ?_
    show Ev (fun k => if (syncR x.1 x.2.1 x.2.2.1 tm).2.2.2 = 0 then hard_all.s2 k tm nm (syncR x.1 x.2.1 x.2.2.1 tm).1 (syncR x.1 x.2.1 x.2.2.1 tm).2.1 (syncR x.1 x.2.1 x.2.2.1 tm).2.2.1 else some (syncR x.1 x.2.1 x.2.2.1 tm)) _
    have l2 := syncR_len x.1 x.2.1 x.2.2.1 tm
    have f2 : (syncR x.1 x.2.1 x.2.2.1 tm).2.2.1 < 9223372036854775808 := opR_fuse f1
    by_cases c2 : (syncR x.1 x.2.1 x.2.2.1 tm).2.2.2 = 0
    · rw [if_pos c2]
      refine Ev.pos c2 ?_
      generalize syncR x.1 x.2.1 x.2.2.1 tm = y at l2 f2 ⊢
      unfold hard_all.s2
      refine Ev.bind (Swap_ev y.1 y.2.1 y.2.2.1 tm nm _ (oAt_at tm y.1) (by omega) f2) ?_
      show Ev (fun k => if (swapR y.1 y.2.1 y.2.2.1 tm nm).2.2.2 = 0 then some ((swapR y.1 y.2.1 y.2.2.1 tm nm).1, (swapR y.1 y.2.1 y.2.2.1 tm nm).2.1, (swapR y.1 y.2.1 y.2.2.1 tm nm).2.2.1, 0) else some (swapR y.1 y.2.1 y.2.2.1 tm nm)) _
      generalize swapR y.1 y.2.1 y.2.2.1 tm nm = z
      obtain ⟨z1, z2, z3, z4⟩ := z
      by_cases c3 : z4 = 0
      · subst c3; exact Ev.pos rfl (Ev.now _)
      · exact Ev.neg c3 (Ev.now _)
    · rw [if_neg c2]
      exact Ev.neg c2 (Ev.now _)
  · rw [if_neg c1]
    exact Ev.neg c1 (Ev.now _)
theorem Put_ev (l : List S71) (d : Bool) (f : Int) (nm dt : ByteArray) (hl : l.length + 4 < 3518437208883) (hf : f < 9223372036854775808) (hs : ∀ x ∈ l, x.f1.size ≤ 4611686018427387903) (hd : dt.size ≤ 4611686018427387904) (hn : nm.size ≤ 4611686018427387904) :
    Ev (fun k => hard_Put.f k l d f nm dt) (putR l d f nm dt) := by
  unfold hard_Put.f putR
  refine Ev.pos (by omega) (Ev.bind (Read_ev l d f (tmp nm) _ (oAt_at (tmp nm) l) (by omega)) ?_)
  show Ev (fun k => if (rdR l d (tmp nm)).2 = 0 then _ else _) _
  by_cases c1 : (rdR l d (tmp nm)).2 = 0
  · rw [if_pos c1]
    refine Ev.pos c1 (Ev.bind (Drop_ev l d f (tmp nm) _ (oAt_at (tmp nm) l) (by omega) hf) ?_)
    show Ev (fun k => if (dropR l d f (tmp nm)).2.2.2 = 0 then hard_all.f k (tmp nm) nm dt (dropR l d f (tmp nm)).1 (dropR l d f (tmp nm)).2.1 (dropR l d f (tmp nm)).2.2.1 else some (dropR l d f (tmp nm))) _
    have l1 := dropR_len l d f (tmp nm)
    have f1 : (dropR l d f (tmp nm)).2.2.1 < 9223372036854775808 := opR_fuse hf
    by_cases c2 : (dropR l d f (tmp nm)).2.2.2 = 0
    · rw [if_pos c2]
      exact Ev.pos c2 (all_ev _ _ _ _ _ _ (by omega) f1 (fun x hx => hs x (dropR_mem x hx)) hd)
    · rw [if_neg c2]
      exact Ev.neg c2 (Ev.now _)
  · rw [if_neg c1]
    exact Ev.neg c1 (all_ev l d f (tmp nm) nm dt (by omega) hf hs hd)

/-! What is there then -/
/-- Saved, a file's name has the new bytes, synced; the other one's is gone; all else is as it was. -/
structure Saved (l : List S71) (nm dt : ByteArray) (e : List S71) : Prop where
  good : Good e
  mem : ∀ x, x ∈ e ↔ (x ∈ l ∧ Dk.nm x ≠ nm.toList ∧ Dk.nm x ≠ (tmp nm).toList) ∨ x = ⟨nm, dt, (dt.size : Int)⟩
/-- Not saved: all but the other one's is as it was. -/
structure Unsaved (l : List S71) (f : Int) (nm dt : ByteArray) (w : Int) (e : List S71) : Prop where
  good : Good e
  bytes : ∀ x ∈ e, x ∈ l ∨ x.f1 = dt
  mem : ∀ x, Dk.nm x ≠ (tmp nm).toList → (x ∈ e ↔ x ∈ l)
  why : w = 8 ∧ 0 ≤ f ∨ w = 11 ∧ 4096 ≤ l.length
theorem dec_neg {f : Int} (h : f < 0) : dec f = f := by unfold dec; rw [if_neg (by omega)]
theorem dec_zero {f : Int} (h : dec f = 0) : 0 ≤ f := by unfold dec at h; split at h <;> omega
theorem dec_pos {f : Int} (h : 0 ≤ dec f) : 0 ≤ f := by unfold dec at h; split at h <;> omega

theorem tail_sem {l : List S71} {f : Int} {nm dt : ByteArray} (hg : Good l) (hn : named nm) (ht : named (tmp nm)) (hne : nm.toList ≠ (tmp nm).toList) (hno : ∀ g ∈ l, Dk.nm g ≠ (tmp nm).toList) :
    ((tailR l false f (tmp nm) nm dt).2.2.2 = 0 ∧ (tailR l false f (tmp nm) nm dt).2.1 = false ∧ (f < 0 → (tailR l false f (tmp nm) nm dt).2.2.1 = f) ∧ Saved l nm dt (tailR l false f (tmp nm) nm dt).1) ∨ ((tailR l false f (tmp nm) nm dt).2.2.2 ≠ 0 ∧ Unsaved l f nm dt (tailR l false f (tmp nm) nm dt).2.2.2 (tailR l false f (tmp nm) nm dt).1) := by
  obtain ⟨a1, a2, a3, a4⟩ := add_sem (data := dt) (oAt_at (tmp nm) l) hg hno ht
  have hadd : addR l false f (tmp nm) dt = opR (if 4096 ≤ l.length then 11 else 0) l (addO (oAt (tmp nm) l) l (tmp nm) dt).2.1 (addO (oAt (tmp nm) l) l (tmp nm) dt).2.2 false f := by unfold addR outcome; rw [a1]
  have memA : ∀ x, Dk.nm x ≠ (tmp nm).toList → (x ∈ (addO (oAt (tmp nm) l) l (tmp nm) dt).2.2 ↔ x ∈ l) := fun x hx => by
    rw [a4]; exact ⟨fun h => h.elim id (fun e => absurd (by rw [e]; rfl) hx), .inl⟩
  have byA : ∀ x ∈ (addO (oAt (tmp nm) l) l (tmp nm) dt).2.2, x ∈ l ∨ x.f1 = dt := fun x h => ((a4 x).1 h).elim .inl (fun e => .inr (by rw [e]))
  by_cases h4 : 4096 ≤ l.length
  · rw [if_pos h4, opR_why hg (by decide)] at hadd
    have : tailR l false f (tmp nm) nm dt = (l, false, f, 11) := by unfold tailR; rw [hadd]; rfl
    rw [this]
    exact .inr ⟨by simp, hg, fun x h => .inl h, fun x _ => Iff.rfl, .inr ⟨rfl, h4⟩⟩
  · have gA := a3 (by omega)
    rw [if_neg h4, opR_go hg] at hadd
    rw [a2] at hadd
    generalize hl1 : (addO (oAt (tmp nm) l) l (tmp nm) dt).2.2 = l1 at *
    by_cases hf : f = 0
    · rw [if_pos hf] at hadd
      have : tailR l false f (tmp nm) nm dt = (l1, true, f, 8) := by unfold tailR; rw [hadd]; rfl
      rw [this]
      exact .inr ⟨by simp, gA, byA, memA, .inl ⟨rfl, by omega⟩⟩
    · rw [if_neg hf] at hadd
      have hmt : (⟨tmp nm, dt, 0⟩ : S71) ∈ l1 := (a4 _).2 (.inr rfl)
      obtain ⟨s1, s2, s3, s4, s5⟩ := sync_sem (oAt_at (tmp nm) l1) gA hmt rfl
      have hsync : syncR l1 false (dec f) (tmp nm) = opR 0 l1 l1 (syncO (oAt (tmp nm) l1) l1).2.2 false (dec f) := by unfold syncR outcome; rw [s1, s2]
      rw [opR_go gA] at hsync
      generalize hl2 : (syncO (oAt (tmp nm) l1) l1).2.2 = l2 at *
      have htail : tailR l false f (tmp nm) nm dt = if (syncR l1 false (dec f) (tmp nm)).2.2.2 = 0 then swapR (syncR l1 false (dec f) (tmp nm)).1 (syncR l1 false (dec f) (tmp nm)).2.1 (syncR l1 false (dec f) (tmp nm)).2.2.1 (tmp nm) nm else syncR l1 false (dec f) (tmp nm) := by
        unfold tailR; rw [hadd]; rfl
      by_cases hf1 : dec f = 0
      · rw [if_pos hf1] at hsync
        rw [hsync] at htail
        have : tailR l false f (tmp nm) nm dt = (l1, true, dec f, 8) := by rw [htail]; rfl
        rw [this]
        exact .inr ⟨by simp, gA, byA, memA, .inl ⟨rfl, dec_zero hf1⟩⟩
      · rw [if_neg hf1] at hsync
        rw [hsync] at htail
        have htail2 : tailR l false f (tmp nm) nm dt = swapR l2 false (dec (dec f)) (tmp nm) nm := by rw [htail]; rfl
        have hm2 : (⟨tmp nm, dt, (dt.size : Int)⟩ : S71) ∈ l2 := (s5 _).2 (.inr rfl)
        have memS : ∀ x, Dk.nm x ≠ (tmp nm).toList → (x ∈ l2 ↔ x ∈ l) := fun x hx => by
          rw [s5, ← memA x hx]; exact ⟨fun h => h.elim (fun h => h.1) (fun e => absurd (by rw [e]; rfl) hx), fun h => .inl ⟨h, hx⟩⟩
        obtain ⟨w1, w2, w3, w4⟩ := swap_sem (oAt_at (tmp nm) l2) s3 hm2 rfl rfl hn
        have hswap : swapR l2 false (dec (dec f)) (tmp nm) nm = opR 0 l2 l2 (swapO (oAt (tmp nm) l2) l2 nm).2.2 false (dec (dec f)) := by unfold swapR outcome; rw [w1, w2]
        rw [opR_go s3] at hswap
        generalize hl3 : (swapO (oAt (tmp nm) l2) l2 nm).2.2 = l3 at *
        rw [htail2]
        by_cases hf2 : dec (dec f) = 0
        · rw [if_pos hf2] at hswap
          rw [hswap]
          exact .inr ⟨by simp, s3, fun x h => ((s5 x).1 h).elim (fun h => byA x h.1) (fun e => .inr (by rw [e])), memS, .inl ⟨rfl, dec_pos (dec_zero hf2)⟩⟩
        · rw [if_neg hf2] at hswap
          rw [hswap]
          refine .inl ⟨rfl, rfl, fun h => by show dec (dec (dec f)) = f; rw [dec_neg h, dec_neg h, dec_neg h], w3, fun x => ?_⟩
          show x ∈ l3 ↔ _
          rw [w4]
          constructor
          · rintro (⟨h1, h2, h3⟩ | h)
            · exact .inl ⟨(memS x h2).1 h1, h3, h2⟩
            · exact .inr h
          · rintro (⟨h1, h2, h3⟩ | h)
            · exact .inl ⟨(memS x h3).2 h1, h3, h2⟩
            · exact .inr h
theorem rd_some {l : List S71} {n : ByteArray} (hg : Good l) {g : S71} (hm : g ∈ l) (hn : Dk.nm g = n.toList) : rdR l false n = (g.f1, 0) := by
  unfold rdR; rw [readR_go hg]; exact readO_mem (oAt_at n l) hg hm hn
theorem rd_none {l : List S71} {n : ByteArray} (hg : Good l) (hm : ∀ g ∈ l, Dk.nm g ≠ n.toList) : rdR l false n = (⟨#[]⟩, 6) := by
  unfold rdR; rw [readR_go hg]; exact readO_none (oAt_at n l) hm
theorem put_sem {l : List S71} {f : Int} {nm dt : ByteArray} (hg : Good l) (hn : named nm) (ht : named (tmp nm)) (hne : nm.toList ≠ (tmp nm).toList) :
    ((putR l false f nm dt).2.2.2 = 0 ∧ (putR l false f nm dt).2.1 = false ∧ (f < 0 → (putR l false f nm dt).2.2.1 = f) ∧ Saved l nm dt (putR l false f nm dt).1) ∨ ((putR l false f nm dt).2.2.2 ≠ 0 ∧ Unsaved l f nm dt (putR l false f nm dt).2.2.2 (putR l false f nm dt).1) := by
  unfold putR
  by_cases hm : ∃ g ∈ l, Dk.nm g = (tmp nm).toList
  · obtain ⟨g, h1, h2⟩ := hm
    rw [rd_some hg h1 h2, if_pos rfl]
    obtain ⟨d1, d2, d3, d4, d5⟩ := drop_sem (oAt_at (tmp nm) l) hg ⟨g, h1, h2⟩
    have hdrop : dropR l false f (tmp nm) = opR 0 l l (dropO (oAt (tmp nm) l) l).2.2 false f := by unfold dropR outcome; rw [d1, d2]
    rw [opR_go hg] at hdrop
    generalize hl1 : (dropO (oAt (tmp nm) l) l).2.2 = l1 at *
    by_cases hf : f = 0
    · rw [if_pos hf] at hdrop
      rw [hdrop, if_neg (by simp)]
      exact .inr ⟨by simp, hg, fun x h => .inl h, fun x _ => Iff.rfl, .inl ⟨rfl, by omega⟩⟩
    · rw [if_neg hf] at hdrop
      rw [hdrop, if_pos rfl]
      have h4 := hg.2
      rcases tail_sem (f := dec f) (dt := dt) d3 hn ht hne (fun g hg => ((d5 g).1 hg).2) with ⟨h, h', hq, hS⟩ | ⟨h, hU⟩
      · refine .inl ⟨h, h', fun h0 => (hq (by rw [dec_neg h0]; exact h0)).trans (dec_neg h0), hS.good, fun x => ?_⟩
        show x ∈ (tailR l1 false (dec f) (tmp nm) nm dt).1 ↔ _
        rw [hS.mem, d5]
        constructor
        · rintro (⟨⟨a, _⟩, b, c⟩ | e)
          · exact .inl ⟨a, b, c⟩
          · exact .inr e
        · rintro (⟨a, b, c⟩ | e)
          · exact .inl ⟨⟨a, c⟩, b, c⟩
          · exact .inr e
      · refine .inr ⟨h, hU.good, fun x hx => (hU.bytes x hx).elim (fun h => .inl ((d5 x).1 h).1) .inr, fun x hx => ?_, ?_⟩
        · show x ∈ (tailR l1 false (dec f) (tmp nm) nm dt).1 ↔ _
          rw [hU.mem x hx, d5]
          exact ⟨fun h => h.1, fun h => ⟨h, hx⟩⟩
        · rcases hU.why with ⟨e, h5⟩ | ⟨e, h5⟩
          · exact .inl ⟨e, dec_pos h5⟩
          · omega
  · have hno : ∀ g ∈ l, Dk.nm g ≠ (tmp nm).toList := fun g h1 h2 => hm ⟨g, h1, h2⟩
    rw [rd_none hg hno, if_neg (by decide)]
    exact tail_sem hg hn ht hne hno
end Go.Proofs.Ytpigjmjbfpipnaa.Dk
