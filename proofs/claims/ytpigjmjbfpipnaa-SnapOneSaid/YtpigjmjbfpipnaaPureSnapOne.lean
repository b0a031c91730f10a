/- Wherever the power goes while a snapshot is saved, it is what was there, or what was being saved. No condition beside the form's own. -/
import Derived.Test.YtpigjmjbfpipnaaPEx14
import Derived.Test.YtpigjmjbfpipnaaSnLawe
import Derived.Test.YtpigjmjbfpipnaaSnSamee
import Derived.Test.YtpigjmjbfpipnaaSnLivese
import Derived.Test.YtpigjmjbfpipnaaDkLawe
import Derived.Test.YtpigjmjbfpipnaaDkCrashe
namespace Go.Proofs.Ytpigjmjbfpipnaa.Pure
open Go.RowKit Go.Proofs.YtpigjmjbfpipnaaW.PrintWords Go.Proofs.YtpigjmjbfpipnaaW.PrintLast Go.Proofs.YtpigjmjbfpipnaaW.PrintMore Go.Proofs.Ytpigjmjbfpipnaa.PE Go.Proofs.Ytpigjmjbfpipnaa.Ba Go.Proofs.Ytpigjmjbfpipnaa.Dk Go.Proofs.Ytpigjmjbfpipnaa.Sn Go.Proofs.Ytpigjmjbfpipnaa.Op
set_option linter.unusedVariables false
attribute [local instance 10] Classical.propDecidable

theorem mx_ge (a : Int) : -1 ≤ mx a (-1) ∧ (a < 9223372036854775808 → mx a (-1) < 9223372036854775808) := by unfold mx; split <;> omega
theorem good_nil : Dk.Good [] := ⟨fun j hj => absurd hj (Nat.not_lt_zero _), Nat.zero_le _⟩
theorem crs_has {ks : List Int} : ∀ {j : Nat} {l : List S71} {g : S71}, g ∈ l → ∃ k, cr g k ∈ crs ks j l
  | _, [], g, h => by simp at h
  | j, a :: r, g, h => by
    rcases List.mem_cons.1 h with rfl | h
    · exact ⟨_, by rw [crs]; exact List.mem_cons_self⟩
    · obtain ⟨k, hk⟩ := crs_has (ks := ks) (j := j + 1) h
      exact ⟨k, by rw [crs]; exact List.mem_cons_of_mem _ hk⟩
theorem crs_keeps {ks : List Int} {j : Nat} {l : List S71} {n : List UInt8} (hd : ∀ g ∈ l, nm g = n → g.f2 = (g.f1.size : Int)) (x : S71) (hx : nm x = n) : x ∈ crs ks j l ↔ x ∈ l := by
  constructor
  · intro h
    obtain ⟨g, hg, k, e⟩ := crs_mem h
    have hn : nm g = n := by rw [← hx, e]; rfl
    rw [e, cr_dry (hd g hg hn)]; exact hg
  · intro h
    obtain ⟨k, hk⟩ := crs_has (ks := ks) (j := j) h
    rw [cr_dry (hd x h hx)] at hk; exact hk
/-- Behind a crash, of what was done to a dry disk: what was there, or what was being saved. -/
theorem crash_loadS {l : List S71} (hg : Dk.Good l) (hdry : ∀ g ∈ l, nm g = sname.toList → g.f2 = (g.f1.size : Int)) {i t : Nat} {ms : List Int} {d : List UInt8} (hi : i < 18446744073709551616) (ht : t < 18446744073709551616) (f : Int) (ks : List Int) {r : R4} (h : SaveOf l f i t ms d r)
    (h8 : r.2.2.2 = 0 ∨ r.2.2.2 = 8) :
    loadSR (crs ks 0 r.1) false = ((i : Int), (t : Int), ms, ba d, 0) ∨ r.2.2.2 = 8 ∧ loadSR (crs ks 0 r.1) false = loadSR l false := by
  cases h with
  | no w e hw =>
    rw [e] at h8
    have h8 : w = 0 ∨ w = 8 := h8
    omega
  | done ok h0 h1 h2 hS =>
    have hm : (⟨sname, ba (sfileL i t ms d), ((ba (sfileL i t ms d)).size : Int)⟩ : S71) ∈ crs ks 0 r.1 := (crs_keeps (n := sname.toList) (fun g hg hn => by
      rcases (hS.mem g).1 hg with ⟨_, h, _⟩ | h
      · exact absurd hn h
      · rw [h]) _ rfl).2 ((hS.mem _).2 (.inr rfl))
    exact .inl (loadS_some (crs_good hS.good ks 0) hi ht ok hm rfl rfl)
  | off ok h0 hU =>
    refine .inr ⟨h8.resolve_left h0, ?_⟩
    have hmem : ∀ g, nm g = sname.toList → (g ∈ r.1 ↔ g ∈ l) := fun g hn => hU.mem g (by rw [hn]; exact ne_st)
    refine loadS_same (crs_good hU.good ks 0) hg (fun g hn => ?_)
    rw [crs_keeps (n := sname.toList) (fun g hg hn => hdry g ((hmem g hn).1 hg) hn) g hn, hmem g hn]
theorem loadSR_len (l : List S71) (d : Bool) : (loadSR l d).2.2.1.length < 4611686018427387904 := by
  unfold loadSR
  split
  · unfold loadSB
    split
    · have := decR_len (takeF (rdR l d sname).1.toList).1
      omega
    · simp
  · split <;> simp
theorem SnapOne : gafferlaw05_SnapOne.Pure := by
  intro x s fu ks hx hs hfu hks
  have c := came hx
  obtain ⟨i, t, d, e1, e2, e3, hi, ht, hm⟩ := cameS hs
  obtain ⟨hm1, hm2⟩ := mx_ge fu
  have hf := hm2 (i64_lt hfu)
  obtain ⟨hk1, hk2⟩ := hks
  have hl := c.len
  have hs0 : ∀ y ∈ x.f0, y.f1.size ≤ 4611686018427387903 := fun y hy => Nat.le_trans (c.size y hy) (by omega)
  rw [e1, e2, e3]
  refine Ev.rounds (g := fun k => gafferlaw05_SnapOne.f k x.f0 x.f1 x.f2 (i : Int) (t : Int) s.f2 (ba d) fu ks) ?_
  unfold gafferlaw05_SnapOne.f
  refine Ev.bind lives_ev (Ev.pos rfl (Ev.bind (Crash_ev x.f0 x.f1 x.f2 [] (by omega) hs0 (by simp) (by simp)) ?_))
  -- the disk behind the first crash: right, and all synced
  obtain ⟨l, dn, f, w, he, hg, hd, hdry, hs1⟩ : ∃ (l : List S71) (d : Bool) (f w : Int), (if Dk.Good x.f0 then (crs [] 0 x.f0, false, (-1 : Int), (0 : Int)) else ([], false, 0, 10)) = (l, d, f, w) ∧ Dk.Good l ∧ d = false ∧ (∀ g ∈ l, g.f2 = (g.f1.size : Int)) ∧ ∀ g ∈ l, g.f1.size ≤ 4611686018427387903 := by
    by_cases hg : Dk.Good x.f0
    · rw [if_pos hg]; exact ⟨_, _, _, _, rfl, crs_good hg [] 0, rfl, crs_all_dry hg [] 0, crs_size hg [] 0 hs0⟩
    · rw [if_neg hg]; exact ⟨_, _, _, _, rfl, good_nil, rfl, by simp, by simp⟩
  rw [he]
  subst hd
  generalize s.f2 = ms at hm ⊢
  have hl4 := hg.2
  refine Ev.bind (LoadS_ev l false f (by omega) hs1) ?_
  have hL := loadSR_len l false
  by_cases c0 : (loadSR l false).2.2.2.2 = 0
  · refine Ev.pos c0 (Ev.bind (SaveS_ev l false (mx fu (-1)) i t ms d hi ht hm (by omega) hf hs1) ?_)
    have hw := save_of hg (mx fu (-1)) i t ms d
    have hg2 := save_ofgood hg hw
    have hs2 := save_ofsize hw hs1
    have key := crash_loadS hg (fun g hg _ => hdry g hg) hi ht (mx fu (-1)) ks hw
    generalize saveSR l false (mx fu (-1)) i t ms d = r at hw hg2 hs2 key ⊢
    generalize hold : loadSR l false = old at key c0 hL ⊢
    obtain ⟨r1, r2, r3, r4⟩ := r
    have hj : ∀ (b : Bool), b = (r4 == 4 || r4 == 17) → Ev (fun k => gafferlaw05_SnapOne.j0 k ks r4 b l false (mx fu (-1)) (i : Int) (t : Int) ms (ba d) old.1 old.2.1 old.2.2.1 old.2.2.2.1 r1 r2 r3) true := by
      intro b hb
      refine Ev.step (fun k => rfl) ?_
      simp only [gafferlaw05_SnapOne.j0]
      have hgo : r4 = 0 ∨ r4 = 8 → Ev (fun k => (disk_Crash.f k r1 r2 r3 ks).bind fun bt451 => ((snap_Load.f k bt451.1 bt451.2.1 bt451.2.2.1).bind fun bt457 => (if bt457.2.2.2.2 = 0 then ((gafferref05_Same.f k bt457.1 bt457.2.1 bt457.2.2.1 bt457.2.2.2.1 (i : Int) (t : Int) ms (ba d)).bind fun t465 => (if t465 = true then (some true) else ((gafferref05_Same.f k bt457.1 bt457.2.1 bt457.2.2.1 bt457.2.2.2.1 old.1 old.2.1 old.2.2.1 old.2.2.2.1).bind fun t466 => (if t466 = true then (some (r4 == 8)) else (some false))))) else (some false)))) true := by
        intro h8
        have hg3 := crs_good hg2 ks 0
        refine Ev.bind (Crash_ev r1 r2 r3 ks (by have := hg2.2; show r1.length < _; dsimp only at this; omega) hs2 (by omega) (fun k hk => i64_lt (hk2 k hk))) ?_
        rw [if_pos hg2]
        refine Ev.bind (LoadS_ev (crs ks 0 r1) false (-1) (by have := hg3.2; dsimp only at this; omega) (crs_size hg2 ks 0 hs2)) ?_
        rcases key h8 with e | ⟨e8, e⟩
        · rw [show loadSR (crs ks 0 r1) false = _ from e]
          exact Ev.pos rfl (Ev.bind (Sn.Same_ev _ _ _ _ hm) (Ev.pos rfl (Ev.now _)))
        · rw [show loadSR (crs ks 0 r1) false = old from e]
          refine Ev.pos c0 (Ev.bind (SameS_any old.1 old.2.1 old.2.2.1 old.2.2.2.1 (i : Int) (t : Int) ms (ba d) hL) (Ev.ite (fun _ => Ev.now _) (fun _ => ?_)))
          refine Ev.bind (Sn.Same_ev _ _ _ _ hL) (Ev.pos rfl ?_)
          have e8' : r4 = 8 := e8
          rw [e8']
          exact Ev.now _
      cases hw with
      | no w e hw =>
        obtain ⟨rfl, rfl, rfl, rfl⟩ : r1 = l ∧ r2 = false ∧ r3 = mx fu (-1) ∧ r4 = w := by
          simpa using e
        have hbt : b = true := by
          rw [hb]
          rcases hw with rfl | rfl <;> rfl
        rw [hbt]
        exact Ev.pos rfl (Ev.bind (Dk.Same_ev r1 false (mx fu (-1)) (by omega)) (Ev.now _))
      | done ok h0 h1 h2 hS =>
        have h0 : r4 = 0 := h0
        subst h0
        rw [hb]
        exact Ev.neg (by decide) (Ev.neg (by decide) (hgo (.inl rfl)))
      | off ok h0 hU =>
        rcases hU.why with ⟨h, _⟩ | ⟨h, _⟩
        · have h : r4 = 8 := h
          subst h
          rw [hb]
          exact Ev.neg (by decide) (Ev.neg (by decide) (hgo (.inr rfl)))
        · have h : r4 = 11 := h
          subst h
          rw [hb]
          exact Ev.neg (by decide) (Ev.pos rfl (Ev.now _))
    by_cases c2 : r4 = 4
    · refine Ev.pos c2 (hj true ?_)
      rw [c2]; rfl
    · refine Ev.neg c2 (hj (r4 == 17) ?_)
      rw [show (r4 == 4) = false from beq_eq_false_iff_ne.mpr c2, Bool.false_or]
  · exact Ev.neg c0 (Ev.now _)
end Go.Proofs.Ytpigjmjbfpipnaa.Pure
