/- What the laws of what must not be forgotten share. No condition of its own. -/
import Derived.Test.YtpigjmjbfpipnaaPBx10
import Derived.Test.YtpigjmjbfpipnaaHdFile
import Derived.Test.YtpigjmjbfpipnaaHdLives
import Derived.Test.YtpigjmjbfpipnaaDkCrash
namespace Go.Proofs.Ytpigjmjbfpipnaa.Dk
open Go.RowKit Go.Proofs.YtpigjmjbfpipnaaW.PrintWords Go.Proofs.YtpigjmjbfpipnaaW.PrintLast Go.Proofs.YtpigjmjbfpipnaaW.PrintMore Go.Proofs.Ytpigjmjbfpipnaa.PB Go.Proofs.Ytpigjmjbfpipnaa.Ba Go.Proofs.Ytpigjmjbfpipnaa.Sh Go.Proofs.Ytpigjmjbfpipnaa.Op
set_option linter.unusedVariables false
attribute [local instance 10] Classical.propDecidable

theorem good_nil : Good [] := ⟨fun j hj => absurd hj (Nat.not_lt_zero _), Nat.zero_le _⟩
theorem u64_nat {n : Int} (h : okInt .u64 n) : 0 ≤ n ∧ n < 18446744073709551616 := by
  obtain ⟨m, rfl, hm⟩ := nat_of_u64 h
  omega
/-- A right list of one file. -/
theorem only {l : List S71} (hg : Good l) {g : S71} (h : ∀ x, x ∈ l ↔ x = g) : l = [g] := by
  have hr := hg.rise
  cases l with
  | nil => exact absurd ((h g).2 rfl) (by simp)
  | cons a r =>
    obtain rfl := (h a).1 List.mem_cons_self
    cases r with
    | nil => rfl
    | cons b r =>
      obtain rfl := (h b).1 (by simp)
      exact absurd ((List.pairwise_cons.1 hr).1 b List.mem_cons_self) (blt_irrefl _)
def theFile (t v : Nat) : S71 := ⟨hname, ba (fileL t v), ((ba (fileL t v)).size : Int)⟩
/-- Saved on a disk that has nothing, or one such file alone: one such file alone. -/
theorem save_one {l : List S71} (hg : Good l) (hl : ∀ x ∈ l, nm x = hname.toList) {t v : Int} (ht : 0 ≤ t) (ht2 : t < 18446744073709551616) (hv : 0 ≤ v) (hv7 : v ≤ 7) (f : Int) (hf : f < 0) :
    saveR l false f t v = ([theFile t.toNat v.toNat], false, f, 0) := by
  unfold saveR
  rw [if_neg (by omega)]
  have hlen : l.length ≤ 1 := by
    cases l with
    | nil => exact Nat.zero_le _
    | cons a r =>
      cases r with
      | nil => exact Nat.le_refl _
      | cons b r =>
        have := (List.pairwise_cons.1 hg.rise).1 b List.mem_cons_self
        rw [hl a List.mem_cons_self, hl b (by simp)] at this
        exact absurd this (blt_irrefl _)
  have key := put_sem (f := f) (nm := hname) (dt := ba (fileL t.toNat v.toNat)) hg named_h named_t ne_t
  generalize putR l false f hname (ba (fileL t.toNat v.toNat)) = x at key
  obtain ⟨x1, x2, x3, x4⟩ := x
  rcases key with ⟨h0, h1, h2, hS⟩ | ⟨h0, hU⟩
  · have e : x1 = [theFile t.toNat v.toNat] := only hS.good (fun x => by
      rw [show (x ∈ x1 ↔ _) from hS.mem x]
      constructor
      · rintro (⟨a, b, _⟩ | h)
        · exact absurd (hl x a) b
        · exact h
      · exact .inr)
    have h3 : x3 = f := h2 hf
    have h4 : x4 = 0 := h0
    have h5 : x2 = false := h1
    rw [e, h3, h4, h5]
  · rcases hU.why with ⟨_, h⟩ | ⟨_, h⟩
    · omega
    · omega
theorem good_one (t v : Nat) : Good [theFile t v] := good_of (List.pairwise_singleton _ _) (fun x hx => by rw [List.mem_singleton.1 hx]; exact ⟨Int.natCast_nonneg _, Int.le_refl _⟩) (by simp)
theorem size_one (t v : Nat) : ∀ x ∈ [theFile t v], x.f1.size ≤ 4611686018427387903 := fun x hx => by
  rw [List.mem_singleton.1 hx]
  show (ba (fileL t v)).size ≤ _
  rw [ba_size]
  have := fileL_len t v
  omega
theorem crs_has {ks : List Int} : ∀ {j : Nat} {l : List S71} {g : S71}, g ∈ l → ∃ k, cr g k ∈ crs ks j l
  | _, [], g, h => by simp at h
  | j, a :: r, g, h => by
    rcases List.mem_cons.1 h with rfl | h
    · exact ⟨_, by rw [crs]; exact List.mem_cons_self⟩
    · obtain ⟨k, hk⟩ := crs_has (ks := ks) (j := j + 1) h
      exact ⟨k, by rw [crs]; exact List.mem_cons_of_mem _ hk⟩
/-- A file that is all synced is behind a crash what it was. -/
theorem crs_keeps {ks : List Int} {j : Nat} {l : List S71} {n : List UInt8} (hd : ∀ g ∈ l, nm g = n → g.f2 = (g.f1.size : Int)) (x : S71) (hx : nm x = n) : x ∈ crs ks j l ↔ x ∈ l := by
  constructor
  · intro h
    obtain ⟨g, hg, k, e⟩ := crs_mem h
    have hn : nm g = n := by rw [← hx, e]; rfl
    rw [e, cr_dry (hd g hg hn)]; exact hg
  · intro h
    obtain ⟨k, hk⟩ := crs_has (ks := ks) (j := j) h
    rw [cr_dry (hd x h hx)] at hk; exact hk
/-- Behind a crash, of what was done to a dry disk: what was there, or what was being saved. -/
theorem crash_load {l : List S71} (hg : Good l) (hdry : ∀ g ∈ l, nm g = hname.toList → g.f2 = (g.f1.size : Int)) {t v : Int} (ht : 0 ≤ t) (ht2 : t < 18446744073709551616) (hv : 0 ≤ v) (hv7 : v ≤ 7) (f : Int) (ks : List Int)
    (h8 : (saveR l false f t v).2.2.2 = 0 ∨ (saveR l false f t v).2.2.2 = 8) :
    Good (saveR l false f t v).1 ∧ (loadR (crs ks 0 (saveR l false f t v).1) false = (t, v, 0) ∨ (saveR l false f t v).2.2.2 = 8 ∧ loadR (crs ks 0 (saveR l false f t v).1) false = loadR l false) := by
  unfold saveR at *
  rw [if_neg (by omega)] at *
  have key := put_sem (f := f) (nm := hname) (dt := ba (fileL t.toNat v.toNat)) hg named_h named_t ne_t
  generalize putR l false f hname (ba (fileL t.toNat v.toNat)) = x at *
  rcases key with ⟨h0, h1, h2, hS⟩ | ⟨h0, hU⟩
  · refine ⟨hS.good, .inl ?_⟩
    have hm : theFile t.toNat v.toNat ∈ crs ks 0 x.1 := (crs_keeps (n := hname.toList) (fun g hg hn => by
      rcases (hS.mem g).1 hg with ⟨_, h, _⟩ | h
      · exact absurd hn h
      · rw [h]) _ rfl).2 ((hS.mem _).2 (.inr rfl))
    have := load_some (crs_good hS.good ks 0) (t := t.toNat) (v := v.toNat) (by omega) (by omega) hm rfl rfl
    rw [Int.toNat_of_nonneg ht, Int.toNat_of_nonneg hv] at this
    exact this
  · refine ⟨hU.good, .inr ⟨h8.resolve_left h0, ?_⟩⟩
    have hmem : ∀ g, nm g = hname.toList → (g ∈ x.1 ↔ g ∈ l) := fun g hn => hU.mem g (by rw [hn]; exact ne_t)
    refine load_same (crs_good hU.good ks 0) hg (fun g hn => ?_)
    rw [crs_keeps (n := hname.toList) (fun g hg hn => hdry g ((hmem g hn).1 hg) hn) g hn, hmem g hn]
theorem save_size {l : List S71} (hg : Good l) {t v : Int} (f : Int) (hs : ∀ x ∈ l, x.f1.size ≤ 4611686018427387903) : ∀ x ∈ (saveR l false f t v).1, x.f1.size ≤ 4611686018427387903 := by
  unfold saveR
  split
  · first | exact hs | (rw [if_pos hg]; exact hs)
  · have key := put_sem (f := f) (nm := hname) (dt := ba (fileL t.toNat v.toNat)) hg named_h named_t ne_t
    generalize putR l false f hname (ba (fileL t.toNat v.toNat)) = x at *
    have hd : (ba (fileL t.toNat v.toNat)).size ≤ 4611686018427387903 := by rw [ba_size]; have := fileL_len t.toNat v.toNat; omega
    rcases key with ⟨h0, h1, h2, hS⟩ | ⟨h0, hU⟩
    · intro y hy
      rcases (hS.mem y).1 hy with h | h
      · exact hs y h.1
      · rw [h]; exact hd
    · intro y hy
      rcases hU.bytes y hy with h | h
      · exact hs y h
      · rw [h]; exact hd
theorem save_good {l : List S71} (hg : Good l) {t v : Int} (f : Int) : Good (saveR l false f t v).1 := by
  unfold saveR
  split
  · first | exact hg | (rw [if_pos hg]; exact hg)
  · rcases put_sem (f := f) (nm := hname) (dt := ba (fileL t.toNat v.toNat)) hg named_h named_t ne_t with ⟨_, _, _, hS⟩ | ⟨_, hU⟩
    · exact hS.good
    · exact hU.good
theorem save_fuse {l : List S71} {d : Bool} {t v f : Int} (hf : f < 9223372036854775808) : (saveR l d f t v).2.2.1 < 9223372036854775808 := by
  have ht : ∀ (l : List S71) (d : Bool) (f : Int) (a b c : ByteArray), f < 9223372036854775808 → (tailR l d f a b c).2.2.1 < 9223372036854775808 := by
    intro l d f a b c hf
    unfold tailR
    split
    · split
      · exact opR_fuse (opR_fuse (opR_fuse hf))
      · exact opR_fuse (opR_fuse hf)
    · exact opR_fuse hf
  unfold saveR
  split
  · split
    · exact hf
    · show (0 : Int) < _; omega
  · unfold putR
    split
    · split
      · exact ht _ _ _ _ _ _ (opR_fuse hf)
      · exact opR_fuse hf
    · exact ht _ _ _ _ _ _ hf
theorem mx_ge (a : Int) : -1 ≤ mx a (-1) ∧ (a < 9223372036854775808 → mx a (-1) < 9223372036854775808) := by unfold mx; split <;> omega
end Go.Proofs.Ytpigjmjbfpipnaa.Dk
