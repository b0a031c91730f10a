/- What is refused, and the fuse. No condition beside those in each row. -/
import Derived.Test.YtpigjmjbfpipnaaPEx10
import Derived.Test.YtpigjmjbfpipnaaPEx8
import Derived.Test.YtpigjmjbfpipnaaPEx7
import Derived.Test.YtpigjmjbfpipnaaPEx9
import Derived.Test.YtpigjmjbfpipnaaDkOrde
import Derived.Test.YtpigjmjbfpipnaaDkSamee
import Derived.Test.YtpigjmjbfpipnaaDkPlacee
namespace Go.Proofs.Ytpigjmjbfpipnaa.Dk
open Go.RowKit Go.Proofs.YtpigjmjbfpipnaaW.PrintWords Go.Proofs.YtpigjmjbfpipnaaW.PrintLast Go.Proofs.YtpigjmjbfpipnaaW.PrintMore Go.Proofs.Ytpigjmjbfpipnaa.PE Go.Proofs.Ytpigjmjbfpipnaa.Ba Go.Proofs.Ytpigjmjbfpipnaa.Sh
set_option linter.unusedVariables false
attribute [local instance 10] Classical.propDecidable

theorem done_shape (l : List S71) (d : Bool) (f : Int) (hl : l.length < 3518437208883) (rf : Nat → List S71 → Option Int) (T : Nat → List S71 → Option R4) (why : Int) (l0 l1 : List S71)
    (h1 : Good l → d = false → Ev (fun k => rf k l) why) (h2 : Good l → d = false → why = 0 → Ev (fun k => T k l) (if f = 0 then (l0, true, f, 8) else (l1, d, dec f, 0))) :
    Ev (fun k => (disk_Check.f k l d f).bind fun t => (if t = 0 then ((api_File_48.f l).bind fun t185 => (if d = true then (some (t185, d, f, 8)) else ((rf k t185).bind fun t188 => (if t188 = 0 then (T k t185) else (some (t185, d, f, t188)))))) else (some (([] : List S71), false, 0, t)))) (opR why l l0 l1 d f) := by
  refine Ev.bind (Check_ev l d f (by omega)) ?_
  unfold opR
  by_cases hg : Good l
  · rw [res_pos hg, if_neg (fun h => h hg)]
    refine Ev.pos rfl ?_
    rw [Clone_at l hl]
    refine Ev.bind_const ?_
    by_cases hd : d = true
    · rw [if_pos hd]
      exact Ev.pos hd (Ev.now _)
    · rw [if_neg hd]
      have hd' : d = false := by simpa using hd
      refine Ev.neg hd (Ev.bind (h1 hg hd') ?_)
      by_cases hw : why = 0
      · rw [if_neg (fun h => h hw)]
        exact Ev.pos hw (h2 hg hd' hw)
      · rw [if_pos hw]
        exact Ev.neg hw (Ev.now _)
  · rw [res_neg hg, if_pos hg]
    exact Ev.neg (by decide) (Ev.now _)
theorem named_at (a : ByteArray) : disk_named.f a = some (decide (named a)) := by
  unfold disk_named.f
  by_cases h : a.toList = []
  · rw [if_pos h, decide_eq_false (fun hn => hn.1 h)]
  · rw [if_neg h]
    by_cases h2 : a.size ≤ 32
    · rw [decide_eq_true (show (a.size : Int) ≤ 32 by omega), decide_eq_true ⟨h, h2⟩]
    · rw [decide_eq_false (show ¬ (a.size : Int) ≤ 32 by omega), decide_eq_false (fun hn => h2 hn.2)]
section
variable (x5 : Int) (is d : Bool) (f kind size : Int) (name tb data : ByteArray) (l : List S71)
theorem ref_j4 (b : Bool) : Ev (fun k => disk_change_refused.j4 k b kind name tb data size) (if b = true then 9 else if kind = 3 then (if named tb then 0 else 5) else 0) := by
  refine Ev.step (fun k => rfl) ?_
  simp only [disk_change_refused.j4]
  by_cases hb : b = true
  · refine Ev.pos hb ?_
    rw [if_pos hb]; exact Ev.now _
  · refine Ev.neg hb ?_
    rw [if_neg hb]
    by_cases hk : kind = 3
    · refine Ev.pos hk ?_
      rw [if_pos hk, named_at]
      refine Ev.bind_const ?_
      by_cases hn : named tb
      · refine Ev.pos (decide_eq_true hn) ?_
        rw [if_pos hn]; exact Ev.now _
      · refine Ev.neg (by simpa using hn) ?_
        rw [if_neg hn]; exact Ev.now _
    · refine Ev.neg hk ?_
      rw [if_neg hk]; exact Ev.now _
/-- add -/
theorem refused_add (p : Nat) (hp : Ev (fun k => disk_place.f k l d f name) ((p : Int), is)) :
    Ev (fun k => disk_change_refused.f k 0 name tb data size l d f) (if ¬ named name then 5 else if is = false ∧ 4096 ≤ l.length then 11 else 0) := by
  unfold disk_change_refused.f
  refine Ev.bind hp (Ev.pos rfl ?_)
  rw [named_at]
  refine Ev.bind_const ?_
  refine Ev.step (fun k => rfl) ?_
  simp only [disk_change_refused.j0]
  by_cases hn : named name
  · rw [if_neg (fun h => h hn), decide_eq_true hn]
    refine Ev.neg (by decide) (Ev.pos (by decide) ?_)
    have tail : ∀ b : Bool, Ev (fun k => disk_change_refused.j1 k (p : Int) is b 0 name tb data size l d f) (if b = true then 11 else 0) := by
      intro b
      refine Ev.step (fun k => rfl) ?_
      simp only [disk_change_refused.j1]
      by_cases hb : b = true
      · rw [if_pos hb]; exact Ev.pos hb (Ev.now _)
      · rw [if_neg hb]
        refine Ev.neg hb (Ev.pos (by decide) ?_)
        refine Ev.step (fun k => rfl) ?_
        simp only [disk_change_refused.j2]
        refine Ev.neg (by decide) (Ev.neg (by decide) ?_)
        refine Ev.step (fun k => rfl) ?_
        simp only [disk_change_refused.j3]
        refine Ev.neg (by decide) (Ev.neg (by decide) ?_)
        exact ref_j4 0 size name tb data false
    cases is with
    | true => rw [if_neg (fun h => by cases h.1)]; exact Ev.pos rfl (tail false)
    | false =>
      refine Ev.neg (by decide) ?_
      by_cases h4 : 4096 ≤ l.length
      · rw [if_pos ⟨rfl, h4⟩]
        have := tail (decide ((l.length : Int) ≥ 4096))
        rwa [decide_eq_true (show (l.length : Int) ≥ 4096 by omega)] at this ⊢
      · rw [if_neg (fun h => h4 h.2)]
        have := tail (decide ((l.length : Int) ≥ 4096))
        rwa [decide_eq_false (show ¬ (l.length : Int) ≥ 4096 by omega)] at this ⊢
  · rw [if_pos hn, decide_eq_false hn]
    exact Ev.pos (by decide) (Ev.now _)
/-- what no add may do -/
theorem refused_none (h0 : kind ≠ 0) (p : Nat) (hp : Ev (fun k => disk_place.f k l d f name) ((p : Int), false)) :
    Ev (fun k => disk_change_refused.f k kind name tb data size l d f) 6 := by
  unfold disk_change_refused.f
  refine Ev.bind hp (Ev.neg h0 ?_)
  refine Ev.step (fun k => rfl) ?_
  simp only [disk_change_refused.j0]
  refine Ev.neg (by decide) (Ev.neg h0 ?_)
  refine Ev.step (fun k => rfl) ?_
  simp only [disk_change_refused.j1]
  refine Ev.neg (by decide) (Ev.neg h0 ?_)
  refine Ev.step (fun k => rfl) ?_
  simp only [disk_change_refused.j2]
  exact Ev.pos (by decide) (Ev.now _)
theorem refused_some (h0 : kind ≠ 0) (p : Nat) (hpl : p < l.length) (hp : Ev (fun k => disk_place.f k l d f name) ((p : Int), true)) :
    Ev (fun k => disk_change_refused.f k kind name tb data size l d f)
      (if kind = 2 ∧ (size < 0 ∨ size > ((l.getD p z71).f1.size : Int)) then 1 else if kind = 3 ∧ (l.getD p z71).f2 < ((l.getD p z71).f1.size : Int) then 9 else if kind = 3 ∧ ¬ named tb then 5 else 0) := by
  have tail : ∀ b : Bool, Ev (fun k => disk_change_refused.j3 k (p : Int) b kind name tb data size l d f) (if b = true then 1 else if kind = 3 ∧ (l.getD p z71).f2 < ((l.getD p z71).f1.size : Int) then 9 else if kind = 3 ∧ ¬ named tb then 5 else 0) := by
    intro b
    refine Ev.step (fun k => rfl) ?_
    simp only [disk_change_refused.j3]
    by_cases hb : b = true
    · rw [if_pos hb]; exact Ev.pos hb (Ev.now _)
    · rw [if_neg hb]
      refine Ev.neg hb ?_
      by_cases hk : kind = 3
      · refine Ev.pos hk (Ev.pos (by omega) (Ev.pos (by omega) ?_))
        rw [rd_nat]
        have := ref_j4 kind size name tb data (decide ((l.getD p z71).f2 < ((l.getD p z71).f1.size : Int)))
        rw [if_pos hk] at this
        by_cases hw : (l.getD p z71).f2 < ((l.getD p z71).f1.size : Int)
        · rw [if_pos ⟨hk, hw⟩]
          rwa [if_pos (decide_eq_true hw)] at this
        · rw [if_neg (fun h => hw h.2)]
          rw [if_neg (by simpa using hw)] at this
          by_cases hn : named tb
          · rw [if_neg (fun h => h.2 hn)]; rwa [if_pos hn] at this
          · rw [if_pos ⟨hk, hn⟩]; rwa [if_neg hn] at this
      · rw [if_neg (fun h => hk h.1), if_neg (fun h => hk h.1)]
        refine Ev.neg hk ?_
        have := ref_j4 kind size name tb data false
        rwa [if_neg (by decide), if_neg hk] at this
  unfold disk_change_refused.f
  refine Ev.bind hp (Ev.neg h0 ?_)
  refine Ev.step (fun k => rfl) ?_
  simp only [disk_change_refused.j0]
  refine Ev.neg (by decide) (Ev.neg h0 ?_)
  refine Ev.step (fun k => rfl) ?_
  simp only [disk_change_refused.j1]
  refine Ev.neg (by decide) (Ev.neg h0 ?_)
  refine Ev.step (fun k => rfl) ?_
  simp only [disk_change_refused.j2]
  refine Ev.neg (by decide) ?_
  by_cases hk : kind = 2
  · refine Ev.pos hk ?_
    by_cases hs : size < 0
    · rw [if_pos ⟨hk, .inl hs⟩]
      have := tail true
      rw [if_pos rfl] at this
      exact Ev.pos hs this
    · refine Ev.neg hs (Ev.pos (by omega) (Ev.pos (by omega) ?_))
      rw [rd_nat]
      by_cases hs2 : size > ((l.getD p z71).f1.size : Int)
      · rw [if_pos ⟨hk, .inr hs2⟩]
        have := tail (decide (size > ((l.getD p z71).f1.size : Int)))
        rwa [if_pos (decide_eq_true hs2)] at this
      · rw [if_neg (fun h => h.2.elim hs hs2)]
        have := tail (decide (size > ((l.getD p z71).f1.size : Int)))
        rwa [if_neg (by simpa using hs2)] at this
  · rw [if_neg (fun h => hk h.1)]
    have := tail false
    rw [if_neg (by decide)] at this
    exact Ev.neg hk this
/-- The fuse. -/
theorem done_j0 (hf : f < 9223372036854775808) (x : R4) (h : f ≠ 0 → Ev (fun k => disk_done.j1 k x5 l d (dec f) kind name tb data size) x) :
    Ev (fun k => disk_done.j0 k x5 l d f kind name tb data size) (if f = 0 then (l, true, f, 8) else x) := by
  refine Ev.step (fun k => rfl) ?_
  simp only [disk_done.j0]
  by_cases h0 : f = 0
  · rw [if_pos h0]; exact Ev.pos h0 (Ev.now _)
  · rw [if_neg h0]
    refine Ev.neg h0 ?_
    have hx := h h0
    unfold dec at hx
    by_cases h1 : f > 0
    · rw [if_pos h1] at hx
      refine Ev.pos h1 ?_
      rw [wrap64_id (by omega) (by omega)]
      exact hx
    · rw [if_neg h1] at hx
      exact Ev.neg h1 hx
end
theorem del_at (A : List S71) (g : S71) (B : List S71) (hl : (A ++ g :: B).length < 4611686018427387904) : api_File_109.f (A ++ g :: B) (A.length : Int) (wrap64 ((A.length : Int) + 1)) = some (A ++ B) := by
  have hlen : (A ++ g :: B).length = A.length + (B.length + 1) := List.length_append
  rw [wrap_add1 (by omega)]
  unfold api_File_109.f
  rw [if_pos (by omega), Int.toNat_natCast, Int.toNat_natCast, List.take_left' rfl]
  congr 1
  congr 1
  rw [List.drop_append, List.drop_eq_nil_of_le (by omega), show A.length + 1 - A.length = 1 by omega]
  rfl
theorem ins_at (A B : List S71) (x : S71) (hl : (A ++ B).length + 1 < 3518437208883) : api_File_108.f (A ++ B) (A.length : Int) [x] = some (A ++ x :: B) := by
  have hlen : (A ++ B).length = A.length + B.length := List.length_append
  unfold api_File_108.f
  rw [if_pos (by simp only [List.length_cons, List.length_nil]; omega), Int.toNat_natCast, List.take_left' rfl, List.drop_left' rfl, List.append_assoc]
  rfl
end Go.Proofs.Ytpigjmjbfpipnaa.Dk
