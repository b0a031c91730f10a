/- Plain laws, joined. -/
import Derived.Test.YtpigjmjbfpipnaaPFx9
import Derived.Test.YtpigjmjbfpipnaaPFx4
import Derived.Test.YtpigjmjbfpipnaaDkSamef
import Derived.Test.YtpigjmjbfpipnaaPFx11
import Derived.Test.YtpigjmjbfpipnaaPFx10
import Derived.Test.YtpigjmjbfpipnaaPFx0
import Derived.Test.YtpigjmjbfpipnaaOp
import Derived.Test.YtpigjmjbfpipnaaPFx12
import Derived.Test.YtpigjmjbfpipnaaPFx15
import Derived.Test.YtpigjmjbfpipnaaPFx20
import Derived.Test.YtpigjmjbfpipnaaPFx3
import Derived.Test.YtpigjmjbfpipnaaSh
namespace Go.Proofs.Ytpigjmjbfpipnaa.Dk
open Go.RowKit YtpigjmjbfpipnaaW.PrintWords YtpigjmjbfpipnaaW.PrintLast YtpigjmjbfpipnaaW.PrintMore Ytpigjmjbfpipnaa.PF Ba Sh
set_option linter.unusedVariables false
attribute [local instance 10] Classical.propDecidable
theorem cmp_at (a b : ByteArray) (s : Int) (n : ByteArray) : disk_place_1.f a b s n = some (if blt a.toList n.toList then -1 else if blt n.toList a.toList then 1 else 0) := by
  unfold disk_place_1.f cmp_Compare_string.f cmp_isNaN_string.f
  simp only [bne_self_eq_false, Option.bind_some, Bool.false_eq_true, if_false]
  unfold blt
  by_cases h1 : Op.bytesLess a.toList n.toList = true
  · simp [h1]
  · by_cases h2 : Op.bytesLess n.toList a.toList = true
    · simp [h1, h2]
    · simp [h1, h2]
theorem mid (i j : Nat) (hi : i < j) (hj : j < 4611686018427387904) : wrap64 ((IntKind.u64.wrap (wrap64 ((i : Int) + (j : Int)))) / 2) = (((i + j) / 2 : Nat) : Int) := by
  have e1 : wrap64 ((i : Int) + (j : Int)) = (i : Int) + (j : Int) := wrap64_id (by omega) (by omega)
  have e2 : IntKind.u64.wrap ((i : Int) + (j : Int)) = (i : Int) + (j : Int) := u64_id (by omega) (by omega)
  rw [e1, e2, wrap64_id (by omega) (by omega)]
  omega
theorem search_l0 (l : List S71) (n : ByteArray) (hl : l.length < 4611686018427387904) (p : Nat) (hp : p ≤ l.length) (h1 : ∀ i, i < p → blt (nm (l.getD i z71)) n.toList) (h2 : ∀ i, p ≤ i → i < l.length → ¬ blt (nm (l.getD i z71)) n.toList) :
    ∀ (m i j : Nat), j - i ≤ m → i ≤ p → p ≤ j → j ≤ l.length → Ev (fun k => api_File_string.l0 k l n (l.length : Int) (i : Int) (j : Int)) ((p : Int), decide (p < l.length ∧ nm (l.getD p z71) = n.toList))
  | m, i, j, hm, hip, hpj, hjl => by
    by_cases hij : i < j
    · obtain ⟨m, rfl⟩ : ∃ q, m = q + 1 := ⟨m - 1, by omega⟩
      refine Ev.step (fun k => rfl) ?_
      simp only [api_File_string.l0]
      refine Ev.pos (by omega) ?_
      rw [mid i j hij (by omega)]
      refine Ev.pos (by omega) (Ev.pos (by omega) ?_)
      rw [rd_nat, cmp_at]
      refine Ev.bind_const ?_
      by_cases hb : blt (nm (l.getD ((i + j) / 2) z71)) n.toList
      · have hb' : blt ((l.getD ((i + j) / 2) z71).f0).toList n.toList := hb
        rw [if_pos hb']
        refine Ev.pos (by decide) ?_
        rw [wrap_add1 (by omega)]
        refine search_l0 l n hl p hp h1 h2 m _ j (by omega) ?_ hpj hjl
        by_cases hq : (i + j) / 2 + 1 ≤ p
        · exact hq
        · exact absurd hb (h2 _ (by omega) (by omega))
      · have hb' : ¬ blt ((l.getD ((i + j) / 2) z71).f0).toList n.toList := hb
        rw [if_neg hb']
        refine Ev.neg (by split <;> decide) ?_
        refine search_l0 l n hl p hp h1 h2 m i _ (by omega) hip ?_ (by omega)
        by_cases hq : p ≤ (i + j) / 2
        · exact hq
        · exact absurd (h1 _ (by omega)) hb
    · obtain rfl : i = p := by omega
      refine Ev.step (fun k => rfl) ?_
      simp only [api_File_string.l0]
      refine Ev.neg (by omega) ?_
      by_cases hlt : i < l.length
      · refine Ev.pos (by omega) (Ev.pos (by omega) (Ev.pos (by omega) ?_))
        rw [rd_nat, cmp_at]
        refine Ev.bind_const ?_
        have hb : ¬ blt ((l.getD i z71).f0).toList n.toList := h2 i (Nat.le_refl _) hlt
        rw [if_neg hb]
        have e : (((if blt n.toList ((l.getD i z71).f0).toList then (1 : Int) else 0) == 0) : Bool) = decide (i < l.length ∧ nm (l.getD i z71) = n.toList) := by
          by_cases hc : blt n.toList ((l.getD i z71).f0).toList
          · rw [if_pos hc]
            have : ¬ (i < l.length ∧ nm (l.getD i z71) = n.toList) := fun h => by
              have h3 : ((l.getD i z71).f0).toList = n.toList := h.2
              rw [h3] at hc
              exact blt_irrefl _ hc
            rw [decide_eq_false this]; rfl
          · rw [if_neg hc]
            have : i < l.length ∧ nm (l.getD i z71) = n.toList := ⟨hlt, Classical.byContradiction (fun hne => hc (blt_tri hb hne))⟩
            rw [decide_eq_true this]; rfl
        rw [e]
        exact Ev.now _
      · refine Ev.neg (by omega) ?_
        rw [decide_eq_false (fun h => hlt h.1)]
        exact Ev.now _
theorem place_none (A B : List S71) (n : ByteArray) (d : Bool) (f : Int) (hl : (A ++ B).length < 4611686018427387904) (ha : ∀ x ∈ A, blt (nm x) n.toList) (hb : ∀ x ∈ B, blt n.toList (nm x)) :
    Ev (fun k => disk_place.f k (A ++ B) d f n) ((A.length : Int), false) := by
  unfold disk_place.f api_File_string.f
  have hlen : (A ++ B).length = A.length + B.length := List.length_append
  have h := search_l0 (A ++ B) n hl A.length (by omega) (fun i hi => by rw [getD_left hi]; exact ha _ (getD_mem hi))
    (fun i hi hi2 => by rw [getD_right hi]; exact blt_asymm (hb _ (getD_mem (by omega)))) (A ++ B).length 0 (A ++ B).length (by omega) (by omega) (by omega) (Nat.le_refl _)
  rw [decide_eq_false (fun h => by
    have h2 : nm ((A ++ B).getD A.length z71) = n.toList := h.2
    rw [getD_right (Nat.le_refl _)] at h2
    have := hb _ (getD_mem (A := B) (i := A.length - A.length) (by omega))
    rw [h2] at this
    exact blt_irrefl _ this)] at h
  exact Ev.bind h (Ev.now _)
theorem place_some (A : List S71) (g : S71) (B : List S71) (n : ByteArray) (d : Bool) (f : Int) (hl : (A ++ g :: B).length < 4611686018427387904) (ha : ∀ x ∈ A, blt (nm x) n.toList) (hg : nm g = n.toList) (hb : ∀ x ∈ B, blt n.toList (nm x)) :
    Ev (fun k => disk_place.f k (A ++ g :: B) d f n) ((A.length : Int), true) := by
  unfold disk_place.f api_File_string.f
  have hlen : (A ++ g :: B).length = A.length + (B.length + 1) := List.length_append
  have h := search_l0 (A ++ g :: B) n hl A.length (by omega) (fun i hi => by rw [getD_left hi]; exact ha _ (getD_mem hi))
    (fun i hi hi2 => by
      rw [getD_right hi]
      have hm := getD_mem (A := g :: B) (i := i - A.length) (by simp only [List.length_cons]; omega)
      rcases List.mem_cons.1 hm with he | hm
      · rw [he, hg]; exact blt_irrefl _
      · exact blt_asymm (hb _ hm)) (A ++ g :: B).length 0 (A ++ g :: B).length (by omega) (by omega) (by omega) (Nat.le_refl _)
  rw [decide_eq_true ⟨by omega, by rw [getD_right (Nat.le_refl _), Nat.sub_self]; exact hg⟩] at h
  exact Ev.bind h (Ev.now _)
theorem done_shape (l : List S71) (d : Bool) (f : Int) (hl : l.length < 3518437208883) (rf : Nat → List S71 → Option Int) (T : Nat → List S71 → Option R4) (why : Int) (l0 l1 : List S71)
    (h1 : Good l → d = false → Ev (fun k => rf k l) why) (h2 : Good l → d = false → why = 0 → Ev (fun k => T k l) (if f = 0 then (l0, true, f, 8) else (l1, d, dec f, 0))) :
    Ev (fun k => (disk_Check.f k l d f).bind fun t => (if t = 0 then ((api_File_48.f l).bind fun t185 => (if d = true then (some (t185, d, f, 8)) else ((rf k t185).bind fun t188 => (if t188 = 0 then (T k t185) else (some (t185, d, f, t188)))))) else (some (([] : List S71), false, 0, t)))) (opR why l l0 l1 d f) := by
  refine Ev.bind (Check_ev l d f (by omega)) ?_
  unfold opR
  by_cases hg : Good l
  · rw [res_pos hg, if_neg (fun h => h hg)]
    refine Ev.pos rfl ?_
    rw [Clone_at l hl]
    refine Ev.bind_const ?_
    by_cases hd : d = true
    · rw [if_pos hd]
      exact Ev.pos hd (Ev.now _)
    · rw [if_neg hd]
      have hd' : d = false := by simpa using hd
      refine Ev.neg hd (Ev.bind (h1 hg hd') ?_)
      by_cases hw : why = 0
      · rw [if_neg (fun h => h hw)]
        exact Ev.pos hw (h2 hg hd' hw)
      · rw [if_pos hw]
        exact Ev.neg hw (Ev.now _)
  · rw [res_neg hg, if_pos hg]
    exact Ev.neg (by decide) (Ev.now _)
theorem named_at (a : ByteArray) : disk_named.f a = some (decide (named a)) := by
  unfold disk_named.f
  by_cases h : a.toList = []
  · rw [if_pos h, decide_eq_false (fun hn => hn.1 h)]
  · rw [if_neg h]
    by_cases h2 : a.size ≤ 32
    · rw [decide_eq_true (show (a.size : Int) ≤ 32 by omega), decide_eq_true ⟨h, h2⟩]
    · rw [decide_eq_false (show ¬ (a.size : Int) ≤ 32 by omega), decide_eq_false (fun hn => h2 hn.2)]
section
variable (x5 : Int) (is d : Bool) (f kind size : Int) (name tb data : ByteArray) (l : List S71)
theorem ref_j4 (b : Bool) : Ev (fun k => disk_change_refused.j4 k b kind name tb data size) (if b = true then 9 else if kind = 3 then (if named tb then 0 else 5) else 0) := by
  refine Ev.step (fun k => rfl) ?_
  simp only [disk_change_refused.j4]
  by_cases hb : b = true
  · refine Ev.pos hb ?_
    rw [if_pos hb]; exact Ev.now _
  · refine Ev.neg hb ?_
    rw [if_neg hb]
    by_cases hk : kind = 3
    · refine Ev.pos hk ?_
      rw [if_pos hk, named_at]
      refine Ev.bind_const ?_
      by_cases hn : named tb
      · refine Ev.pos (decide_eq_true hn) ?_
        rw [if_pos hn]; exact Ev.now _
      · refine Ev.neg (by simpa using hn) ?_
        rw [if_neg hn]; exact Ev.now _
    · refine Ev.neg hk ?_
      rw [if_neg hk]; exact Ev.now _
theorem refused_add (p : Nat) (hp : Ev (fun k => disk_place.f k l d f name) ((p : Int), is)) :
    Ev (fun k => disk_change_refused.f k 0 name tb data size l d f) (if ¬ named name then 5 else if is = false ∧ 4096 ≤ l.length then 11 else 0) := by
  unfold disk_change_refused.f
  refine Ev.bind hp (Ev.pos rfl ?_)
  rw [named_at]
  refine Ev.bind_const ?_
  refine Ev.step (fun k => rfl) ?_
  simp only [disk_change_refused.j0]
  by_cases hn : named name
  · rw [if_neg (fun h => h hn), decide_eq_true hn]
    refine Ev.neg (by decide) (Ev.pos (by decide) ?_)
    have tail : ∀ b : Bool, Ev (fun k => disk_change_refused.j1 k (p : Int) is b 0 name tb data size l d f) (if b = true then 11 else 0) := by
      intro b
      refine Ev.step (fun k => rfl) ?_
      simp only [disk_change_refused.j1]
      by_cases hb : b = true
      · rw [if_pos hb]; exact Ev.pos hb (Ev.now _)
      · rw [if_neg hb]
        refine Ev.neg hb (Ev.pos (by decide) ?_)
        refine Ev.step (fun k => rfl) ?_
        simp only [disk_change_refused.j2]
        refine Ev.neg (by decide) (Ev.neg (by decide) ?_)
        refine Ev.step (fun k => rfl) ?_
        simp only [disk_change_refused.j3]
        refine Ev.neg (by decide) (Ev.neg (by decide) ?_)
        exact ref_j4 0 size name tb data false
    cases is with
    | true => rw [if_neg (fun h => by cases h.1)]; exact Ev.pos rfl (tail false)
    | false =>
      refine Ev.neg (by decide) ?_
      by_cases h4 : 4096 ≤ l.length
      · rw [if_pos ⟨rfl, h4⟩]
        have := tail (decide ((l.length : Int) ≥ 4096))
        rwa [decide_eq_true (show (l.length : Int) ≥ 4096 by omega)] at this ⊢
      · rw [if_neg (fun h => h4 h.2)]
        have := tail (decide ((l.length : Int) ≥ 4096))
        rwa [decide_eq_false (show ¬ (l.length : Int) ≥ 4096 by omega)] at this ⊢
  · rw [if_pos hn, decide_eq_false hn]
    exact Ev.pos (by decide) (Ev.now _)
theorem refused_none (h0 : kind ≠ 0) (p : Nat) (hp : Ev (fun k => disk_place.f k l d f name) ((p : Int), false)) :
    Ev (fun k => disk_change_refused.f k kind name tb data size l d f) 6 := by
  unfold disk_change_refused.f
  refine Ev.bind hp (Ev.neg h0 ?_)
  refine Ev.step (fun k => rfl) ?_
  simp only [disk_change_refused.j0]
  refine Ev.neg (by decide) (Ev.neg h0 ?_)
  refine Ev.step (fun k => rfl) ?_
  simp only [disk_change_refused.j1]
  refine Ev.neg (by decide) (Ev.neg h0 ?_)
  refine Ev.step (fun k => rfl) ?_
  simp only [disk_change_refused.j2]
  exact Ev.pos (by decide) (Ev.now _)
theorem refused_some (h0 : kind ≠ 0) (p : Nat) (hpl : p < l.length) (hp : Ev (fun k => disk_place.f k l d f name) ((p : Int), true)) :
    Ev (fun k => disk_change_refused.f k kind name tb data size l d f)
      (if kind = 2 ∧ (size < 0 ∨ size > ((l.getD p z71).f1.size : Int)) then 1 else if kind = 3 ∧ (l.getD p z71).f2 < ((l.getD p z71).f1.size : Int) then 9 else if kind = 3 ∧ ¬ named tb then 5 else 0) := by
  have tail : ∀ b : Bool, Ev (fun k => disk_change_refused.j3 k (p : Int) b kind name tb data size l d f) (if b = true then 1 else if kind = 3 ∧ (l.getD p z71).f2 < ((l.getD p z71).f1.size : Int) then 9 else if kind = 3 ∧ ¬ named tb then 5 else 0) := by
    intro b
    refine Ev.step (fun k => rfl) ?_
    simp only [disk_change_refused.j3]
    by_cases hb : b = true
    · rw [if_pos hb]; exact Ev.pos hb (Ev.now _)
    · rw [if_neg hb]
      refine Ev.neg hb ?_
      by_cases hk : kind = 3
      · refine Ev.pos hk (Ev.pos (by omega) (Ev.pos (by omega) ?_))
        rw [rd_nat]
        have := ref_j4 kind size name tb data (decide ((l.getD p z71).f2 < ((l.getD p z71).f1.size : Int)))
        rw [if_pos hk] at this
        by_cases hw : (l.getD p z71).f2 < ((l.getD p z71).f1.size : Int)
        · rw [if_pos ⟨hk, hw⟩]
          rwa [if_pos (decide_eq_true hw)] at this
        · rw [if_neg (fun h => hw h.2)]
          rw [if_neg (by simpa using hw)] at this
          by_cases hn : named tb
          · rw [if_neg (fun h => h.2 hn)]; rwa [if_pos hn] at this
          · rw [if_pos ⟨hk, hn⟩]; rwa [if_neg hn] at this
      · rw [if_neg (fun h => hk h.1), if_neg (fun h => hk h.1)]
        refine Ev.neg hk ?_
        have := ref_j4 kind size name tb data false
        rwa [if_neg (by decide), if_neg hk] at this
  unfold disk_change_refused.f
  refine Ev.bind hp (Ev.neg h0 ?_)
  refine Ev.step (fun k => rfl) ?_
  simp only [disk_change_refused.j0]
  refine Ev.neg (by decide) (Ev.neg h0 ?_)
  refine Ev.step (fun k => rfl) ?_
  simp only [disk_change_refused.j1]
  refine Ev.neg (by decide) (Ev.neg h0 ?_)
  refine Ev.step (fun k => rfl) ?_
  simp only [disk_change_refused.j2]
  refine Ev.neg (by decide) ?_
  by_cases hk : kind = 2
  · refine Ev.pos hk ?_
    by_cases hs : size < 0
    · rw [if_pos ⟨hk, .inl hs⟩]
      have := tail true
      rw [if_pos rfl] at this
      exact Ev.pos hs this
    · refine Ev.neg hs (Ev.pos (by omega) (Ev.pos (by omega) ?_))
      rw [rd_nat]
      by_cases hs2 : size > ((l.getD p z71).f1.size : Int)
      · rw [if_pos ⟨hk, .inr hs2⟩]
        have := tail (decide (size > ((l.getD p z71).f1.size : Int)))
        rwa [if_pos (decide_eq_true hs2)] at this
      · rw [if_neg (fun h => h.2.elim hs hs2)]
        have := tail (decide (size > ((l.getD p z71).f1.size : Int)))
        rwa [if_neg (by simpa using hs2)] at this
  · rw [if_neg (fun h => hk h.1)]
    have := tail false
    rw [if_neg (by decide)] at this
    exact Ev.neg hk this
theorem done_j0 (hf : f < 9223372036854775808) (x : R4) (h : f ≠ 0 → Ev (fun k => disk_done.j1 k x5 l d (dec f) kind name tb data size) x) :
    Ev (fun k => disk_done.j0 k x5 l d f kind name tb data size) (if f = 0 then (l, true, f, 8) else x) := by
  refine Ev.step (fun k => rfl) ?_
  simp only [disk_done.j0]
  by_cases h0 : f = 0
  · rw [if_pos h0]; exact Ev.pos h0 (Ev.now _)
  · rw [if_neg h0]
    refine Ev.neg h0 ?_
    have hx := h h0
    unfold dec at hx
    by_cases h1 : f > 0
    · rw [if_pos h1] at hx
      refine Ev.pos h1 ?_
      rw [wrap64_id (by omega) (by omega)]
      exact hx
    · rw [if_neg h1] at hx
      exact Ev.neg h1 hx
end
theorem del_at (A : List S71) (g : S71) (B : List S71) (hl : (A ++ g :: B).length < 4611686018427387904) : api_File_109.f (A ++ g :: B) (A.length : Int) (wrap64 ((A.length : Int) + 1)) = some (A ++ B) := by
  have hlen : (A ++ g :: B).length = A.length + (B.length + 1) := List.length_append
  rw [wrap_add1 (by omega)]
  unfold api_File_109.f
  rw [if_pos (by omega), Int.toNat_natCast, Int.toNat_natCast, List.take_left' rfl]
  congr 1
  congr 1
  rw [List.drop_append, List.drop_eq_nil_of_le (by omega), show A.length + 1 - A.length = 1 by omega]
  rfl
theorem ins_at (A B : List S71) (x : S71) (hl : (A ++ B).length + 1 < 3518437208883) : api_File_108.f (A ++ B) (A.length : Int) [x] = some (A ++ x :: B) := by
  have hlen : (A ++ B).length = A.length + B.length := List.length_append
  unfold api_File_108.f
  rw [if_pos (by simp only [List.length_cons, List.length_nil]; omega), Int.toNat_natCast, List.take_left' rfl, List.drop_left' rfl, List.append_assoc]
  rfl
end Go.Proofs.Ytpigjmjbfpipnaa.Dk
namespace Go.Proofs.Ytpigjmjbfpipnaa.Dk
open Go.RowKit YtpigjmjbfpipnaaW.PrintWords YtpigjmjbfpipnaaW.PrintLast YtpigjmjbfpipnaaW.PrintMore Ytpigjmjbfpipnaa.PF Ba Sh Ytpigjmjbfpipnaa.Op
set_option linter.unusedVariables false
attribute [local instance 10] Classical.propDecidable
theorem i64_lt {n : Int} (h : okInt .i64 n) : n < 9223372036854775808 := by
  unfold okInt at h
  simp only [Lit.wf, IntKind.min, IntKind.max, IntKind.signed, IntKind.bits, Bool.and_eq_true, decide_eq_true_eq] at h
  have := h.2
  simp at this
  omega
structure Came (x : S24) : Prop where
  len : x.f0.length + 3 < 3518437208883
  fuse : x.f2 < 9223372036854775808
  size : ∀ y ∈ x.f0, y.f1.size ≤ 140737488351232
theorem came {x : S24} (h : ok24 x) : Came x := by
  obtain ⟨⟨h1, h2⟩, _, h3⟩ := h
  exact ⟨by omega, i64_lt h3, fun y hy => (h2 y hy).2.1⟩
end Go.Proofs.Ytpigjmjbfpipnaa.Dk
namespace Go.Proofs.Ytpigjmjbfpipnaa.Dk
open Go.RowKit YtpigjmjbfpipnaaW.PrintWords YtpigjmjbfpipnaaW.PrintLast YtpigjmjbfpipnaaW.PrintMore Ytpigjmjbfpipnaa.PF Ba Sh
set_option linter.unusedVariables false
attribute [local instance 10] Classical.propDecidable
noncomputable def syncO (o : Option (List S71 × Option S71 × List S71)) (l : List S71) : Int × List S71 × List S71 :=
  match o with
  | some (A, some g, B) => (0, l, A ++ ⟨g.f0, g.f1, (g.f1.size : Int)⟩ :: B)
  | _ => (6, l, l)
theorem Sync_ev (l : List S71) (d : Bool) (f : Int) (n : ByteArray) (o) (ho : At n.toList l o) (hl : l.length < 3518437208883) (hf : f < 9223372036854775808) :
    Ev (fun k => disk_Sync.f k l d f n) (outcome l d f (syncO o l)) := by
  unfold disk_Sync.f disk_done.f outcome
  refine Ev.bind (done_shape l d f hl _ _ _ _ _ ?_ ?_) (Ev.now _)
  · intro hg hd
    cases ho with
    | bad h => exact absurd hg h
    | none A B _ e ha hb =>
      subst e
      exact refused_none _ _ _ _ _ _ _ _ (by decide) _ (place_none A B n d f (by omega) ha hb)
    | some A g B _ e ha hn hb =>
      subst e
      have hlen : (A ++ g :: B).length = A.length + (B.length + 1) := List.length_append
      have := refused_some d f 1 0 n (⟨#[]⟩ : ByteArray) (⟨#[]⟩ : ByteArray) (A ++ g :: B) (by decide) A.length (by omega) (place_some A g B n d f (by omega) ha hn hb)
      rwa [if_neg (fun h => absurd h.1 (by decide)), if_neg (fun h => absurd h.1 (by decide)), if_neg (fun h => absurd h.1 (by decide))] at this
  · intro hg hd hw
    cases ho with
    | bad h => exact absurd hg h
    | none A B _ e ha hb => exact absurd hw (by simp [syncO])
    | some A g B _ e ha hn hb =>
      subst e
      have hlen : (A ++ g :: B).length = A.length + (B.length + 1) := List.length_append
      refine Ev.bind (place_some A g B n d f (by omega) ha hn hb) (Ev.neg (by decide) ?_)
      refine done_j0 _ _ _ _ _ _ _ _ _ hf _ (fun h0 => ?_)
      refine Ev.step (fun k => rfl) ?_
      simp only [disk_done.j1]
      refine Ev.pos (by omega) (Ev.pos (by omega) (Ev.pos (by decide) ?_))
      rw [rd_nat, getD_mid, Int.toNat_natCast, set_mid]
      exact Ev.now _
theorem syncO_len {n : List UInt8} {l : List S71} {o} (h : At n l o) : (syncO o l).2.1.length ≤ l.length + 1 ∧ (syncO o l).2.2.length ≤ l.length + 1 := by
  rcases o with _ | ⟨A, _ | g, B⟩
  · exact ⟨by simp [syncO], by simp [syncO]⟩
  · exact ⟨by simp [syncO], by simp [syncO]⟩
  · have := at_len h
    refine ⟨by simp [syncO], ?_⟩
    show (A ++ _ :: B).length ≤ _
    rw [List.length_append, List.length_cons]; omega
theorem nil_append_ba (b : ByteArray) : (⟨#[]⟩ : ByteArray) ++ b = b := by
  obtain ⟨x, rfl, _⟩ := exists_ba b
  rw [ba_nil, ba_append, List.nil_append]
noncomputable def addO (o : Option (List S71 × Option S71 × List S71)) (l : List S71) (n data : ByteArray) : Int × List S71 × List S71 :=
  match o with
  | some (A, some g, B) => (if ¬ named n then 5 else 0, A ++ ⟨g.f0, g.f1 ++ data, g.f2⟩ :: B, A ++ ⟨g.f0, g.f1 ++ data, g.f2⟩ :: B)
  | some (A, none, B) => (if ¬ named n then 5 else if 4096 ≤ l.length then 11 else 0, A ++ ⟨n, data, 0⟩ :: B, A ++ ⟨n, data, 0⟩ :: B)
  | none => (0, l, l)
theorem j1_add (l : List S71) (d : Bool) (f : Int) (p : Nat) (n tb data : ByteArray) (size : Int) (hp : p < l.length) : Ev (fun k => disk_done.j1 k (p : Int) l d f 0 n tb data size) (l, d, f, 0) := by
  refine Ev.step (fun k => rfl) ?_
  simp only [disk_done.j1]
  exact Ev.pos (by omega) (Ev.pos (by omega) (Ev.neg (by decide) (Ev.neg (by decide) (Ev.neg (by decide) (Ev.neg (by decide) (Ev.now _))))))
theorem Add_ev (l : List S71) (d : Bool) (f : Int) (n data : ByteArray) (o) (ho : At n.toList l o) (hl : l.length + 1 < 3518437208883) (hf : f < 9223372036854775808) (hs : ∀ x ∈ l, x.f1.size ≤ 4611686018427387903) (hsd : data.size ≤ 4611686018427387904) :
    Ev (fun k => disk_Add.f k l d f n data) (outcome l d f (addO o l n data)) := by
  unfold disk_Add.f disk_done.f outcome
  refine Ev.bind (done_shape l d f (by omega) _ _ _ _ _ ?_ ?_) (Ev.now _)
  · intro hg hd
    cases ho with
    | bad h => exact absurd hg h
    | none A B _ e ha hb =>
      subst e
      have := refused_add false d f 0 n (⟨#[]⟩ : ByteArray) data (A ++ B) A.length (place_none A B n d f (by omega) ha hb)
      show Ev _ (if ¬ named n then 5 else if 4096 ≤ (A ++ B).length then 11 else 0)
      by_cases hn : ¬ named n
      · rw [if_pos hn]; rwa [if_pos hn] at this
      · rw [if_neg hn]; rw [if_neg hn] at this
        by_cases h4 : 4096 ≤ (A ++ B).length
        · rw [if_pos h4]; rwa [if_pos ⟨rfl, h4⟩] at this
        · rw [if_neg h4]; rwa [if_neg (fun h => h4 h.2)] at this
    | some A g B _ e ha hn hb =>
      subst e
      have := refused_add true d f 0 n (⟨#[]⟩ : ByteArray) data (A ++ g :: B) A.length (place_some A g B n d f (by omega) ha hn hb)
      show Ev _ (if ¬ named n then 5 else 0)
      by_cases hn : ¬ named n
      · rw [if_pos hn]; rwa [if_pos hn] at this
      · rw [if_neg hn]; rwa [if_neg hn, if_neg (fun h => by cases h.1)] at this
  · intro hg hd hw
    cases ho with
    | bad h => exact absurd hg h
    | none A B _ e ha hb =>
      subst e
      have hlen : (A ++ B).length = A.length + B.length := List.length_append
      refine Ev.bind (place_none A B n d f (by omega) ha hb) (Ev.pos rfl (Ev.neg (by simp) ?_))
      dsimp only
      rw [ins_at A B _ (by omega)]
      refine Ev.bind_const ?_
      refine Ev.pos (by omega) (Ev.pos (by rw [List.length_append, List.length_cons]; omega) ?_)
      rw [rd_nat, getD_mid]
      refine Ev.pos (by show 0 + data.size ≤ _; omega) ?_
      rw [Int.toNat_natCast, set_mid, nil_append_ba]
      exact done_j0 _ _ _ _ _ _ _ _ _ hf _ (fun h0 => j1_add _ _ _ _ _ _ _ _ (by rw [List.length_append, List.length_cons]; omega))
    | some A g B _ e ha hn hb =>
      subst e
      have hlen : (A ++ g :: B).length = A.length + (B.length + 1) := List.length_append
      refine Ev.bind (place_some A g B n d f (by omega) ha hn hb) (Ev.pos rfl (Ev.pos rfl (Ev.pos (by omega) (Ev.pos (by omega) ?_))))
      rw [rd_nat, getD_mid]
      refine Ev.pos (by have := hs g (by simp); omega) ?_
      rw [Int.toNat_natCast, set_mid]
      exact done_j0 _ _ _ _ _ _ _ _ _ hf _ (fun h0 => j1_add _ _ _ _ _ _ _ _ (by rw [List.length_append, List.length_cons]; omega))
theorem addO_len {n : List UInt8} {l : List S71} {o} (h : At n l o) (a b : ByteArray) : (addO o l a b).2.1.length ≤ l.length + 1 ∧ (addO o l a b).2.2.length ≤ l.length + 1 := by
  rcases o with _ | ⟨A, _ | g, B⟩
  · exact ⟨by simp [addO], by simp [addO]⟩
  · have := at_len h
    have e : (A ++ (⟨a, b, 0⟩ : S71) :: B).length ≤ l.length + 1 := by rw [List.length_append, List.length_cons]; omega
    exact ⟨e, e⟩
  · have := at_len h
    have e : (A ++ (⟨g.f0, g.f1 ++ b, g.f2⟩ : S71) :: B).length ≤ l.length + 1 := by rw [List.length_append, List.length_cons]; omega
    exact ⟨e, e⟩
noncomputable def dropO (o : Option (List S71 × Option S71 × List S71)) (l : List S71) : Int × List S71 × List S71 :=
  match o with
  | some (A, some g, B) => (0, l, A ++ B)
  | _ => (6, l, l)
theorem Drop_ev (l : List S71) (d : Bool) (f : Int) (n : ByteArray) (o) (ho : At n.toList l o) (hl : l.length < 3518437208883) (hf : f < 9223372036854775808) :
    Ev (fun k => disk_Drop.f k l d f n) (outcome l d f (dropO o l)) := by
  unfold disk_Drop.f disk_done.f outcome
  refine Ev.bind (done_shape l d f hl _ _ _ _ _ ?_ ?_) (Ev.now _)
  · intro hg hd
    cases ho with
    | bad h => exact absurd hg h
    | none A B _ e ha hb =>
      subst e
      exact refused_none _ _ _ _ _ _ _ _ (by decide) _ (place_none A B n d f (by omega) ha hb)
    | some A g B _ e ha hn hb =>
      subst e
      have hlen : (A ++ g :: B).length = A.length + (B.length + 1) := List.length_append
      have := refused_some d f 4 0 n (⟨#[]⟩ : ByteArray) (⟨#[]⟩ : ByteArray) (A ++ g :: B) (by decide) A.length (by omega) (place_some A g B n d f (by omega) ha hn hb)
      rwa [if_neg (fun h => absurd h.1 (by decide)), if_neg (fun h => absurd h.1 (by decide)), if_neg (fun h => absurd h.1 (by decide))] at this
  · intro hg hd hw
    cases ho with
    | bad h => exact absurd hg h
    | none A B _ e ha hb => exact absurd hw (by simp [dropO])
    | some A g B _ e ha hn hb =>
      subst e
      have hlen : (A ++ g :: B).length = A.length + (B.length + 1) := List.length_append
      refine Ev.bind (place_some A g B n d f (by omega) ha hn hb) (Ev.neg (by decide) ?_)
      refine done_j0 _ _ _ _ _ _ _ _ _ hf _ (fun h0 => ?_)
      refine Ev.step (fun k => rfl) ?_
      simp only [disk_done.j1]
      refine Ev.pos (by omega) (Ev.pos (by omega) (Ev.neg (by decide) (Ev.neg (by decide) (Ev.pos (by decide) ?_))))
      rw [del_at A g B (by omega)]
      exact Ev.bind_const (Ev.now _)
theorem dropO_len {n : List UInt8} {l : List S71} {o} (h : At n l o) : (dropO o l).2.1.length ≤ l.length + 1 ∧ (dropO o l).2.2.length ≤ l.length + 1 := by
  rcases o with _ | ⟨A, _ | g, B⟩
  · exact ⟨by simp [dropO], by simp [dropO]⟩
  · exact ⟨by simp [dropO], by simp [dropO]⟩
  · have := at_len h
    refine ⟨by simp [dropO], ?_⟩
    show (A ++ B).length ≤ _
    rw [List.length_append]; omega
noncomputable def swapO (o : Option (List S71 × Option S71 × List S71)) (l : List S71) (tb : ByteArray) : Int × List S71 × List S71 :=
  match o with
  | some (A, some g, B) => (if g.f2 < (g.f1.size : Int) then 9 else if ¬ named tb then 5 else 0, l, withL ⟨tb, g.f1, g.f2⟩ false (A ++ B))
  | _ => (6, l, l)
theorem Swap_ev (l : List S71) (d : Bool) (f : Int) (n tb : ByteArray) (o) (ho : At n.toList l o) (hl : l.length + 1 < 3518437208883) (hf : f < 9223372036854775808) :
    Ev (fun k => disk_Swap.f k l d f n tb) (outcome l d f (swapO o l tb)) := by
  unfold disk_Swap.f disk_done.f outcome
  refine Ev.bind (done_shape l d f (by omega) _ _ _ _ _ ?_ ?_) (Ev.now _)
  · intro hg hd
    cases ho with
    | bad h => exact absurd hg h
    | none A B _ e ha hb =>
      subst e
      exact refused_none _ _ _ _ _ _ _ _ (by decide) _ (place_none A B n d f (by omega) ha hb)
    | some A g B _ e ha hn hb =>
      subst e
      have hlen : (A ++ g :: B).length = A.length + (B.length + 1) := List.length_append
      have := refused_some d f 3 0 n tb (⟨#[]⟩ : ByteArray) (A ++ g :: B) (by decide) A.length (by omega) (place_some A g B n d f (by omega) ha hn hb)
      rw [getD_mid] at this
      show Ev _ (if g.f2 < (g.f1.size : Int) then 9 else if ¬ named tb then 5 else 0)
      rw [if_neg (fun h => absurd h.1 (by decide))] at this
      by_cases hw : g.f2 < (g.f1.size : Int)
      · rw [if_pos hw]; rwa [if_pos ⟨rfl, hw⟩] at this
      · rw [if_neg hw]; rw [if_neg (fun h => hw h.2)] at this
        by_cases hnn : ¬ named tb
        · rw [if_pos hnn]; rwa [if_pos ⟨rfl, hnn⟩] at this
        · rw [if_neg hnn]; rwa [if_neg (fun h => hnn h.2)] at this
  · intro hg hd hw
    cases ho with
    | bad h => exact absurd hg h
    | none A B _ e ha hb => exact absurd hw (by simp [swapO])
    | some A g B _ e ha hn hb =>
      subst e
      have hlen : (A ++ g :: B).length = A.length + (B.length + 1) := List.length_append
      have hr := rise_sub hg.rise
      have hAB : (A ++ B).length = A.length + B.length := List.length_append
      refine Ev.bind (place_some A g B n d f (by omega) ha hn hb) (Ev.neg (by decide) ?_)
      refine done_j0 _ _ _ _ _ _ _ _ _ hf _ (fun h0 => ?_)
      refine Ev.step (fun k => rfl) ?_
      simp only [disk_done.j1]
      refine Ev.pos (by omega) (Ev.pos (by omega) (Ev.neg (by decide) (Ev.neg (by decide) (Ev.neg (by decide) (Ev.pos (by decide) ?_)))))
      rw [del_at A g B (by omega), rd_nat, getD_mid]
      refine Ev.bind_const ?_
      show Ev _ (withL ⟨tb, g.f1, g.f2⟩ false (A ++ B), d, dec f, (0 : Int))
      have hp := parts tb.toList hr
      generalize hq : A ++ B = q at hp hAB
      cases hp with
      | none C D hc hdd =>
        rw [withL_none ⟨tb, g.f1, g.f2⟩ C D hc hdd]
        refine Ev.bind (place_none C D tb d (dec f) (by omega) hc hdd) (Ev.neg (by simp) ?_)
        dsimp only
        rw [ins_at C D _ (by omega)]
        exact Ev.bind_const (Ev.now _)
      | some C x D hc hx hdd =>
        rw [withL_some ⟨tb, g.f1, g.f2⟩ x C D hc hx hdd]
        have hCD : (C ++ x :: D).length = C.length + (D.length + 1) := List.length_append
        refine Ev.bind (place_some C x D tb d (dec f) (by omega) hc hx hdd) (Ev.pos rfl (Ev.pos (by omega) (Ev.pos (by omega) ?_)))
        rw [Int.toNat_natCast, set_mid]
        exact Ev.now _
theorem swapO_len {n : List UInt8} {l : List S71} {o} (h : At n l o) (tb : ByteArray) : (swapO o l tb).2.1.length ≤ l.length + 1 ∧ (swapO o l tb).2.2.length ≤ l.length + 1 := by
  rcases o with _ | ⟨A, _ | g, B⟩
  · exact ⟨by simp [swapO], by simp [swapO]⟩
  · exact ⟨by simp [swapO], by simp [swapO]⟩
  · have := at_len h
    refine ⟨by simp [swapO], ?_⟩
    have hw := withL_len ⟨tb, g.f1, g.f2⟩ false (A ++ B)
    rw [List.length_append] at hw
    show (withL _ _ _).length ≤ _
    omega
theorem asked_ev (l : List S71) (d : Bool) (f : Int) (hl : l.length < 4611686018427387904) : Ev (fun k => disk_asked.f k l d f) (if Good l then (if d = true then 8 else 0) else 10) := by
  unfold disk_asked.f
  refine Ev.bind (Check_ev l d f hl) ?_
  by_cases hg : Good l
  · rw [res_pos hg, if_pos hg]
    refine Ev.pos rfl ?_
    cases d with
    | true => exact Ev.pos rfl (Ev.now _)
    | false => exact Ev.neg (by decide) (Ev.now _)
  · rw [res_neg hg, if_neg hg]
    exact Ev.neg (by decide) (Ev.now _)
noncomputable def readO (o : Option (List S71 × Option S71 × List S71)) : ByteArray × Int :=
  match o with
  | some (_, some g, _) => (g.f1, 0)
  | _ => (⟨#[]⟩, 6)
noncomputable def readR (l : List S71) (d : Bool) (o : Option (List S71 × Option S71 × List S71)) : ByteArray × Int :=
  if ¬ Good l then (⟨#[]⟩, 10) else if d = true then (⟨#[]⟩, 8) else readO o
theorem readR_bad {l : List S71} (h : ¬ Good l) (d : Bool) (o) : readR l d o = (⟨#[]⟩, 10) := if_pos h
theorem readR_down {l : List S71} (h : Good l) (o) : readR l true o = (⟨#[]⟩, 8) := by unfold readR; rw [if_neg (fun x => x h), if_pos rfl]
theorem readR_go {l : List S71} (h : Good l) (o) : readR l false o = readO o := by unfold readR; rw [if_neg (fun x => x h), if_neg (by decide)]
theorem Read_ev (l : List S71) (d : Bool) (f : Int) (n : ByteArray) (o) (ho : At n.toList l o) (hl : l.length < 4611686018427387904) : Ev (fun k => disk_Read.f k l d f n) (readR l d o) := by
  unfold disk_Read.f
  refine Ev.bind (asked_ev l d f hl) ?_
  by_cases hg : Good l
  · rw [if_pos hg]
    cases d with
    | true =>
      rw [if_pos rfl, readR_down hg]
      exact Ev.neg (by decide) (Ev.now _)
    | false =>
      rw [if_neg (by decide), readR_go hg]
      refine Ev.pos rfl ?_
      cases ho with
      | bad h => exact absurd hg h
      | none A B _ e ha hb =>
        subst e
        exact Ev.bind (place_none A B n false f hl ha hb) (Ev.neg (by simp) (Ev.now _))
      | some A g B _ e ha hn hb =>
        subst e
        have hlen : (A ++ g :: B).length = A.length + (B.length + 1) := List.length_append
        refine Ev.bind (place_some A g B n false f hl ha hn hb) (Ev.pos rfl (Ev.pos (by omega) (Ev.pos (by omega) ?_)))
        rw [rd_nat, getD_mid]
        exact Ev.now _
  · rw [if_neg hg, readR_bad hg]
    exact Ev.neg (by decide) (Ev.now _)
end Go.Proofs.Ytpigjmjbfpipnaa.Dk
namespace Go.Proofs.Ytpigjmjbfpipnaa.Dk
open Go.RowKit YtpigjmjbfpipnaaW.PrintWords YtpigjmjbfpipnaaW.PrintLast YtpigjmjbfpipnaaW.PrintMore Ytpigjmjbfpipnaa.PF Ba Sh Ytpigjmjbfpipnaa.Op
set_option linter.unusedVariables false
attribute [local instance 10] Classical.propDecidable
theorem mem_mid {A B : List S71} {g x : S71} : x ∈ A ++ g :: B ↔ x = g ∨ x ∈ A ++ B := by
  simp only [List.mem_append, List.mem_cons]
  constructor
  · rintro (h | h | h)
    · exact .inr (.inl h)
    · exact .inl h
    · exact .inr (.inr h)
  · rintro (h | h | h)
    · exact .inr (.inl h)
    · exact .inl h
    · exact .inr (.inr h)
noncomputable def oAt (n : ByteArray) (l : List S71) : Option (List S71 × Option S71 × List S71) := Classical.choose (at_of n.toList l)
theorem oAt_at (n : ByteArray) (l : List S71) : At n.toList l (oAt n l) := Classical.choose_spec (at_of n.toList l)
noncomputable def rdR (l : List S71) (d : Bool) (n : ByteArray) : ByteArray × Int := readR l d (oAt n l)
noncomputable def addR (l : List S71) (d : Bool) (f : Int) (n data : ByteArray) : R4 := outcome l d f (addO (oAt n l) l n data)
noncomputable def syncR (l : List S71) (d : Bool) (f : Int) (n : ByteArray) : R4 := outcome l d f (syncO (oAt n l) l)
noncomputable def dropR (l : List S71) (d : Bool) (f : Int) (n : ByteArray) : R4 := outcome l d f (dropO (oAt n l) l)
noncomputable def swapR (l : List S71) (d : Bool) (f : Int) (n tb : ByteArray) : R4 := outcome l d f (swapO (oAt n l) l tb)
def tmp (n : ByteArray) : ByteArray := n ++ (⟨#[46, 116, 109, 112]⟩ : ByteArray)
noncomputable def tailR (l : List S71) (d : Bool) (f : Int) (tm nm dt : ByteArray) : R4 :=
  if (addR l d f tm dt).2.2.2 = 0 then
    (if (syncR (addR l d f tm dt).1 (addR l d f tm dt).2.1 (addR l d f tm dt).2.2.1 tm).2.2.2 = 0 then
      swapR (syncR (addR l d f tm dt).1 (addR l d f tm dt).2.1 (addR l d f tm dt).2.2.1 tm).1 (syncR (addR l d f tm dt).1 (addR l d f tm dt).2.1 (addR l d f tm dt).2.2.1 tm).2.1 (syncR (addR l d f tm dt).1 (addR l d f tm dt).2.1 (addR l d f tm dt).2.2.1 tm).2.2.1 tm nm
    else syncR (addR l d f tm dt).1 (addR l d f tm dt).2.1 (addR l d f tm dt).2.2.1 tm)
  else addR l d f tm dt
noncomputable def putR (l : List S71) (d : Bool) (f : Int) (nm dt : ByteArray) : R4 :=
  if (rdR l d (tmp nm)).2 = 0 then
    (if (dropR l d f (tmp nm)).2.2.2 = 0 then tailR (dropR l d f (tmp nm)).1 (dropR l d f (tmp nm)).2.1 (dropR l d f (tmp nm)).2.2.1 (tmp nm) nm dt else dropR l d f (tmp nm))
  else tailR l d f (tmp nm) nm dt

theorem dec_lt {f : Int} (h : f < 9223372036854775808) : dec f < 9223372036854775808 := by unfold dec; split <;> omega
theorem opR_fuse {why : Int} {l l0 l1 : List S71} {d : Bool} {f : Int} (h : f < 9223372036854775808) : (opR why l l0 l1 d f).2.2.1 < 9223372036854775808 := by
  unfold opR
  split
  · show (0 : Int) < _; omega
  · split
    · exact h
    · split
      · exact h
      · split
        · exact h
        · exact dec_lt h
theorem addR_len (l d f n data) : (addR l d f n data).1.length ≤ l.length + 1 := opR_len (by omega) (addO_len (oAt_at n l) n data).1 (addO_len (oAt_at n l) n data).2
theorem syncR_len (l d f n) : (syncR l d f n).1.length ≤ l.length + 1 := opR_len (by omega) (syncO_len (oAt_at n l)).1 (syncO_len (oAt_at n l)).2
theorem dropR_len (l d f n) : (dropR l d f n).1.length ≤ l.length + 1 := opR_len (by omega) (dropO_len (oAt_at n l)).1 (dropO_len (oAt_at n l)).2
theorem swapR_len (l d f n tb) : (swapR l d f n tb).1.length ≤ l.length + 1 := opR_len (by omega) (swapO_len (oAt_at n l) tb).1 (swapO_len (oAt_at n l) tb).2
theorem tailR_len (l d f tm nm dt) : (tailR l d f tm nm dt).1.length ≤ l.length + 3 := by
  unfold tailR
  have h1 := addR_len l d f tm dt
  split
  · have h2 := syncR_len (addR l d f tm dt).1 (addR l d f tm dt).2.1 (addR l d f tm dt).2.2.1 tm
    split
    · have h3 := swapR_len (syncR (addR l d f tm dt).1 (addR l d f tm dt).2.1 (addR l d f tm dt).2.2.1 tm).1 (syncR (addR l d f tm dt).1 (addR l d f tm dt).2.1 (addR l d f tm dt).2.2.1 tm).2.1 (syncR (addR l d f tm dt).1 (addR l d f tm dt).2.1 (addR l d f tm dt).2.2.1 tm).2.2.1 tm nm
      omega
    · omega
  · omega
theorem putR_len (l d f nm dt) : (putR l d f nm dt).1.length ≤ l.length + 4 := by
  unfold putR
  have h1 := dropR_len l d f (tmp nm)
  split
  · split
    · have h2 := tailR_len (dropR l d f (tmp nm)).1 (dropR l d f (tmp nm)).2.1 (dropR l d f (tmp nm)).2.2.1 (tmp nm) nm dt
      omega
    · omega
  · have h2 := tailR_len l d f (tmp nm) nm dt
    omega
theorem dropR_mem {l : List S71} {d : Bool} {f : Int} {n : ByteArray} : ∀ x ∈ (dropR l d f n).1, x ∈ l := by
  intro x hx
  unfold dropR outcome opR at hx
  split at hx
  · simp at hx
  · split at hx
    · exact hx
    · split at hx
      · exact hx
      · have ho := oAt_at n l
        generalize oAt n l = o at hx ho
        cases ho with
        | bad h => split at hx <;> exact hx
        | none A B _ e _ _ => split at hx <;> exact hx
        | some A g B _ e _ _ _ =>
          split at hx
          · exact hx
          · rw [e]; exact mem_mid.2 (.inr hx)
theorem all_ev (l : List S71) (d : Bool) (f : Int) (tm nm dt : ByteArray) (hl : l.length + 3 < 3518437208883) (hf : f < 9223372036854775808) (hs : ∀ x ∈ l, x.f1.size ≤ 4611686018427387903) (hd : dt.size ≤ 4611686018427387904) :
    Ev (fun k => hard_all.f k tm nm dt l d f) (tailR l d f tm nm dt) := by
  unfold hard_all.f tailR
  refine Ev.bind (Add_ev l d f tm dt _ (oAt_at tm l) (by omega) hf hs hd) ?_
  show Ev (fun k => if (addR l d f tm dt).2.2.2 = 0 then hard_all.s1 k tm nm (addR l d f tm dt).1 (addR l d f tm dt).2.1 (addR l d f tm dt).2.2.1 else some (addR l d f tm dt)) _
  have l1 := addR_len l d f tm dt
  have f1 : (addR l d f tm dt).2.2.1 < 9223372036854775808 := opR_fuse hf
  by_cases c1 : (addR l d f tm dt).2.2.2 = 0
  · rw [if_pos c1]
    refine Ev.pos c1 ?_
    generalize addR l d f tm dt = x at l1 f1 ⊢
    unfold hard_all.s1
    refine Ev.bind (Sync_ev x.1 x.2.1 x.2.2.1 tm _ (oAt_at tm x.1) (by omega) f1) ?_
    show Ev (fun k => if (syncR x.1 x.2.1 x.2.2.1 tm).2.2.2 = 0 then hard_all.s2 k tm nm (syncR x.1 x.2.1 x.2.2.1 tm).1 (syncR x.1 x.2.1 x.2.2.1 tm).2.1 (syncR x.1 x.2.1 x.2.2.1 tm).2.2.1 else some (syncR x.1 x.2.1 x.2.2.1 tm)) _
    have l2 := syncR_len x.1 x.2.1 x.2.2.1 tm
    have f2 : (syncR x.1 x.2.1 x.2.2.1 tm).2.2.1 < 9223372036854775808 := opR_fuse f1
    by_cases c2 : (syncR x.1 x.2.1 x.2.2.1 tm).2.2.2 = 0
    · rw [if_pos c2]
      refine Ev.pos c2 ?_
      generalize syncR x.1 x.2.1 x.2.2.1 tm = y at l2 f2 ⊢
      unfold hard_all.s2
      refine Ev.bind (Swap_ev y.1 y.2.1 y.2.2.1 tm nm _ (oAt_at tm y.1) (by omega) f2) ?_
      show Ev (fun k => if (swapR y.1 y.2.1 y.2.2.1 tm nm).2.2.2 = 0 then some ((swapR y.1 y.2.1 y.2.2.1 tm nm).1, (swapR y.1 y.2.1 y.2.2.1 tm nm).2.1, (swapR y.1 y.2.1 y.2.2.1 tm nm).2.2.1, 0) else some (swapR y.1 y.2.1 y.2.2.1 tm nm)) _
      generalize swapR y.1 y.2.1 y.2.2.1 tm nm = z
      obtain ⟨z1, z2, z3, z4⟩ := z
      by_cases c3 : z4 = 0
      · subst c3; exact Ev.pos rfl (Ev.now _)
      · exact Ev.neg c3 (Ev.now _)
    · rw [if_neg c2]
      exact Ev.neg c2 (Ev.now _)
  · rw [if_neg c1]
    exact Ev.neg c1 (Ev.now _)
theorem Put_ev (l : List S71) (d : Bool) (f : Int) (nm dt : ByteArray) (hl : l.length + 4 < 3518437208883) (hf : f < 9223372036854775808) (hs : ∀ x ∈ l, x.f1.size ≤ 4611686018427387903) (hd : dt.size ≤ 4611686018427387904) (hn : nm.size ≤ 4611686018427387904) :
    Ev (fun k => hard_Put.f k l d f nm dt) (putR l d f nm dt) := by
  unfold hard_Put.f putR
  refine Ev.pos (by omega) (Ev.bind (Read_ev l d f (tmp nm) _ (oAt_at (tmp nm) l) (by omega)) ?_)
  show Ev (fun k => if (rdR l d (tmp nm)).2 = 0 then _ else _) _
  by_cases c1 : (rdR l d (tmp nm)).2 = 0
  · rw [if_pos c1]
    refine Ev.pos c1 (Ev.bind (Drop_ev l d f (tmp nm) _ (oAt_at (tmp nm) l) (by omega) hf) ?_)
    show Ev (fun k => if (dropR l d f (tmp nm)).2.2.2 = 0 then hard_all.f k (tmp nm) nm dt (dropR l d f (tmp nm)).1 (dropR l d f (tmp nm)).2.1 (dropR l d f (tmp nm)).2.2.1 else some (dropR l d f (tmp nm))) _
    have l1 := dropR_len l d f (tmp nm)
    have f1 : (dropR l d f (tmp nm)).2.2.1 < 9223372036854775808 := opR_fuse hf
    by_cases c2 : (dropR l d f (tmp nm)).2.2.2 = 0
    · rw [if_pos c2]
      exact Ev.pos c2 (all_ev _ _ _ _ _ _ (by omega) f1 (fun x hx => hs x (dropR_mem x hx)) hd)
    · rw [if_neg c2]
      exact Ev.neg c2 (Ev.now _)
  · rw [if_neg c1]
    exact Ev.neg c1 (all_ev l d f (tmp nm) nm dt (by omega) hf hs hd)

/-! What is there then -/
structure Saved (l : List S71) (nm dt : ByteArray) (e : List S71) : Prop where
  good : Good e
  mem : ∀ x, x ∈ e ↔ (x ∈ l ∧ Dk.nm x ≠ nm.toList ∧ Dk.nm x ≠ (tmp nm).toList) ∨ x = ⟨nm, dt, (dt.size : Int)⟩
structure Unsaved (l : List S71) (f : Int) (nm dt : ByteArray) (w : Int) (e : List S71) : Prop where
  good : Good e
  bytes : ∀ x ∈ e, x ∈ l ∨ x.f1 = dt
  mem : ∀ x, Dk.nm x ≠ (tmp nm).toList → (x ∈ e ↔ x ∈ l)
  why : w = 8 ∧ 0 ≤ f ∨ w = 11 ∧ 4096 ≤ l.length
end Go.Proofs.Ytpigjmjbfpipnaa.Dk
namespace Go.Proofs.Ytpigjmjbfpipnaa.Dk
open Go.RowKit YtpigjmjbfpipnaaW.PrintWords YtpigjmjbfpipnaaW.PrintLast YtpigjmjbfpipnaaW.PrintMore Ytpigjmjbfpipnaa.PF Ba Sh
set_option linter.unusedVariables false
attribute [local instance 10] Classical.propDecidable
theorem find_l0 (l : List S71) (n : ByteArray) (hl : l.length < 4611686018427387904) (r : Int) : ∀ (m j : Nat), j + m = l.length →
    ((∀ i, j ≤ i → i < l.length → nm (l.getD i z71) ≠ n.toList) ∧ r = -1 ∨ ∃ p, j ≤ p ∧ p < l.length ∧ r = (p : Int) ∧ nm (l.getD p z71) = n.toList ∧ ∀ i, j ≤ i → i < p → nm (l.getD i z71) ≠ n.toList) →
    Ev (fun k => gafferref02_find.l0 k n l (l.length : Int) (j : Int)) r
  | 0, j, hj, h => by
    refine Ev.step (fun k => rfl) ?_
    simp only [gafferref02_find.l0]
    rcases h with ⟨_, rfl⟩ | ⟨p, hp⟩
    · exact Ev.neg (by omega) (Ev.now _)
    · omega
  | m + 1, j, hj, h => by
    refine Ev.step (fun k => rfl) ?_
    simp only [gafferref02_find.l0]
    refine Ev.pos (by omega) (Ev.pos (by omega) (Ev.pos (by omega) ?_))
    rw [wrap_add1 (by omega), rd_nat]
    by_cases he : nm (l.getD j z71) = n.toList
    · refine Ev.pos he ?_
      rcases h with ⟨h, _⟩ | ⟨p, hp1, hp2, rfl, hp3, hp4⟩
      · exact absurd he (h j (Nat.le_refl _) (by omega))
      · obtain rfl : j = p := by
          rcases Nat.eq_or_lt_of_le hp1 with h0 | h0
          · exact h0
          · exact absurd he (hp4 j (Nat.le_refl _) h0)
        exact Ev.now _
    · refine Ev.neg he (find_l0 l n hl r m (j + 1) (by omega) ?_)
      rcases h with ⟨h, hr⟩ | ⟨p, hp1, hp2, hr, hp3, hp4⟩
      · exact .inl ⟨fun i hi => h i (by omega), hr⟩
      · refine .inr ⟨p, ?_, hp2, hr, hp3, fun i hi => hp4 i (by omega)⟩
        rcases Nat.eq_or_lt_of_le hp1 with rfl | h0
        · exact absurd hp3 he
        · exact h0
theorem find_none (A B : List S71) (n : ByteArray) (d : Bool) (f : Int) (hl : (A ++ B).length < 4611686018427387904) (ha : ∀ x ∈ A, blt (nm x) n.toList) (hb : ∀ x ∈ B, blt n.toList (nm x)) :
    Ev (fun k => gafferref02_find.f k (A ++ B) d f n) (-1) := by
  unfold gafferref02_find.f
  refine find_l0 (A ++ B) n hl _ (A ++ B).length 0 (by omega) (.inl ⟨fun i _ hi he => ?_, rfl⟩)
  rcases List.mem_append.1 (getD_mem hi) with hm | hm
  · have := ha _ hm; rw [he] at this; exact blt_irrefl _ this
  · have := hb _ hm; rw [he] at this; exact blt_irrefl _ this
theorem find_some (A : List S71) (g : S71) (B : List S71) (n : ByteArray) (d : Bool) (f : Int) (hl : (A ++ g :: B).length < 4611686018427387904) (ha : ∀ x ∈ A, blt (nm x) n.toList) (hg : nm g = n.toList) :
    Ev (fun k => gafferref02_find.f k (A ++ g :: B) d f n) (A.length : Int) := by
  unfold gafferref02_find.f
  have hlen : (A ++ g :: B).length = A.length + (B.length + 1) := List.length_append
  refine find_l0 (A ++ g :: B) n hl _ (A ++ g :: B).length 0 (by omega) (.inr ⟨A.length, Nat.zero_le _, by omega, rfl, by rw [getD_right (Nat.le_refl _), Nat.sub_self]; exact hg, fun i _ hi he => ?_⟩)
  rw [getD_left hi] at he
  have := ha _ (getD_mem hi)
  rw [he] at this
  exact blt_irrefl _ this
theorem with_l0 (l : List S71) (d : Bool) (f : Int) (g : S71) (hl : l.length + 1 < 3518437208883) : ∀ (m j : Nat) (put : Bool) (acc : List S71), j + m = l.length → acc.length ≤ j + 1 → (put = false → acc.length ≤ j) →
    Ev (fun k => gafferref02_with.l0 k acc put l (l.length : Int) (j : Int) l d f g.f0 g.f1 g.f2) (acc ++ withL g put (l.drop j), d, f)
  | 0, j, put, acc, hj, ha, hb => by
    refine Ev.step (fun k => rfl) ?_
    simp only [gafferref02_with.l0]
    refine Ev.neg (by omega) ?_
    rw [List.drop_eq_nil_of_le (by omega)]
    by_cases hp : put = true
    · refine Ev.pos hp ?_
      rw [withL, if_pos hp, List.append_nil]
      exact Ev.now _
    · refine Ev.neg hp (Ev.pos (by omega) ?_)
      rw [withL, if_neg hp]
      exact Ev.now _
  | m + 1, j, put, acc, hj, ha, hb => by
    have hlt : j < l.length := by omega
    obtain ⟨x, hx⟩ : ∃ x, x = l[j] := ⟨_, rfl⟩
    have hd : l.drop j = x :: l.drop (j + 1) := by rw [hx]; exact List.drop_eq_getElem_cons hlt
    have hg : l.getD j z71 = x := by rw [hx]; exact getD_lt hlt
    have ih := fun put acc => with_l0 l d f g hl m (j + 1) put acc (by omega)
    refine Ev.step (fun k => rfl) ?_
    simp only [gafferref02_with.l0]
    refine Ev.pos (by omega) (Ev.pos (by omega) (Ev.pos (by omega) ?_))
    rw [rd_nat, hg, hd]
    have jt : ∀ c : Bool, (c = true ↔ put = false ∧ ¬ blt (nm x) (nm g)) → Ev (fun k => gafferref02_with.j1 k acc put l (l.length : Int) (j : Int) c l d f g.f0 g.f1 g.f2 x.f0 x.f1 x.f2) (acc ++ withL g put (x :: l.drop (j + 1)), d, f) := by
      intro c hc
      refine Ev.step (fun k => rfl) ?_
      simp only [gafferref02_with.j1]
      rw [wrap_add1 (by omega), withL]
      by_cases h1 : c = true
      · rw [if_pos (hc.1 h1)]
        have hpf := (hc.1 h1).1
        refine Ev.pos h1 (Ev.pos (by have := hb hpf; omega) (Ev.bind_const ?_))
        by_cases h2 : x.f0.toList = g.f0.toList
        · rw [if_pos (show nm x = nm g from h2)]
          refine Ev.pos h2 ?_
          have := ih true (acc ++ [g]) (by simp; have := hb hpf; omega) (fun h => by cases h)
          rw [List.append_assoc] at this
          exact this
        · rw [if_neg (show ¬ nm x = nm g from h2)]
          refine Ev.neg h2 (Ev.pos (by simp; have := hb hpf; omega) ?_)
          have := ih true (acc ++ [g] ++ [x]) (by simp; have := hb hpf; omega) (fun h => by cases h)
          have e : acc ++ [g] ++ [x] ++ withL g true (l.drop (j + 1)) = acc ++ g :: x :: withL g true (l.drop (j + 1)) := by simp
          rw [e] at this
          exact this
      · rw [if_neg (fun h => h1 (hc.2 h))]
        refine Ev.neg h1 ?_
        by_cases h2 : x.f0.toList = g.f0.toList
        · rw [if_pos (show nm x = nm g from h2)]
          exact Ev.pos h2 (ih put acc (by omega) (fun h => by have := hb h; omega))
        · rw [if_neg (show ¬ nm x = nm g from h2)]
          refine Ev.neg h2 (Ev.pos (by omega) ?_)
          have := ih put (acc ++ [x]) (by simp; omega) (fun h => by have := hb h; simp; omega)
          rw [List.append_assoc] at this
          exact this
    cases put with
    | true => exact Ev.pos rfl (jt false ⟨fun h => (by cases h), fun h => (by cases h.1)⟩)
    | false =>
      refine Ev.neg (by decide) (jt _ ?_)
      show (!(Op.bytesLess (nm x) (nm g))) = true ↔ _
      unfold blt
      cases Op.bytesLess (nm x) (nm g) <;> simp
theorem with_ev (l : List S71) (d : Bool) (f : Int) (g : S71) (hl : l.length + 1 < 3518437208883) : Ev (fun k => gafferref02_with.f k l d f g.f0 g.f1 g.f2) (withL g false l, d, f) := by
  unfold gafferref02_with.f
  exact with_l0 l d f g hl l.length 0 false [] (by omega) (by simp) (by simp)
theorem without_l0 (l : List S71) (d : Bool) (f : Int) (n : ByteArray) (hl : l.length + 1 < 3518437208883) : ∀ (m j : Nat) (acc : List S71), j + m = l.length → acc.length ≤ j →
    Ev (fun k => gafferref02_without.l0 k n acc l (l.length : Int) (j : Int) l d f) (acc ++ (l.drop j).filter (fun x => decide (nm x ≠ n.toList)), d, f)
  | 0, j, acc, hj, ha => by
    refine Ev.step (fun k => rfl) ?_
    simp only [gafferref02_without.l0]
    refine Ev.neg (by omega) ?_
    rw [List.drop_eq_nil_of_le (by omega), List.filter_nil, List.append_nil]
    exact Ev.now _
  | m + 1, j, acc, hj, ha => by
    have hlt : j < l.length := by omega
    obtain ⟨x, hx⟩ : ∃ x, x = l[j] := ⟨_, rfl⟩
    have hd : l.drop j = x :: l.drop (j + 1) := by rw [hx]; exact List.drop_eq_getElem_cons hlt
    have hg : l.getD j z71 = x := by rw [hx]; exact getD_lt hlt
    refine Ev.step (fun k => rfl) ?_
    simp only [gafferref02_without.l0]
    refine Ev.pos (by omega) (Ev.pos (by omega) (Ev.pos (by omega) ?_))
    rw [rd_nat, hg, hd, wrap_add1 (by omega)]
    by_cases h2 : x.f0.toList = n.toList
    · rw [List.filter_cons_of_neg (by rw [decide_eq_true_eq]; exact fun h => h h2)]
      exact Ev.pos h2 (without_l0 l d f n hl m (j + 1) acc (by omega) (by omega))
    · rw [List.filter_cons_of_pos (by rw [decide_eq_true_eq]; exact h2)]
      refine Ev.neg h2 (Ev.pos (by omega) ?_)
      have := without_l0 l d f n hl m (j + 1) (acc ++ [x]) (by omega) (by simp; omega)
      rw [List.append_assoc] at this
      exact this
theorem without_some (A : List S71) (g : S71) (B : List S71) (d : Bool) (f : Int) (n : ByteArray) (hl : (A ++ g :: B).length + 1 < 3518437208883) (ha : ∀ x ∈ A, blt (nm x) n.toList) (hg : nm g = n.toList) (hb : ∀ x ∈ B, blt n.toList (nm x)) :
    Ev (fun k => gafferref02_without.f k (A ++ g :: B) d f n) (A ++ B, d, f) := by
  unfold gafferref02_without.f
  have h := without_l0 (A ++ g :: B) d f n hl (A ++ g :: B).length 0 [] (by omega) (by simp)
  have e : ([] : List S71) ++ ((A ++ g :: B).drop 0).filter (fun x => decide (nm x ≠ n.toList)) = A ++ B := by
    rw [List.nil_append, List.drop_zero, List.filter_append, List.filter_cons_of_neg (by rw [decide_eq_true_eq]; exact fun h => h hg), List.filter_eq_self.2 (fun x hx => ?_), List.filter_eq_self.2 (fun x hx => ?_)]
    · have := hb x hx
      exact decide_eq_true (fun e => by rw [e] at this; exact blt_irrefl _ this)
    · have := ha x hx
      exact decide_eq_true (fun e => by rw [e] at this; exact blt_irrefl _ this)
  rwa [e] at h
theorem burnt_at (l : List S71) (d : Bool) (f : Int) (hf : f < 9223372036854775808) : gafferref02_burnt.f l d f = some (if f = 0 then (l, true, f, false) else (l, d, dec f, true)) := by
  unfold gafferref02_burnt.f dec
  by_cases h0 : f = 0
  · simp [h0]
  · by_cases h1 : f > 0
    · have e : wrap64 (f - 1) = f - 1 := wrap64_id (by omega) (by omega)
      rw [if_neg h0, if_neg h0, if_pos h1, if_pos h1, e]
    · rw [if_neg h0, if_neg h0, if_neg h1, if_neg h1]
theorem bad_at (l : List S71) (d : Bool) (f why : Int) (hl : l.length < 3518437208883) : gafferref02_bad.f l d f why = some (if why = 10 then ([], false, 0, why) else (l, d, f, why)) := by
  unfold gafferref02_bad.f
  rw [Copy_at l d f hl]
  by_cases h : why = 10
  · rw [if_pos h, if_pos h]
  · rw [if_neg h, if_neg h]; rfl
theorem ready_ev (l : List S71) (d : Bool) (f : Int) (hl : l.length < 4611686018427387904) : Ev (fun k => gafferref02_ready.f k l d f) (if Good l then (if d = true then 8 else 0) else 10) := by
  unfold gafferref02_ready.f
  refine Ev.bind (RCheck_ev l d f hl) ?_
  by_cases hg : Good l
  · rw [res_pos hg, if_pos hg]
    refine Ev.pos rfl ?_
    by_cases hd : d = true
    · refine Ev.pos hd ?_
      rw [if_pos hd]; exact Ev.now _
    · refine Ev.neg hd ?_
      rw [if_neg hd]; exact Ev.now _
  · rw [res_neg hg, if_neg hg]
    exact Ev.neg (by decide) (Ev.now _)
theorem rname_at (a : ByteArray) : gafferref02_name.f a = some (decide (named a)) := by
  unfold gafferref02_name.f
  by_cases h : a.toList = []
  · rw [if_pos h, decide_eq_false (fun hn => hn.1 h)]
  · rw [if_neg h]
    by_cases h2 : a.size ≤ 32
    · rw [decide_eq_true (show (a.size : Int) ≤ 32 by omega), decide_eq_true ⟨h, h2⟩]
    · rw [decide_eq_false (show ¬ (a.size : Int) ≤ 32 by omega), decide_eq_false (fun hn => h2 hn.2)]
theorem find_any (l : List S71) (d : Bool) (f : Int) (n : ByteArray) (hl : l.length < 4611686018427387904) : ∃ r, Ev (fun k => gafferref02_find.f k l d f n) r := by
  have key : ∀ m j, j + m = l.length → ∃ r, Ev (fun k => gafferref02_find.l0 k n l (l.length : Int) (j : Int)) r := by
    intro m
    induction m with
    | zero =>
      intro j hj
      refine ⟨-1, Ev.step (fun k => rfl) ?_⟩
      simp only [gafferref02_find.l0]
      exact Ev.neg (by omega) (Ev.now _)
    | succ m ih =>
      intro j hj
      by_cases he : nm (l.getD j z71) = n.toList
      · refine ⟨j, Ev.step (fun k => rfl) ?_⟩
        simp only [gafferref02_find.l0]
        exact Ev.pos (by omega) (Ev.pos (by omega) (Ev.pos (by omega) (Ev.pos he (Ev.now _))))
      · obtain ⟨r, hr⟩ := ih (j + 1) (by omega)
        refine ⟨r, Ev.step (fun k => rfl) ?_⟩
        simp only [gafferref02_find.l0]
        refine Ev.pos (by omega) (Ev.pos (by omega) (Ev.pos (by omega) (Ev.neg he ?_)))
        rw [wrap_add1 (by omega)]
        exact hr
  obtain ⟨r, hr⟩ := key l.length 0 (by omega)
  exact ⟨r, hr⟩
theorem ready_bad {l : List S71} (h : ¬ Good l) (d : Bool) (f : Int) (hl : l.length < 4611686018427387904) : Ev (fun k => gafferref02_ready.f k l d f) 10 := by
  have := ready_ev l d f hl
  rwa [if_neg h] at this
theorem ready_down {l : List S71} (h : Good l) (f : Int) (hl : l.length < 4611686018427387904) : Ev (fun k => gafferref02_ready.f k l true f) 8 := by
  have := ready_ev l true f hl
  rwa [if_pos h, if_pos rfl] at this
theorem ready_go {l : List S71} (h : Good l) (f : Int) (hl : l.length < 4611686018427387904) : Ev (fun k => gafferref02_ready.f k l false f) 0 := by
  have := ready_ev l false f hl
  rwa [if_pos h, if_neg (by decide)] at this
end Go.Proofs.Ytpigjmjbfpipnaa.Dk
namespace Go.Proofs.Ytpigjmjbfpipnaa.Dk
open Go.RowKit YtpigjmjbfpipnaaW.PrintWords YtpigjmjbfpipnaaW.PrintLast YtpigjmjbfpipnaaW.PrintMore Ytpigjmjbfpipnaa.PF Ba Sh Ytpigjmjbfpipnaa.Op
set_option linter.unusedVariables false
attribute [local instance 10] Classical.propDecidable
theorem RRead_ev (l : List S71) (d : Bool) (f : Int) (n : ByteArray) (o) (ho : At n.toList l o) (hl : l.length < 4611686018427387904) : Ev (fun k => gafferref02_Read.f k l d f n) (readR l d o) := by
  unfold gafferref02_Read.f
  have hc := RCheck_ev l d f hl
  by_cases hg : Dk.Good l
  · rw [res_pos hg] at hc
    refine Ev.bind hc (Ev.pos rfl ?_)
    cases d with
    | true =>
      rw [readR_down hg]
      exact Ev.pos rfl (Ev.now _)
    | false =>
      rw [readR_go hg]
      refine Ev.neg (by decide) ?_
      cases ho with
      | bad h => exact absurd hg h
      | none A B _ e ha hb =>
        subst e
        exact Ev.bind (find_none A B n false f hl ha hb) (Ev.pos (by decide) (Ev.now _))
      | some A g B _ e ha hn hb =>
        subst e
        have hlen : (A ++ g :: B).length = A.length + (B.length + 1) := List.length_append
        refine Ev.bind (find_some A g B n false f hl ha hn) (Ev.neg (by omega) (Ev.pos (by omega) (Ev.pos (by omega) ?_)))
        rw [rd_nat, getD_mid]
        exact Ev.now _
  · rw [res_neg hg] at hc
    rw [readR_bad hg]
    exact Ev.bind hc (Ev.neg (by decide) (Ev.now _))
end Go.Proofs.Ytpigjmjbfpipnaa.Dk
namespace Go.Proofs.Ytpigjmjbfpipnaa.Dk
open Go.RowKit YtpigjmjbfpipnaaW.PrintWords YtpigjmjbfpipnaaW.PrintLast YtpigjmjbfpipnaaW.PrintMore Ytpigjmjbfpipnaa.PF Ba Sh
set_option linter.unusedVariables false
attribute [local instance 10] Classical.propDecidable
theorem RAdd_j3_bad (l : List S71) (d : Bool) (f why i : Int) (n data : ByteArray) (hl : l.length < 3518437208883) (hw : why ≠ 0) : Ev (fun k => gafferref02_Add.j3 k n data why i l d f) (if why = 10 then ([], false, 0, why) else (l, d, f, why)) := by
  refine Ev.step (fun k => rfl) ?_
  simp only [gafferref02_Add.j3]
  refine Ev.neg hw ?_
  rw [bad_at l d f why hl]
  exact Ev.bind_const (Ev.now _)
theorem RAdd_j1_bad (l : List S71) (d : Bool) (f why i : Int) (n data : ByteArray) (hl : l.length < 3518437208883) (hw : why ≠ 0) : Ev (fun k => gafferref02_Add.j1 k n data why i l d f) (if why = 10 then ([], false, 0, why) else (l, d, f, why)) := by
  refine Ev.step (fun k => rfl) ?_
  simp only [gafferref02_Add.j1]
  refine Ev.neg hw ?_
  refine Ev.step (fun k => rfl) ?_
  simp only [gafferref02_Add.j2]
  exact Ev.neg (by decide) (RAdd_j3_bad l d f why i n data hl hw)
theorem RAdd_j4 (l l' : List S71) (d : Bool) (f : Int) (data : ByteArray) (a b : ByteArray) (c : Int) (hf : f < 9223372036854775808) (hs : b.size + data.size ≤ 9223372036854775807) (hw : Ev (fun k => gafferref02_with.f k l d f a (b ++ data) c) (l', d, f)) :
    Ev (fun k => gafferref02_Add.j4 k data l d f a b c) (if f = 0 then (l', true, f, 8) else (l', d, dec f, 0)) := by
  refine Ev.step (fun k => rfl) ?_
  simp only [gafferref02_Add.j4]
  refine Ev.pos hs (Ev.bind hw ?_)
  rw [burnt_at _ _ _ hf]
  refine Ev.bind_const ?_
  by_cases h0 : f = 0
  · rw [if_pos h0, if_pos h0]
    exact Ev.neg (by simp) (Ev.now _)
  · rw [if_neg h0, if_neg h0]
    exact Ev.pos rfl (Ev.now _)
theorem RAdd_ev (l : List S71) (d : Bool) (f : Int) (n data : ByteArray) (o) (ho : At n.toList l o) (hl : l.length + 1 < 3518437208883) (hf : f < 9223372036854775808) (hs : ∀ x ∈ l, x.f1.size ≤ 4611686018427387903) (hsd : data.size ≤ 4611686018427387904) :
    Ev (fun k => gafferref02_Add.f k l d f n data) (outcome l d f (addO o l n data)) := by
  have hl' : l.length < 3518437208883 := by omega
  have hl2 : l.length < 4611686018427387904 := by omega
  unfold gafferref02_Add.f outcome
  by_cases hg : Good l
  · cases d with
    | true =>
      rw [opR_down hg]
      obtain ⟨r, hr⟩ := find_any l true f n hl2
      refine Ev.bind (ready_down hg f hl2) (Ev.bind hr (Ev.neg (by decide) ?_))
      refine Ev.step (fun k => rfl) ?_
      simp only [gafferref02_Add.j0]
      exact Ev.neg (by decide) (RAdd_j1_bad l true f 8 r n data hl' (by decide))
    | false =>
      refine Ev.bind (ready_go hg f hl2) ?_
      cases ho with
      | bad h => exact absurd hg h
      | none A B _ e ha hb =>
        subst e
        have hlen : (A ++ B).length = A.length + B.length := List.length_append
        refine Ev.bind (find_none A B n false f hl2 ha hb) (Ev.pos rfl ?_)
        rw [rname_at]
        refine Ev.bind_const ?_
        refine Ev.step (fun k => rfl) ?_
        simp only [gafferref02_Add.j0]
        show Ev _ (opR (if ¬ named n then 5 else if 4096 ≤ (A ++ B).length then 11 else 0) (A ++ B) (A ++ ⟨n, data, 0⟩ :: B) (A ++ ⟨n, data, 0⟩ :: B) false f)
        by_cases hn : ¬ named n
        · rw [if_pos hn, opR_why hg (show (5 : Int) ≠ 0 by decide), decide_eq_false hn]
          exact Ev.pos (by decide) (RAdd_j1_bad _ false f 5 (-1) n data hl' (by decide))
        · rw [if_neg hn, decide_eq_true (Classical.not_not.1 hn)]
          refine Ev.neg (by decide) ?_
          refine Ev.step (fun k => rfl) ?_
          simp only [gafferref02_Add.j1]
          refine Ev.pos (by simp) (Ev.pos (by decide) ?_)
          refine Ev.step (fun k => rfl) ?_
          simp only [gafferref02_Add.j2]
          by_cases h4 : 4096 ≤ (A ++ B).length
          · rw [if_pos h4, opR_why hg (show (11 : Int) ≠ 0 by decide)]
            exact Ev.pos (by rw [decide_eq_true_eq]; omega) (RAdd_j3_bad _ false f 11 (-1) n data hl' (by decide))
          · rw [if_neg h4, opR_go hg]
            refine Ev.neg (by rw [decide_eq_true_eq]; omega) ?_
            refine Ev.step (fun k => rfl) ?_
            simp only [gafferref02_Add.j3]
            refine Ev.pos (by simp) (Ev.neg (by decide) ?_)
            refine RAdd_j4 (A ++ B) _ false f data n (⟨#[]⟩ : ByteArray) 0 hf (by show 0 + data.size ≤ _; omega) ?_
            rw [nil_append_ba]
            have hw := with_ev (A ++ B) false f ⟨n, data, 0⟩ (by omega)
            rwa [withL_none ⟨n, data, 0⟩ A B ha hb] at hw
      | some A g B _ e ha hn hb =>
        subst e
        have hlen : (A ++ g :: B).length = A.length + (B.length + 1) := List.length_append
        refine Ev.bind (find_some A g B n false f hl2 ha hn) (Ev.pos rfl ?_)
        rw [rname_at]
        refine Ev.bind_const ?_
        refine Ev.step (fun k => rfl) ?_
        simp only [gafferref02_Add.j0]
        show Ev _ (opR (if ¬ named n then 5 else 0) (A ++ g :: B) (A ++ ⟨g.f0, g.f1 ++ data, g.f2⟩ :: B) (A ++ ⟨g.f0, g.f1 ++ data, g.f2⟩ :: B) false f)
        by_cases hnn : ¬ named n
        · rw [if_pos hnn, opR_why hg (show (5 : Int) ≠ 0 by decide), decide_eq_false hnn]
          exact Ev.pos (by decide) (RAdd_j1_bad _ false f 5 _ n data hl' (by decide))
        · rw [if_neg hnn, decide_eq_true (Classical.not_not.1 hnn), opR_go hg]
          refine Ev.neg (by decide) ?_
          refine Ev.step (fun k => rfl) ?_
          simp only [gafferref02_Add.j1]
          refine Ev.pos (by simp) (Ev.neg (by omega) ?_)
          refine Ev.step (fun k => rfl) ?_
          simp only [gafferref02_Add.j2]
          refine Ev.neg (by decide) ?_
          refine Ev.step (fun k => rfl) ?_
          simp only [gafferref02_Add.j3]
          refine Ev.pos (by simp) (Ev.pos (by omega) (Ev.pos (by omega) (Ev.pos (by omega) ?_)))
          rw [rd_nat, getD_mid]
          refine RAdd_j4 (A ++ g :: B) _ false f data g.f0 g.f1 g.f2 hf (by have := hs g (by simp); omega) ?_
          have hw := with_ev (A ++ g :: B) false f ⟨g.f0, g.f1 ++ data, g.f2⟩ (by omega)
          rwa [withL_some ⟨g.f0, g.f1 ++ data, g.f2⟩ g A B (fun x hx => by show blt (nm x) (nm g); rw [hn]; exact ha x hx) rfl (fun x hx => by show blt (nm g) (nm x); rw [hn]; exact hb x hx)] at hw
  · rw [opR_bad hg]
    obtain ⟨r, hr⟩ := find_any l d f n hl2
    refine Ev.bind (ready_bad hg d f hl2) (Ev.bind hr (Ev.neg (by decide) ?_))
    refine Ev.step (fun k => rfl) ?_
    simp only [gafferref02_Add.j0]
    exact Ev.neg (by decide) (RAdd_j1_bad l d f 10 r n data hl' (by decide))
theorem RSync_j1_bad (l : List S71) (d : Bool) (f why i : Int) (hl : l.length < 3518437208883) (hw : why ≠ 0) : Ev (fun k => gafferref02_Sync.j1 k why i l d f) (if why = 10 then ([], false, 0, why) else (l, d, f, why)) := by
  refine Ev.step (fun k => rfl) ?_
  simp only [gafferref02_Sync.j1]
  refine Ev.neg hw ?_
  rw [bad_at l d f why hl]
  exact Ev.bind_const (Ev.now _)
theorem RSync_ev (l : List S71) (d : Bool) (f : Int) (n : ByteArray) (o) (ho : At n.toList l o) (hl : l.length + 1 < 3518437208883) (hf : f < 9223372036854775808) :
    Ev (fun k => gafferref02_Sync.f k l d f n) (outcome l d f (syncO o l)) := by
  have hl' : l.length < 3518437208883 := by omega
  have hl2 : l.length < 4611686018427387904 := by omega
  unfold gafferref02_Sync.f outcome
  by_cases hg : Good l
  · cases d with
    | true =>
      rw [opR_down hg]
      obtain ⟨r, hr⟩ := find_any l true f n hl2
      refine Ev.bind (ready_down hg f hl2) (Ev.bind hr (Ev.neg (by decide) ?_))
      refine Ev.step (fun k => rfl) ?_
      simp only [gafferref02_Sync.j0]
      exact Ev.neg (by decide) (RSync_j1_bad l true f 8 r hl' (by decide))
    | false =>
      refine Ev.bind (ready_go hg f hl2) ?_
      cases ho with
      | bad h => exact absurd hg h
      | none A B _ e ha hb =>
        rw [show syncO (some (A, none, B)) l = (6, l, l) from rfl, opR_why hg (show (6 : Int) ≠ 0 by decide)]
        subst e
        refine Ev.bind (find_none A B n false f hl2 ha hb) (Ev.pos rfl ?_)
        refine Ev.step (fun k => rfl) ?_
        simp only [gafferref02_Sync.j0]
        exact Ev.pos (by decide) (RSync_j1_bad _ false f 6 (-1) hl' (by decide))
      | some A g B _ e ha hn hb =>
        rw [show syncO (some (A, some g, B)) l = (0, l, A ++ ⟨g.f0, g.f1, (g.f1.size : Int)⟩ :: B) from rfl, opR_go hg]
        subst e
        have hlen : (A ++ g :: B).length = A.length + (B.length + 1) := List.length_append
        refine Ev.bind (find_some A g B n false f hl2 ha hn) (Ev.pos rfl ?_)
        refine Ev.step (fun k => rfl) ?_
        simp only [gafferref02_Sync.j0]
        refine Ev.neg (by rw [decide_eq_true_eq]; omega) ?_
        refine Ev.step (fun k => rfl) ?_
        simp only [gafferref02_Sync.j1]
        refine Ev.pos (by simp) ?_
        rw [Copy_at _ _ _ hl']
        refine Ev.bind_const ?_
        rw [burnt_at _ _ _ hf]
        refine Ev.bind_const ?_
        by_cases h0 : f = 0
        · rw [if_pos h0, if_pos h0]
          exact Ev.neg (by simp) (Ev.now _)
        · rw [if_neg h0, if_neg h0]
          dsimp only
          refine Ev.pos rfl (Ev.pos (by omega) (Ev.pos (by omega) ?_))
          rw [rd_nat, getD_mid]
          have hw := with_ev (A ++ g :: B) false (dec f) ⟨g.f0, g.f1, (g.f1.size : Int)⟩ (by omega)
          rw [withL_some ⟨g.f0, g.f1, (g.f1.size : Int)⟩ g A B (fun x hx => by show blt (nm x) (nm g); rw [hn]; exact ha x hx) rfl (fun x hx => by show blt (nm g) (nm x); rw [hn]; exact hb x hx)] at hw
          exact Ev.bind hw (Ev.now _)
  · rw [opR_bad hg]
    obtain ⟨r, hr⟩ := find_any l d f n hl2
    refine Ev.bind (ready_bad hg d f hl2) (Ev.bind hr (Ev.neg (by decide) ?_))
    refine Ev.step (fun k => rfl) ?_
    simp only [gafferref02_Sync.j0]
    exact Ev.neg (by decide) (RSync_j1_bad l d f 10 r hl' (by decide))
theorem RSwap_j5_bad (l : List S71) (d : Bool) (f why i : Int) (n tb : ByteArray) (hl : l.length < 3518437208883) (hw : why ≠ 0) : Ev (fun k => gafferref02_Swap.j5 k n tb why i l d f) (if why = 10 then ([], false, 0, why) else (l, d, f, why)) := by
  refine Ev.step (fun k => rfl) ?_
  simp only [gafferref02_Swap.j5]
  refine Ev.neg hw ?_
  rw [bad_at l d f why hl]
  exact Ev.bind_const (Ev.now _)
theorem RSwap_j3_bad (l : List S71) (d : Bool) (f why i : Int) (n tb : ByteArray) (hl : l.length < 3518437208883) (hw : why ≠ 0) : Ev (fun k => gafferref02_Swap.j3 k n tb why i l d f) (if why = 10 then ([], false, 0, why) else (l, d, f, why)) := by
  refine Ev.step (fun k => rfl) ?_
  simp only [gafferref02_Swap.j3]
  refine Ev.neg hw ?_
  refine Ev.step (fun k => rfl) ?_
  simp only [gafferref02_Swap.j4]
  exact Ev.neg (by decide) (RSwap_j5_bad l d f why i n tb hl hw)
theorem RSwap_j1_bad (l : List S71) (d : Bool) (f why i : Int) (n tb : ByteArray) (hl : l.length < 3518437208883) (hw : why ≠ 0) : Ev (fun k => gafferref02_Swap.j1 k n tb why i l d f) (if why = 10 then ([], false, 0, why) else (l, d, f, why)) := by
  refine Ev.step (fun k => rfl) ?_
  simp only [gafferref02_Swap.j1]
  refine Ev.neg hw ?_
  refine Ev.step (fun k => rfl) ?_
  simp only [gafferref02_Swap.j2]
  exact Ev.neg (by decide) (RSwap_j3_bad l d f why i n tb hl hw)
theorem RSwap_ev (l : List S71) (d : Bool) (f : Int) (n tb : ByteArray) (o) (ho : At n.toList l o) (hl : l.length + 1 < 3518437208883) (hf : f < 9223372036854775808) :
    Ev (fun k => gafferref02_Swap.f k l d f n tb) (outcome l d f (swapO o l tb)) := by
  have hl' : l.length < 3518437208883 := by omega
  have hl2 : l.length < 4611686018427387904 := by omega
  unfold gafferref02_Swap.f outcome
  by_cases hg : Good l
  · cases d with
    | true =>
      rw [opR_down hg]
      obtain ⟨r, hr⟩ := find_any l true f n hl2
      refine Ev.bind (ready_down hg f hl2) (Ev.bind hr (Ev.neg (by decide) ?_))
      refine Ev.step (fun k => rfl) ?_
      simp only [gafferref02_Swap.j0]
      exact Ev.neg (by decide) (RSwap_j1_bad l true f 8 r n tb hl' (by decide))
    | false =>
      refine Ev.bind (ready_go hg f hl2) ?_
      cases ho with
      | bad h => exact absurd hg h
      | none A B _ e ha hb =>
        rw [show swapO (some (A, none, B)) l tb = (6, l, l) from rfl, opR_why hg (show (6 : Int) ≠ 0 by decide)]
        subst e
        refine Ev.bind (find_none A B n false f hl2 ha hb) (Ev.pos rfl ?_)
        refine Ev.step (fun k => rfl) ?_
        simp only [gafferref02_Swap.j0]
        exact Ev.pos (by decide) (RSwap_j1_bad _ false f 6 (-1) n tb hl' (by decide))
      | some A g B _ e ha hn hb =>
        subst e
        have hlen : (A ++ g :: B).length = A.length + (B.length + 1) := List.length_append
        have hAB : (A ++ B).length = A.length + B.length := List.length_append
        refine Ev.bind (find_some A g B n false f hl2 ha hn) (Ev.pos rfl ?_)
        refine Ev.step (fun k => rfl) ?_
        simp only [gafferref02_Swap.j0]
        refine Ev.neg (by rw [decide_eq_true_eq]; omega) ?_
        refine Ev.step (fun k => rfl) ?_
        simp only [gafferref02_Swap.j1]
        refine Ev.pos (by simp) (Ev.pos (by omega) (Ev.pos (by omega) ?_))
        rw [rd_nat, getD_mid]
        show Ev _ (opR (if g.f2 < (g.f1.size : Int) then 9 else if ¬ named tb then 5 else 0) (A ++ g :: B) (A ++ g :: B) (withL ⟨tb, g.f1, g.f2⟩ false (A ++ B)) false f)
        refine Ev.step (fun k => rfl) ?_
        simp only [gafferref02_Swap.j2]
        by_cases hw : g.f2 < (g.f1.size : Int)
        · rw [if_pos hw, opR_why hg (show (9 : Int) ≠ 0 by decide)]
          exact Ev.pos (decide_eq_true hw) (RSwap_j3_bad _ false f 9 _ n tb hl' (by decide))
        · rw [if_neg hw]
          refine Ev.neg (by rw [decide_eq_true_eq]; exact hw) ?_
          refine Ev.step (fun k => rfl) ?_
          simp only [gafferref02_Swap.j3]
          refine Ev.pos (by simp) ?_
          rw [rname_at]
          refine Ev.bind_const ?_
          refine Ev.step (fun k => rfl) ?_
          simp only [gafferref02_Swap.j4]
          by_cases hnn : ¬ named tb
          · rw [if_pos hnn, opR_why hg (show (5 : Int) ≠ 0 by decide), decide_eq_false hnn]
            exact Ev.pos (by decide) (RSwap_j5_bad _ false f 5 _ n tb hl' (by decide))
          · rw [if_neg hnn, opR_go hg, decide_eq_true (Classical.not_not.1 hnn)]
            refine Ev.neg (by decide) ?_
            refine Ev.step (fun k => rfl) ?_
            simp only [gafferref02_Swap.j5]
            refine Ev.pos (by simp) ?_
            rw [Copy_at _ _ _ hl']
            refine Ev.bind_const ?_
            rw [burnt_at _ _ _ hf]
            refine Ev.bind_const ?_
            by_cases h0 : f = 0
            · rw [if_pos h0, if_pos h0]
              exact Ev.neg (by simp) (Ev.now _)
            · rw [if_neg h0, if_neg h0]
              dsimp only
              refine Ev.pos rfl (Ev.pos (by omega) (Ev.pos (by omega) ?_))
              rw [rd_nat, getD_mid]
              exact Ev.bind (without_some A g B false (dec f) n (by omega) ha hn hb) (Ev.bind (with_ev (A ++ B) false (dec f) ⟨tb, g.f1, g.f2⟩ (by omega)) (Ev.now _))
  · rw [opR_bad hg]
    obtain ⟨r, hr⟩ := find_any l d f n hl2
    refine Ev.bind (ready_bad hg d f hl2) (Ev.bind hr (Ev.neg (by decide) ?_))
    refine Ev.step (fun k => rfl) ?_
    simp only [gafferref02_Swap.j0]
    exact Ev.neg (by decide) (RSwap_j1_bad l d f 10 r n tb hl' (by decide))
theorem RDrop_j1_bad (l : List S71) (d : Bool) (f why : Int) (n : ByteArray) (hl : l.length < 3518437208883) (hw : why ≠ 0) : Ev (fun k => gafferref02_Drop.j1 k n why l d f) (if why = 10 then ([], false, 0, why) else (l, d, f, why)) := by
  refine Ev.step (fun k => rfl) ?_
  simp only [gafferref02_Drop.j1]
  refine Ev.neg hw ?_
  rw [bad_at l d f why hl]
  exact Ev.bind_const (Ev.now _)
theorem RDrop_ev (l : List S71) (d : Bool) (f : Int) (n : ByteArray) (o) (ho : At n.toList l o) (hl : l.length + 1 < 3518437208883) (hf : f < 9223372036854775808) :
    Ev (fun k => gafferref02_Drop.f k l d f n) (outcome l d f (dropO o l)) := by
  have hl' : l.length < 3518437208883 := by omega
  have hl2 : l.length < 4611686018427387904 := by omega
  unfold gafferref02_Drop.f outcome
  by_cases hg : Good l
  · cases d with
    | true =>
      rw [opR_down hg]
      refine Ev.bind (ready_down hg f hl2) (Ev.neg (by decide) ?_)
      refine Ev.step (fun k => rfl) ?_
      simp only [gafferref02_Drop.j0]
      exact Ev.neg (by decide) (RDrop_j1_bad l true f 8 n hl' (by decide))
    | false =>
      refine Ev.bind (ready_go hg f hl2) (Ev.pos rfl ?_)
      cases ho with
      | bad h => exact absurd hg h
      | none A B _ e ha hb =>
        rw [show dropO (some (A, none, B)) l = (6, l, l) from rfl, opR_why hg (show (6 : Int) ≠ 0 by decide)]
        subst e
        refine Ev.bind (find_none A B n false f hl2 ha hb) ?_
        refine Ev.step (fun k => rfl) ?_
        simp only [gafferref02_Drop.j0]
        exact Ev.pos (by decide) (RDrop_j1_bad _ false f 6 n hl' (by decide))
      | some A g B _ e ha hn hb =>
        rw [show dropO (some (A, some g, B)) l = (0, l, A ++ B) from rfl, opR_go hg]
        subst e
        have hlen : (A ++ g :: B).length = A.length + (B.length + 1) := List.length_append
        refine Ev.bind (find_some A g B n false f hl2 ha hn) ?_
        refine Ev.step (fun k => rfl) ?_
        simp only [gafferref02_Drop.j0]
        refine Ev.neg (by rw [decide_eq_true_eq]; omega) ?_
        refine Ev.step (fun k => rfl) ?_
        simp only [gafferref02_Drop.j1]
        refine Ev.pos (by simp) ?_
        rw [Copy_at _ _ _ hl']
        refine Ev.bind_const ?_
        rw [burnt_at _ _ _ hf]
        refine Ev.bind_const ?_
        by_cases h0 : f = 0
        · rw [if_pos h0, if_pos h0]
          exact Ev.neg (by simp) (Ev.now _)
        · rw [if_neg h0, if_neg h0]
          dsimp only
          exact Ev.pos rfl (Ev.bind (without_some A g B false (dec f) n (by omega) ha hn hb) (Ev.now _))
  · rw [opR_bad hg]
    refine Ev.bind (ready_bad hg d f hl2) (Ev.neg (by decide) ?_)
    refine Ev.step (fun k => rfl) ?_
    simp only [gafferref02_Drop.j0]
    exact Ev.neg (by decide) (RDrop_j1_bad l d f 10 n hl' (by decide))
end Go.Proofs.Ytpigjmjbfpipnaa.Dk
namespace Go.Proofs.Ytpigjmjbfpipnaa.Qm
open Go.RowKit YtpigjmjbfpipnaaW.PrintWords YtpigjmjbfpipnaaW.PrintLast YtpigjmjbfpipnaaW.PrintMore Ytpigjmjbfpipnaa.PF Ba Sh
set_option linter.unusedVariables false
theorem up1 {j : Nat} (hb : j < 4611686018427387904) : wrap64 ((j : Int) + 1) = ((j + 1 : Nat) : Int) := by rw [wrap64_id (by omega) (by omega)]; omega
theorem down1 {j : Nat} (h : 0 < j) (hb : j < 4611686018427387904) : wrap64 ((j : Int) - 1) = ((j - 1 : Nat) : Int) := by rw [wrap64_id (by omega) (by omega)]; omega
theorem rd_app (P : List Int) (x : Int) (R : List Int) : rd (P ++ x :: R) (P.length : Int) = x := by
  unfold rd
  rw [Int.toNat_natCast, List.getD_eq_getElem?_getD, List.getElem?_append_right (Nat.le_refl _), Nat.sub_self]
  rfl
theorem app_snoc (P : List Int) (x : Int) (R : List Int) : P ++ x :: R = (P ++ [x]) ++ R := by rw [List.append_assoc]; rfl

/-! one of some -/
def memB (p : Int) : List Int → Bool
  | [] => decide (p > 0)
  | x :: r => if x ≤ p then false else if x > 7 then false else memB x r
theorem Members_l0 (l : List Int) (hl : l.length < 4611686018427387904) : ∀ (R P : List Int) (p : Int), l = P ++ R → Ev (fun k => wal_Members.l0 k p l (l.length : Int) (P.length : Int)) (memB p R)
  | [], P, p, e => by
    refine Ev.step (fun k => rfl) ?_
    simp only [wal_Members.l0]
    exact Ev.neg (by rw [e, List.append_nil]; omega) (Ev.now _)
  | x :: R, P, p, e => by
    have hlen : l.length = P.length + (R.length + 1) := by rw [e, List.length_append, List.length_cons]
    have hr : rd l (P.length : Int) = x := by rw [e]; exact rd_app P x R
    have ih := Members_l0 l hl R (P ++ [x]) x (by rw [e, app_snoc])
    rw [List.length_append, List.length_singleton] at ih
    refine Ev.step (fun k => rfl) ?_
    simp only [wal_Members.l0]
    rw [hr, up1 (by omega), memB]
    refine Ev.pos (by omega) (Ev.pos (by omega) (Ev.pos (by omega) ?_))
    by_cases h1 : x ≤ p
    · rw [if_pos h1]; exact Ev.pos h1 (Ev.now _)
    · rw [if_neg h1]
      refine Ev.neg h1 ?_
      by_cases h2 : x > 7
      · rw [if_pos h2]; exact Ev.pos h2 (Ev.now _)
      · rw [if_neg h2]; exact Ev.neg h2 ih
theorem Members_ev (l : List Int) (hl : l.length < 4611686018427387904) : Ev (fun k => wal_Members.f k l) (memB 0 l) := Members_l0 l hl l [] 0 rfl

/-! counts -/
def cnt (p : Int → Bool) (l : List Int) : Nat := (l.filter p).length
def gone (l y : List Int) : Nat := cnt (fun m => !decide (m ∈ y)) l
def has (l y : List Int) : Nat := cnt (fun m => decide (m ∈ y)) l
def most (l y : List Int) : Bool := memB 0 l && decide (2 * has l y > l.length)
def lst (P : List Int) : Int := P.getLast?.getD 0
theorem lst_snoc (P : List Int) (x : Int) : lst (P ++ [x]) = x := by simp [lst]
theorem rd_last {l P R : List Int} {q : Int} (e : l = (P ++ [q]) ++ R) : rd l (((P ++ [q]).length - 1 : Nat) : Int) = q := by
  have : (P ++ [q]).length - 1 = P.length := by simp
  rw [this, e, List.append_assoc]
  exact rd_app P q R
theorem RMembers_l0 (l : List Int) (hl : l.length < 4611686018427387904) : ∀ (R P : List Int), l = P ++ R → (P ≠ [] → 1 ≤ lst P) → Ev (fun k => gafferref03_Members.l0 k l l (l.length : Int) (P.length : Int)) (memB (lst P) R)
  | [], P, e, hp => by
    refine Ev.step (fun k => rfl) ?_
    simp only [gafferref03_Members.l0]
    refine Ev.neg (by rw [e, List.append_nil]; omega) ?_
    rw [show decide ((l.length : Int) > 0) = memB (lst P) [] by
      rw [memB, Bool.eq_iff_iff, decide_eq_true_eq, decide_eq_true_eq, e, List.append_nil]
      cases P with
      | nil => simp [lst]
      | cons a b => have := hp (by simp); constructor <;> intro _ <;> simp <;> omega]
    exact Ev.now _
  | x :: R, P, e, hp => by
    have hlen : l.length = P.length + (R.length + 1) := by rw [e, List.length_append, List.length_cons]
    have hr : rd l (P.length : Int) = x := by rw [e]; exact rd_app P x R
    have ih := fun h => RMembers_l0 l hl R (P ++ [x]) (by rw [e, app_snoc]) h
    rw [List.length_append, List.length_singleton, lst_snoc] at ih
    refine Ev.step (fun k => rfl) ?_
    simp only [gafferref03_Members.l0]
    rw [hr, memB]
    refine Ev.pos (by omega) (Ev.pos (by omega) (Ev.pos (by omega) ?_))
    by_cases h1 : x < 1
    · have : x ≤ lst P := by
        rcases List.eq_nil_or_concat P with rfl | ⟨Q, q, rfl⟩
        · show x ≤ 0; omega
        · have := hp (by simp); omega
      rw [if_pos this]
      exact Ev.pos h1 (Ev.now _)
    · refine Ev.neg h1 ?_
      by_cases h2 : x > 7
      · rw [if_pos h2]
        have : (if x ≤ lst P then false else false) = false := by split <;> rfl
        rw [this]
        exact Ev.pos h2 (Ev.now _)
      · rw [if_neg h2]
        refine Ev.neg h2 ?_
        rw [up1 (by omega)]
        rcases List.eq_nil_or_concat P with rfl | ⟨Q, q, rfl⟩
        · rw [if_neg (show ¬ x ≤ lst [] by show ¬ x ≤ 0; omega)]
          exact Ev.neg (by simp) (ih (fun _ => by omega))
        · rw [List.concat_eq_append] at *
          have hq : lst (Q ++ [q]) = q := lst_snoc Q q
          have hP : 0 < (Q ++ [q]).length := by simp
          have hlast : rd l (((Q ++ [q]).length - 1 : Nat) : Int) = q := rd_last e
          rw [hq, down1 hP (by omega), hlast]
          refine Ev.pos (by omega) (Ev.pos (by omega) (Ev.pos (by omega) ?_))
          by_cases h3 : x ≤ q
          · rw [if_pos h3]; exact Ev.pos h3 (Ev.now _)
          · rw [if_neg h3]; exact Ev.neg h3 (ih (fun _ => by omega))
theorem RMembers_ev (l : List Int) (hl : l.length < 4611686018427387904) : Ev (fun k => gafferref03_Members.f k l) (memB 0 l) := RMembers_l0 l hl l [] rfl (fun h => absurd rfl h)
end Go.Proofs.Ytpigjmjbfpipnaa.Qm
