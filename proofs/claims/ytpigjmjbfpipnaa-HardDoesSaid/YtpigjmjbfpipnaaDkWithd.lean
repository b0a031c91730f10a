import Derived.Test.YtpigjmjbfpipnaaPDx6
import Derived.Test.YtpigjmjbfpipnaaPDx14
import Derived.Test.YtpigjmjbfpipnaaPDx13
import Derived.Test.YtpigjmjbfpipnaaDkOrdd
import Derived.Test.YtpigjmjbfpipnaaDkSamed
namespace Go.Proofs.Ytpigjmjbfpipnaa.Dk
open Go.RowKit YtpigjmjbfpipnaaW.PrintWords YtpigjmjbfpipnaaW.PrintLast YtpigjmjbfpipnaaW.PrintMore Ytpigjmjbfpipnaa.PD Ba Sh
set_option linter.unusedVariables false
attribute [local instance 10] Classical.propDecidable

theorem find_l0 (l : List S71) (n : ByteArray) (hl : l.length < 4611686018427387904) (r : Int) : ∀ (m j : Nat), j + m = l.length →
    ((∀ i, j ≤ i → i < l.length → nm (l.getD i z71) ≠ n.toList) ∧ r = -1 ∨ ∃ p, j ≤ p ∧ p < l.length ∧ r = (p : Int) ∧ nm (l.getD p z71) = n.toList ∧ ∀ i, j ≤ i → i < p → nm (l.getD i z71) ≠ n.toList) →
    Ev (fun k => gafferref02_find.l0 k n l (l.length : Int) (j : Int)) r
  | 0, j, hj, h => by
    refine Ev.step (fun k => rfl) ?_
    simp only [gafferref02_find.l0]
    rcases h with ⟨_, rfl⟩ | ⟨p, hp⟩
    · exact Ev.neg (by omega) (Ev.now _)
    · omega
  | m + 1, j, hj, h => by
    refine Ev.step (fun k => rfl) ?_
    simp only [gafferref02_find.l0]
    refine Ev.pos (by omega) (Ev.pos (by omega) (Ev.pos (by omega) ?_))
    rw [wrap_add1 (by omega), rd_nat]
    by_cases he : nm (l.getD j z71) = n.toList
    · refine Ev.pos he ?_
      rcases h with ⟨h, _⟩ | ⟨p, hp1, hp2, rfl, hp3, hp4⟩
      · exact absurd he (h j (Nat.le_refl _) (by omega))
      · obtain rfl : j = p := by
          rcases Nat.eq_or_lt_of_le hp1 with h0 | h0
          · exact h0
          · exact absurd he (hp4 j (Nat.le_refl _) h0)
        exact Ev.now _
    · refine Ev.neg he (find_l0 l n hl r m (j + 1) (by omega) ?_)
      rcases h with ⟨h, hr⟩ | ⟨p, hp1, hp2, hr, hp3, hp4⟩
      · exact .inl ⟨fun i hi => h i (by omega), hr⟩
      · refine .inr ⟨p, ?_, hp2, hr, hp3, fun i hi => hp4 i (by omega)⟩
        rcases Nat.eq_or_lt_of_le hp1 with rfl | h0
        · exact absurd hp3 he
        · exact h0
theorem find_none (A B : List S71) (n : ByteArray) (d : Bool) (f : Int) (hl : (A ++ B).length < 4611686018427387904) (ha : ∀ x ∈ A, blt (nm x) n.toList) (hb : ∀ x ∈ B, blt n.toList (nm x)) :
    Ev (fun k => gafferref02_find.f k (A ++ B) d f n) (-1) := by
  unfold gafferref02_find.f
  refine find_l0 (A ++ B) n hl _ (A ++ B).length 0 (by omega) (.inl ⟨fun i _ hi he => ?_, rfl⟩)
  rcases List.mem_append.1 (getD_mem hi) with hm | hm
  · have := ha _ hm; rw [he] at this; exact blt_irrefl _ this
  · have := hb _ hm; rw [he] at this; exact blt_irrefl _ this
theorem find_some (A : List S71) (g : S71) (B : List S71) (n : ByteArray) (d : Bool) (f : Int) (hl : (A ++ g :: B).length < 4611686018427387904) (ha : ∀ x ∈ A, blt (nm x) n.toList) (hg : nm g = n.toList) :
    Ev (fun k => gafferref02_find.f k (A ++ g :: B) d f n) (A.length : Int) := by
  unfold gafferref02_find.f
  have hlen : (A ++ g :: B).length = A.length + (B.length + 1) := List.length_append
  refine find_l0 (A ++ g :: B) n hl _ (A ++ g :: B).length 0 (by omega) (.inr ⟨A.length, Nat.zero_le _, by omega, rfl, by rw [getD_right (Nat.le_refl _), Nat.sub_self]; exact hg, fun i _ hi he => ?_⟩)
  rw [getD_left hi] at he
  have := ha _ (getD_mem hi)
  rw [he] at this
  exact blt_irrefl _ this
theorem with_l0 (l : List S71) (d : Bool) (f : Int) (g : S71) (hl : l.length + 1 < 3518437208883) : ∀ (m j : Nat) (put : Bool) (acc : List S71), j + m = l.length → acc.length ≤ j + 1 → (put = false → acc.length ≤ j) →
    Ev (fun k => gafferref02_with.l0 k acc put l (l.length : Int) (j : Int) l d f g.f0 g.f1 g.f2) (acc ++ withL g put (l.drop j), d, f)
  | 0, j, put, acc, hj, ha, hb => by
    refine Ev.step (fun k => rfl) ?_
    simp only [gafferref02_with.l0]
    refine Ev.neg (by omega) ?_
    rw [List.drop_eq_nil_of_le (by omega)]
    by_cases hp : put = true
    · refine Ev.pos hp ?_
      rw [withL, if_pos hp, List.append_nil]
      exact Ev.now _
    · refine Ev.neg hp (Ev.pos (by omega) ?_)
      rw [withL, if_neg hp]
      exact Ev.now _
  | m + 1, j, put, acc, hj, ha, hb => by
    have hlt : j < l.length := by omega
    obtain ⟨x, hx⟩ : ∃ x, x = l[j] := ⟨_, rfl⟩
    have hd : l.drop j = x :: l.drop (j + 1) := by rw [hx]; exact List.drop_eq_getElem_cons hlt
    have hg : l.getD j z71 = x := by rw [hx]; exact getD_lt hlt
    have ih := fun put acc => with_l0 l d f g hl m (j + 1) put acc (by omega)
    refine Ev.step (fun k => rfl) ?_
    simp only [gafferref02_with.l0]
    refine Ev.pos (by omega) (Ev.pos (by omega) (Ev.pos (by omega) ?_))
    rw [rd_nat, hg, hd]
    have jt : ∀ c : Bool, (c = true ↔ put = false ∧ ¬ blt (nm x) (nm g)) → Ev (fun k => gafferref02_with.j1 k acc put l (l.length : Int) (j : Int) c l d f g.f0 g.f1 g.f2 x.f0 x.f1 x.f2) (acc ++ withL g put (x :: l.drop (j + 1)), d, f) := by
      intro c hc
      refine Ev.step (fun k => rfl) ?_
      simp only [gafferref02_with.j1]
      rw [wrap_add1 (by omega), withL]
      by_cases h1 : c = true
      · rw [if_pos (hc.1 h1)]
        have hpf := (hc.1 h1).1
        refine Ev.pos h1 (Ev.pos (by have := hb hpf; omega) (Ev.bind_const ?_))
        by_cases h2 : x.f0.toList = g.f0.toList
        · rw [if_pos (show nm x = nm g from h2)]
          refine Ev.pos h2 ?_
          have := ih true (acc ++ [g]) (by simp; have := hb hpf; omega) (fun h => by cases h)
          rw [List.append_assoc] at this
          exact this
        · rw [if_neg (show ¬ nm x = nm g from h2)]
          refine Ev.neg h2 (Ev.pos (by simp; have := hb hpf; omega) ?_)
          have := ih true (acc ++ [g] ++ [x]) (by simp; have := hb hpf; omega) (fun h => by cases h)
          have e : acc ++ [g] ++ [x] ++ withL g true (l.drop (j + 1)) = acc ++ g :: x :: withL g true (l.drop (j + 1)) := by simp
          rw [e] at this
          exact this
      · rw [if_neg (fun h => h1 (hc.2 h))]
        refine Ev.neg h1 ?_
        by_cases h2 : x.f0.toList = g.f0.toList
        · rw [if_pos (show nm x = nm g from h2)]
          exact Ev.pos h2 (ih put acc (by omega) (fun h => by have := hb h; omega))
        · rw [if_neg (show ¬ nm x = nm g from h2)]
          refine Ev.neg h2 (Ev.pos (by omega) ?_)
          have := ih put (acc ++ [x]) (by simp; omega) (fun h => by have := hb h; simp; omega)
          rw [List.append_assoc] at this
          exact this
    cases put with
    | true => exact Ev.pos rfl (jt false ⟨fun h => (by cases h), fun h => (by cases h.1)⟩)
    | false =>
      refine Ev.neg (by decide) (jt _ ?_)
      show (!(Op.bytesLess (nm x) (nm g))) = true ↔ _
      unfold blt
      cases Op.bytesLess (nm x) (nm g) <;> simp
theorem with_ev (l : List S71) (d : Bool) (f : Int) (g : S71) (hl : l.length + 1 < 3518437208883) : Ev (fun k => gafferref02_with.f k l d f g.f0 g.f1 g.f2) (withL g false l, d, f) := by
  unfold gafferref02_with.f
  exact with_l0 l d f g hl l.length 0 false [] (by omega) (by simp) (by simp)
theorem without_l0 (l : List S71) (d : Bool) (f : Int) (n : ByteArray) (hl : l.length + 1 < 3518437208883) : ∀ (m j : Nat) (acc : List S71), j + m = l.length → acc.length ≤ j →
    Ev (fun k => gafferref02_without.l0 k n acc l (l.length : Int) (j : Int) l d f) (acc ++ (l.drop j).filter (fun x => decide (nm x ≠ n.toList)), d, f)
  | 0, j, acc, hj, ha => by
    refine Ev.step (fun k => rfl) ?_
    simp only [gafferref02_without.l0]
    refine Ev.neg (by omega) ?_
    rw [List.drop_eq_nil_of_le (by omega), List.filter_nil, List.append_nil]
    exact Ev.now _
  | m + 1, j, acc, hj, ha => by
    have hlt : j < l.length := by omega
    obtain ⟨x, hx⟩ : ∃ x, x = l[j] := ⟨_, rfl⟩
    have hd : l.drop j = x :: l.drop (j + 1) := by rw [hx]; exact List.drop_eq_getElem_cons hlt
    have hg : l.getD j z71 = x := by rw [hx]; exact getD_lt hlt
    refine Ev.step (fun k => rfl) ?_
    simp only [gafferref02_without.l0]
    refine Ev.pos (by omega) (Ev.pos (by omega) (Ev.pos (by omega) ?_))
    rw [rd_nat, hg, hd, wrap_add1 (by omega)]
    by_cases h2 : x.f0.toList = n.toList
    · rw [List.filter_cons_of_neg (by rw [decide_eq_true_eq]; exact fun h => h h2)]
      exact Ev.pos h2 (without_l0 l d f n hl m (j + 1) acc (by omega) (by omega))
    · rw [List.filter_cons_of_pos (by rw [decide_eq_true_eq]; exact h2)]
      refine Ev.neg h2 (Ev.pos (by omega) ?_)
      have := without_l0 l d f n hl m (j + 1) (acc ++ [x]) (by omega) (by simp; omega)
      rw [List.append_assoc] at this
      exact this
theorem without_some (A : List S71) (g : S71) (B : List S71) (d : Bool) (f : Int) (n : ByteArray) (hl : (A ++ g :: B).length + 1 < 3518437208883) (ha : ∀ x ∈ A, blt (nm x) n.toList) (hg : nm g = n.toList) (hb : ∀ x ∈ B, blt n.toList (nm x)) :
    Ev (fun k => gafferref02_without.f k (A ++ g :: B) d f n) (A ++ B, d, f) := by
  unfold gafferref02_without.f
  have h := without_l0 (A ++ g :: B) d f n hl (A ++ g :: B).length 0 [] (by omega) (by simp)
  have e : ([] : List S71) ++ ((A ++ g :: B).drop 0).filter (fun x => decide (nm x ≠ n.toList)) = A ++ B := by
    rw [List.nil_append, List.drop_zero, List.filter_append, List.filter_cons_of_neg (by rw [decide_eq_true_eq]; exact fun h => h hg), List.filter_eq_self.2 (fun x hx => ?_), List.filter_eq_self.2 (fun x hx => ?_)]
    · have := hb x hx
      exact decide_eq_true (fun e => by rw [e] at this; exact blt_irrefl _ this)
    · have := ha x hx
      exact decide_eq_true (fun e => by rw [e] at this; exact blt_irrefl _ this)
  rwa [e] at h
theorem burnt_at (l : List S71) (d : Bool) (f : Int) (hf : f < 9223372036854775808) : gafferref02_burnt.f l d f = some (if f = 0 then (l, true, f, false) else (l, d, dec f, true)) := by
  unfold gafferref02_burnt.f dec
  by_cases h0 : f = 0
  · simp [h0]
  · by_cases h1 : f > 0
    · have e : wrap64 (f - 1) = f - 1 := wrap64_id (by omega) (by omega)
      rw [if_neg h0, if_neg h0, if_pos h1, if_pos h1, e]
    · rw [if_neg h0, if_neg h0, if_neg h1, if_neg h1]
theorem bad_at (l : List S71) (d : Bool) (f why : Int) (hl : l.length < 3518437208883) : gafferref02_bad.f l d f why = some (if why = 10 then ([], false, 0, why) else (l, d, f, why)) := by
  unfold gafferref02_bad.f
  rw [Copy_at l d f hl]
  by_cases h : why = 10
  · rw [if_pos h, if_pos h]
  · rw [if_neg h, if_neg h]; rfl
theorem ready_ev (l : List S71) (d : Bool) (f : Int) (hl : l.length < 4611686018427387904) : Ev (fun k => gafferref02_ready.f k l d f) (if Good l then (if d = true then 8 else 0) else 10) := by
  unfold gafferref02_ready.f
  refine Ev.bind (RCheck_ev l d f hl) ?_
  by_cases hg : Good l
  · rw [res_pos hg, if_pos hg]
    refine Ev.pos rfl ?_
    by_cases hd : d = true
    · refine Ev.pos hd ?_
      rw [if_pos hd]; exact Ev.now _
    · refine Ev.neg hd ?_
      rw [if_neg hd]; exact Ev.now _
  · rw [res_neg hg, if_neg hg]
    exact Ev.neg (by decide) (Ev.now _)
theorem rname_at (a : ByteArray) : gafferref02_name.f a = some (decide (named a)) := by
  unfold gafferref02_name.f
  by_cases h : a.toList = []
  · rw [if_pos h, decide_eq_false (fun hn => hn.1 h)]
  · rw [if_neg h]
    by_cases h2 : a.size ≤ 32
    · rw [decide_eq_true (show (a.size : Int) ≤ 32 by omega), decide_eq_true ⟨h, h2⟩]
    · rw [decide_eq_false (show ¬ (a.size : Int) ≤ 32 by omega), decide_eq_false (fun hn => h2 hn.2)]
theorem find_any (l : List S71) (d : Bool) (f : Int) (n : ByteArray) (hl : l.length < 4611686018427387904) : ∃ r, Ev (fun k => gafferref02_find.f k l d f n) r := by
  have key : ∀ m j, j + m = l.length → ∃ r, Ev (fun k => gafferref02_find.l0 k n l (l.length : Int) (j : Int)) r := by
    intro m
    induction m with
    | zero =>
      intro j hj
      refine ⟨-1, Ev.step (fun k => rfl) ?_⟩
      simp only [gafferref02_find.l0]
      exact Ev.neg (by omega) (Ev.now _)
    | succ m ih =>
      intro j hj
      by_cases he : nm (l.getD j z71) = n.toList
      · refine ⟨j, Ev.step (fun k => rfl) ?_⟩
        simp only [gafferref02_find.l0]
        exact Ev.pos (by omega) (Ev.pos (by omega) (Ev.pos (by omega) (Ev.pos he (Ev.now _))))
      · obtain ⟨r, hr⟩ := ih (j + 1) (by omega)
        refine ⟨r, Ev.step (fun k => rfl) ?_⟩
        simp only [gafferref02_find.l0]
        refine Ev.pos (by omega) (Ev.pos (by omega) (Ev.pos (by omega) (Ev.neg he ?_)))
        rw [wrap_add1 (by omega)]
        exact hr
  obtain ⟨r, hr⟩ := key l.length 0 (by omega)
  exact ⟨r, hr⟩
theorem ready_bad {l : List S71} (h : ¬ Good l) (d : Bool) (f : Int) (hl : l.length < 4611686018427387904) : Ev (fun k => gafferref02_ready.f k l d f) 10 := by
  have := ready_ev l d f hl
  rwa [if_neg h] at this
theorem ready_down {l : List S71} (h : Good l) (f : Int) (hl : l.length < 4611686018427387904) : Ev (fun k => gafferref02_ready.f k l true f) 8 := by
  have := ready_ev l true f hl
  rwa [if_pos h, if_pos rfl] at this
theorem ready_go {l : List S71} (h : Good l) (f : Int) (hl : l.length < 4611686018427387904) : Ev (fun k => gafferref02_ready.f k l false f) 0 := by
  have := ready_ev l false f hl
  rwa [if_pos h, if_neg (by decide)] at this
end Go.Proofs.Ytpigjmjbfpipnaa.Dk
