import Derived.Test.YtcdibodjkdoknaaPMx6
import Derived.Test.YtcdibodjkdoknaaPMx18
import Derived.Test.YtcdibodjkdoknaaPMx19
import Derived.Test.YtcdibodjkdoknaaMgBytesm
namespace Go.Proofs.Ytcdibodjkdoknaa.Mg
open Go.RowKit YtcdibodjkdoknaaW.PrintWords YtcdibodjkdoknaaW.PrintLast YtcdibodjkdoknaaW.PrintMore Ytcdibodjkdoknaa.PM Ba Sn
set_option linter.unusedVariables false

theorem toList_inj {d e : ByteArray} (h : d.toList = e.toList) : d = e := by rw [← ba_toList d, h, ba_toList]
theorem rd_at {l : List Int} {j : Nat} (h : j < l.length) : rd l (j : Int) = l[j] := by
  show l.getD j 0 = _
  rw [List.getD_eq_getElem?_getD, List.getElem?_eq_getElem h]
  rfl
theorem rd67_at {l : List S67} {j : Nat} (h : j < l.length) : rd_T67 l (j : Int) = l[j] := by
  show l.getD j z67 = _
  rw [List.getD_eq_getElem?_getD, List.getElem?_eq_getElem h]
  rfl
theorem ep_false {P : Prop} (h : ¬ P) : ∃ b : Bool, Ev (fun _ => some false) b ∧ (b = true ↔ P) := ⟨false, Ev.now _, ⟨fun e => absurd e (by decide), fun e => absurd e h⟩⟩
theorem ints_l0 (l m : List Int) (hl : l.length < 4611686018427387904) (he : l.length = m.length) : ∀ n j : Nat, j + n = l.length → ∃ b : Bool, Ev (fun k => gafferref03_SameInts.l0 k l m (l.length : Int) (j : Int)) b ∧ (b = true ↔ l.drop j = m.drop j)
  | 0, j, hj => by
    refine ep_step (fun k => rfl) ?_
    simp only [gafferref03_SameInts.l0]
    rw [List.drop_eq_nil_of_le (by omega), List.drop_eq_nil_of_le (by omega)]
    exact ep_ite (fun h => absurd h (by omega)) (fun _ => ep_now _ ⟨fun _ => rfl, fun _ => rfl⟩)
  | n + 1, j, hj => by
    have h1 : j < l.length := by omega
    have h2 : j < m.length := by omega
    obtain ⟨b, hb, hi⟩ := ints_l0 l m hl he n (j + 1) (by omega)
    refine ep_step (fun k => rfl) ?_
    simp only [gafferref03_SameInts.l0]
    rw [up1 (by omega), List.drop_eq_getElem_cons h1, List.drop_eq_getElem_cons h2, rd_at h1, rd_at h2]
    exact ep_ite (fun _ => ep_ite (fun _ => ep_ite (fun _ => ep_ite (fun _ => ep_ite (fun e => ⟨b, hb, hi.trans ⟨fun h => by rw [e, h], fun h => (List.cons.inj h).2⟩⟩) (fun e => ep_false (fun h => e (List.cons.inj h).1))) (fun h => absurd (by omega) h)) (fun h => absurd (by omega) h)) (fun h => absurd (by omega) h)) (fun h => absurd (by omega) h)
theorem ints_same (l m : List Int) (hl : l.length < 4611686018427387904) : ∃ b : Bool, Ev (fun k => gafferref03_SameInts.f k l m) b ∧ (b = true ↔ l = m) := by
  unfold gafferref03_SameInts.f
  refine ep_ite (fun he => ?_) (fun he => ep_false (fun h => he (by rw [h])))
  obtain ⟨b, hb, hi⟩ := ints_l0 l m hl (by omega) l.length 0 (by omega)
  exact ⟨b, hb, hi⟩
theorem ent_same (x y : S67) (hl : x.f4.length < 4611686018427387904) : ∃ b : Bool, Ev (fun k => gafferref03_SameEntry.f k x.f0 x.f1 x.f2 x.f3 x.f4 y.f0 y.f1 y.f2 y.f3 y.f4) b ∧ (b = true ↔ x = y) := by
  obtain ⟨b, hb, hi⟩ := ints_same x.f4 y.f4 hl
  unfold gafferref03_SameEntry.f
  refine ep_ite (fun e0 => ep_ite (fun e1 => ep_ite (fun e2 => ep_ite (fun e3 => ep_bind hb (ep_now _ (hi.trans ⟨fun h => ?_, fun h => by rw [h]⟩))) (fun e => ep_false (fun h => e (by rw [h])))) (fun e => ep_false (fun h => e (by rw [h])))) (fun e => ep_false (fun h => e (by rw [h])))) (fun e => ep_false (fun h => e (by rw [h])))
  obtain ⟨a0, a1, a2, a3, a4⟩ := x
  obtain ⟨b0, b1, b2, b3, b4⟩ := y
  have e3' := toList_inj e3
  clear e3
  dsimp only at e0 e1 e2 e3' h
  subst e0 e1 e2 e3' h
  rfl
theorem ents_l0 (l m : List S67) (hl : l.length < 4611686018427387904) (hm : ∀ e ∈ l, e.f4.length < 4611686018427387904) (he : l.length = m.length) : ∀ n j : Nat, j + n = l.length → ∃ b : Bool, Ev (fun k => gafferref03_Same.l0 k l m (l.length : Int) (j : Int)) b ∧ (b = true ↔ l.drop j = m.drop j)
  | 0, j, hj => by
    refine ep_step (fun k => rfl) ?_
    simp only [gafferref03_Same.l0]
    rw [List.drop_eq_nil_of_le (by omega), List.drop_eq_nil_of_le (by omega)]
    exact ep_ite (fun h => absurd h (by omega)) (fun _ => ep_now _ ⟨fun _ => rfl, fun _ => rfl⟩)
  | n + 1, j, hj => by
    have h1 : j < l.length := by omega
    have h2 : j < m.length := by omega
    obtain ⟨b, hb, hi⟩ := ents_l0 l m hl hm he n (j + 1) (by omega)
    obtain ⟨v, hv, hvi⟩ := ent_same l[j] m[j] (hm _ (List.getElem_mem _))
    refine ep_step (fun k => rfl) ?_
    simp only [gafferref03_Same.l0]
    rw [up1 (by omega), List.drop_eq_getElem_cons h1, List.drop_eq_getElem_cons h2, rd67_at h1, rd67_at h2]
    exact ep_ite (fun _ => ep_ite (fun _ => ep_ite (fun _ => ep_ite (fun _ => ep_bind hv (ep_ite (fun e => ⟨b, hb, hi.trans ⟨fun h => by rw [hvi.1 e, h], fun h => (List.cons.inj h).2⟩⟩) (fun e => ep_false (fun h => e (hvi.2 (List.cons.inj h).1))))) (fun h => absurd (by omega) h)) (fun h => absurd (by omega) h)) (fun h => absurd (by omega) h)) (fun h => absurd (by omega) h)
theorem ents_same (l m : List S67) (hl : l.length < 4611686018427387904) (hm : ∀ e ∈ l, e.f4.length < 4611686018427387904) : ∃ b : Bool, Ev (fun k => gafferref03_Same.f k l m) b ∧ (b = true ↔ l = m) := by
  unfold gafferref03_Same.f
  refine ep_ite (fun he => ?_) (fun he => ep_false (fun h => he (by rw [h])))
  obtain ⟨b, hb, hi⟩ := ents_l0 l m hl hm (by omega) l.length 0 (by omega)
  exact ⟨b, hb, hi⟩
theorem snap_same (i t : Int) (ms : List Int) (d : ByteArray) (i' t' : Int) (ms' : List Int) (d' : ByteArray) (hl : ms.length < 4611686018427387904) : ∃ b : Bool, Ev (fun k => gafferref05_Same.f k i t ms d i' t' ms' d') b ∧ (b = true ↔ i = i' ∧ t = t' ∧ d = d' ∧ ms = ms') := by
  obtain ⟨b, hb, hi⟩ := ints_same ms ms' hl
  unfold gafferref05_Same.f
  exact ep_ite (fun e0 => ep_ite (fun e1 => ep_ite (fun e2 => ep_bind hb (ep_now _ (hi.trans ⟨fun h => ⟨e0, e1, toList_inj e2, h⟩, fun h => h.2.2.2⟩))) (fun e => ep_false (fun h => e (by rw [h.2.2.1])))) (fun e => ep_false (fun h => e h.2.1))) (fun e => ep_false (fun h => e h.1))
theorem msg_same (q t i lt c : Int) (ok : Bool) (l : List S67) (si st : Int) (ms : List Int) (d : ByteArray) (q' t' i' lt' c' : Int) (ok' : Bool) (l' : List S67) (si' st' : Int) (ms' : List Int) (d' : ByteArray)
    (hl : l.length < 4611686018427387904) (hm : ∀ e ∈ l, e.f4.length < 4611686018427387904) (hs : ms.length < 4611686018427387904) :
    ∃ b : Bool, Ev (fun k => gafferref13_Same.f k q t i lt c ok l si st ms d q' t' i' lt' c' ok' l' si' st' ms' d') b ∧ (b = true ↔ q = q' ∧ t = t' ∧ i = i' ∧ lt = lt' ∧ c = c' ∧ ok = ok' ∧ l = l' ∧ si = si' ∧ st = st' ∧ d = d' ∧ ms = ms') := by
  obtain ⟨v, hv, hvi⟩ := ents_same l l' hl hm
  obtain ⟨b, hb, hi⟩ := snap_same si st ms d si' st' ms' d' hs
  unfold gafferref13_Same.f
  exact ep_ite (fun e0 => ep_ite (fun e1 => ep_ite (fun e2 => ep_ite (fun e3 => ep_ite (fun e4 => ep_ite (fun e5 => ep_bind hv (ep_ite (fun e6 => ep_bind hb (ep_now _ (hi.trans ⟨fun h => ⟨e0, e1, e2, e3, e4, eq_of_beq e5, hvi.1 e6, h⟩, fun h => h.2.2.2.2.2.2.2⟩))) (fun e => ep_false (fun h => e (hvi.2 h.2.2.2.2.2.2.1))))) (fun e => ep_false (fun h => e (beq_iff_eq.2 h.2.2.2.2.2.1)))) (fun e => ep_false (fun h => e h.2.2.2.2.1))) (fun e => ep_false (fun h => e h.2.2.2.1))) (fun e => ep_false (fun h => e h.2.2.1))) (fun e => ep_false (fun h => e h.2.1))) (fun e => ep_false (fun h => e h.1))
end Go.Proofs.Ytcdibodjkdoknaa.Mg
