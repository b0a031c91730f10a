import Derived.Test.YtpigjmjbfpipnaaWAll
import Derived.WalkKit
import Derived.ProofKit
import Derived.OpenShut
import Derived.ShutString
import Derived.ChangeOld
import Derived.SizedLaws
import Derived.DataReads
namespace Go.Proofs.Ytpigjmjbfpipnaa.Op
open Go.RowKit YtpigjmjbfpipnaaW.PrintWords YtpigjmjbfpipnaaW.PrintLast YtpigjmjbfpipnaaW.PrintMore
set_option linter.unusedVariables false

def Opens {α : Type} (P : Program) (t : TypeId) (d : Kd α) (ok : α → Prop) : Prop :=
  ∀ {H : Type} (enc : TypeId × Value → H) (w : World) (fuel : Nat) (cs : List Value) (dat : DataW H) (ps : List MemPlace),
    DataW.trod enc P w 0 (fun _ => true) true fuel t cs = some (dat, ps) → (∀ x ∈ dat.weights P t, x ≤ reachBytes) → ∃ x : α, d.K w x cs ∧ ok x

def okInt (k : IntKind) (n : Int) : Prop := (Lit.int k n).wf = true
def okStr (s : ByteArray) : Prop := s.size ≤ 140737488351232
def okBool (_ : Bool) : Prop := True
def okSl {α : Type} (B : Nat) (ok : α → Prop) (l : List α) : Prop := l.length * B ≤ 140737488351232 ∧ ∀ x ∈ l, ok x
section
variable {P : Program} {t e : TypeId}
theorem opens_int {k : IntKind} (hu : P.underlying t = some (.int k)) : Opens P t (Kd.int k) (okInt k) := by
  intro H enc w fuel cs dat ps h _
  cases fuel with
  | zero => simp [DataW.trod] at h
  | succ fuel =>
    unfold DataW.trod at h
    rw [hu] at h
    rcases cs with _ | ⟨c, _ | ⟨c2, r⟩⟩
    · simp at h
    · cases c <;> simp at h
      obtain ⟨⟨rfl, hw⟩, _⟩ := h
      exact ⟨_, rfl, hw⟩
    · simp at h
theorem opens_bool (hu : P.underlying t = some .bool) : Opens P t Kd.bool okBool := by
  intro H enc w fuel cs dat ps h _
  cases fuel with
  | zero => simp [DataW.trod] at h
  | succ fuel =>
    unfold DataW.trod at h
    rw [hu] at h
    rcases cs with _ | ⟨c, _ | ⟨c2, r⟩⟩
    · simp at h
    · cases c <;> simp at h
      exact ⟨_, rfl, trivial⟩
    · simp at h
theorem opens_string (hu : P.underlying t = some .string) : Opens P t Kd.string okStr := by
  intro H enc w fuel cs dat ps h hw
  cases fuel with
  | zero => simp [DataW.trod] at h
  | succ fuel =>
    unfold DataW.trod at h
    rw [hu] at h
    rcases cs with _ | ⟨c, _ | ⟨c2, r⟩⟩
    · simp at h
    · cases c with
      | string s =>
        simp only at h
        split at h
        · obtain ⟨rfl, _⟩ := Prod.mk.inj (Option.some.inj h)
          refine ⟨s, rfl, ?_⟩
          have := hw s.data.toList.length (by simp [DataW.weights])
          have e : s.size = s.data.toList.length := rfl
          unfold okStr
          rw [e]
          exact this
        · simp at h
      | _ => simp at h
    · simp at h
theorem chosen {α : Type} {Q : Nat → α → Prop} : ∀ n, (∀ i, i < n → ∃ x, Q i x) → ∃ xs : List α, xs.length = n ∧ ∀ i x, xs[i]? = some x → Q i x
  | 0, _ => ⟨[], rfl, fun i x h => by simp at h⟩
  | n + 1, h => by
    obtain ⟨xs, hl, hx⟩ := chosen n (fun i hi => h i (by omega))
    obtain ⟨x, hq⟩ := h n (by omega)
    refine ⟨xs ++ [x], by simp [hl], fun i y hy => ?_⟩
    rcases Nat.lt_or_ge i n with hi | hi
    · rw [List.getElem?_append_left (by omega)] at hy; exact hx i y hy
    · rw [List.getElem?_append_right (by omega)] at hy
      have : i - xs.length = 0 := by
        have := (List.getElem?_eq_some_iff.1 hy).1
        simp at this; omega
      rw [this] at hy
      obtain rfl : x = y := by simpa using hy
      obtain rfl : i = n := by omega
      exact hq
theorem mem_weightsAll {H : Type} {x : Nat} : ∀ {l : List (DataW H)} {i : Nat} {d : DataW H}, l[i]? = some d → x ∈ d.weights P e → x ∈ DataW.weightsAll P e l
  | [], i, d, h, _ => by simp at h
  | a :: l, 0, d, h, hx => by
    obtain rfl : a = d := by simpa using h
    simp [DataW.weightsAll, hx]
  | a :: l, i + 1, d, h, hx => by
    simp only [DataW.weightsAll, List.mem_append]
    exact .inr (mem_weightsAll (by simpa using h) hx)
theorem opens_slice {α : Type} {d : Kd α} {ok : α → Prop} (hu : P.underlying t = some (.slice e)) (hz : P.cellsOf e = d.sz) {B : Nat} (hB : P.bytesOf e = B) (hd : Opens P e d ok) : Opens P t (Kd.slice e d) (okSl B ok) := by
  intro H enc w fuel cs dat ps h hw
  cases fuel with
  | zero => simp [DataW.trod] at h
  | succ fuel =>
    unfold DataW.trod at h
    rw [hu] at h
    rcases cs with _ | ⟨c, _ | ⟨c2, r⟩⟩
    · simp at h
    · cases c with
      | slice a len cap =>
        cases a with
        | none =>
          rcases len with _ | len
          · rcases cap with _ | cap
            · refine ⟨[], ⟨none, 0, rfl, Nat.le_refl _, ?_⟩, by simp, by simp⟩
              exact ⟨rfl, by simp, fun h => by simp at h⟩
            · simp at h
          · simp at h
        | some a =>
          simp only at h
          split at h
          · rename_i hc
            obtain ⟨_, hlc, hcm⟩ := hc
            obtain ⟨elems, he, h⟩ := Option.bind_eq_some_iff.1 h
            obtain ⟨rest, hr, h⟩ := Option.map_eq_some_iff.1 h
            obtain ⟨rfl, rfl⟩ := Prod.mk.inj h
            have hel : elems.length = len := by simpa using mapM_some_length he
            have hw2 : ∀ x ∈ (elems.length + rest.length) * P.bytesOf e :: (DataW.weightsAll P e (elems.map (·.1)) ++ DataW.weightsAll P e (rest.map (·.1))), x ≤ reachBytes := by
              intro x hx
              refine hw x ?_
              simp only [DataW.weights, hu, List.length_map]
              exact hx
            have key : ∀ i, i < len → ∃ x : α, (∃ c, c.length = d.sz ∧ d.K w x c ∧ ∀ j u, c[j]? = some u → w.cell? (a.add (i * d.sz + j)) = some u) ∧ ok x := by
              intro i hi
              have hg := mapM_some_get he i i (by simp [hi])
              rw [List.getElem?_eq_getElem (by omega)] at hg
              obtain ⟨c, hcs, ht⟩ := Option.bind_eq_some_iff.1 hg
              obtain ⟨_, hcl, hcc⟩ := World.cells?_some hcs
              obtain ⟨x, hk, hok⟩ := hd enc w fuel c elems[i].1 elems[i].2 ht (fun y hy => hw2 y (by
                refine List.mem_cons_of_mem _ (List.mem_append_left _ (mem_weightsAll (i := i) (d := elems[i].1) ?_ hy))
                rw [List.getElem?_map, List.getElem?_eq_getElem (by omega)]; rfl))
              refine ⟨x, ⟨c, by rw [hcl, hz], hk, fun j u hj => ?_⟩, hok⟩
              have hjl : j < P.cellsOf e := by rw [← hcl]; exact (List.getElem?_eq_some_iff.1 hj).1
              rw [← hj, ← hcc j hjl, hz]
              congr 1
              unfold Addr.add
              by_cases h1 : i * d.sz = 0
              · simp [h1]
              · by_cases h2 : j = 0
                · simp [h2]
                · have : ¬ (i * d.sz + j = 0) := by omega
                  simp only [h1, h2, this, if_false, Nat.add_assoc]
            obtain ⟨xs, hxl, hxs⟩ := chosen len key
            refine ⟨xs, ⟨some a, cap, by rw [hxl], by rw [hxl]; exact hlc, ?_⟩, ?_, ?_⟩
            · refine ⟨by rw [hxl], by rw [hxl]; unfold maxLen at hcm; omega, fun _ => ⟨a, rfl, fun j p hj => (hxs j p hj).1⟩⟩
            · have := hw2 _ List.mem_cons_self
              rw [hB, hel] at this
              rw [hxl]
              have h2 : len * B ≤ (len + rest.length) * B := Nat.mul_le_mul_right _ (by omega)
              simp only [reachBytes] at this
              omega
            · intro x hx
              obtain ⟨i, hi, rfl⟩ := List.getElem_of_mem hx
              exact (hxs i _ (List.getElem?_eq_getElem hi)).2
          · simp at h
      | _ => simp at h
    · simp at h

def OpensF {α : Type} (P : Program) (fs : List Field) (off : Nat) (d : Kd α) (ok : α → Prop) : Prop :=
  ∀ {H : Type} (enc : TypeId × Value → H) (w : World) (fuel : Nat) (cs : List Value) (xs : List (DataW H × List MemPlace)),
    fs.mapM (fun f => DataW.trod enc P w 0 (fun _ => true) true fuel f.type ((cs.drop f.offset).take (P.cellsOf f.type))) = some xs →
    (∀ x ∈ DataW.weightsEach P (fs.map (·.type)) (xs.map (·.1)), x ≤ reachBytes) → ∃ x : α, d.K w x ((cs.drop off).take d.sz) ∧ ok x
theorem opens_last {α : Type} {d : Kd α} {ok : α → Prop} {f : Field} {off : Nat} (ho : f.offset = off) (hz : P.cellsOf f.type = d.sz) (hd : Opens P f.type d ok) : OpensF P [f] off d ok := by
  intro H enc w fuel cs xs h hw
  rw [List.mapM_cons] at h
  simp only [List.mapM_nil, Option.bind_eq_bind, Option.bind_eq_some_iff] at h
  obtain ⟨x, hx, ys, hys, h⟩ := h
  obtain rfl : [] = ys := Option.some.inj hys
  obtain rfl : [x] = xs := Option.some.inj h
  rw [ho, hz] at hx
  exact hd enc w fuel _ x.1 x.2 hx (fun y hy => hw y (by simp [DataW.weightsEach, hy]))
theorem opens_more {α β : Type} {d : Kd α} {ok : α → Prop} {d2 : Kd β} {ok2 : β → Prop} {f : Field} {fs : List Field} {off : Nat} (ho : f.offset = off) (hz : P.cellsOf f.type = d.sz) (hd : Opens P f.type d ok) (hr : OpensF P fs (off + d.sz) d2 ok2) :
    OpensF P (f :: fs) off (Kd.pair d d2) (fun x => ok x.1 ∧ ok2 x.2) := by
  intro H enc w fuel cs xs h hw
  rw [List.mapM_cons] at h
  simp only [Option.bind_eq_bind, Option.bind_eq_some_iff] at h
  obtain ⟨x, hx, ys, hys, h⟩ := h
  obtain rfl : x :: ys = xs := Option.some.inj h
  rw [ho, hz] at hx
  obtain ⟨a, ha, hoka⟩ := hd enc w fuel _ x.1 x.2 hx (fun y hy => hw y (by simp [DataW.weightsEach, hy]))
  obtain ⟨b, hb, hokb⟩ := hr enc w fuel cs ys hys (fun y hy => hw y (by simp [DataW.weightsEach, hy]))
  refine ⟨(a, b), ⟨_, _, ?_, ha, hb⟩, hoka, hokb⟩
  show (cs.drop off).take (d.sz + d2.sz) = _
  rw [List.take_add, List.drop_drop]
theorem opens_struct {α β : Type} {d : Kd α} {ok : α → Prop} {fs : Array Field} (hu : P.underlying t = some (.struct fs)) (hz : P.cellsOf t = d.sz) (hf : OpensF P fs.toList 0 d ok) (f : β → α) (g : α → β) (hg : ∀ x, f (g x) = x) :
    Opens P t (Kd.iso d f) (fun x => ok (f x)) := by
  intro H enc w fuel cs dat ps h hw
  cases fuel with
  | zero => simp [DataW.trod] at h
  | succ fuel =>
    unfold DataW.trod at h
    rw [hu] at h
    simp only at h
    split at h
    · rename_i hc
      obtain ⟨xs, hx, h⟩ := Option.map_eq_some_iff.1 h
      obtain ⟨rfl, rfl⟩ := Prod.mk.inj h
      obtain ⟨x, hk, hok⟩ := hf enc w fuel cs xs hx (fun y hy => hw y (by simp only [DataW.weights, hu]; exact hy))
      rw [List.drop_zero, List.take_of_length_le (by rw [hc, hz]; exact Nat.le_refl _)] at hk
      exact ⟨g x, by show d.K w (f (g x)) cs; rw [hg]; exact hk, by show ok (f (g x)); rw [hg]; exact hok⟩
    · simp at h
theorem open_arg {α : Type} {d : Kd α} {ok : α → Prop} {H : Type} {enc : TypeId × Value → H} {W : World} {v : Value} {dat : DataW H} {ps : List MemPlace} {ts : List TypeId} {ds : List (DataW H)} (ho : Opens P t d ok)
    (h : DataW.Trod enc P W 0 (fun _ => true) true t v dat ps) (hsz : (DataW.weightsEach P ts ds).all (· ≤ reachBytes) = true) (j : Nat) (ht : ts[j]? = some t) (hd : ds[j]? = some dat) :
    ∃ x : α, d.K W x v.cells.toList ∧ ok x := by
  obtain ⟨fuel, hf⟩ := h
  refine ho enc W fuel _ dat ps hf (fun x hx => ?_)
  have hin : ∀ (ts : List TypeId) (ds : List (DataW H)) (j : Nat), ts[j]? = some t → ds[j]? = some dat → x ∈ DataW.weightsEach P ts ds := by
    intro ts
    induction ts with
    | nil => intro ds j ht; simp at ht
    | cons a ts ih =>
      intro ds j ht hd
      cases ds with
      | nil => simp at hd
      | cons b ds =>
        cases j with
        | zero =>
          obtain rfl : a = t := by simpa using ht
          obtain rfl : b = dat := by simpa using hd
          simp [DataW.weightsEach, hx]
        | succ j =>
          simp only [DataW.weightsEach, List.mem_append]
          exact .inr (ih ds j (by simpa using ht) (by simpa using hd))
  have := List.all_eq_true.1 hsz x (hin ts ds j ht hd)
  simpa using this
end
end Go.Proofs.Ytpigjmjbfpipnaa.Op
