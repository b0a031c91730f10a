import Derived.Test.YtcdibodjkdoknaaPMx4
import Derived.Test.YtcdibodjkdoknaaPMx2
import Derived.Test.YtcdibodjkdoknaaPMx3
import Derived.Test.YtcdibodjkdoknaaQmBasem
import Derived.Test.YtcdibodjkdoknaaMgCheckm
import Derived.Test.YtcdibodjkdoknaaSnCodem
import Derived.Test.YtcdibodjkdoknaaEnCodem
namespace Go.Proofs.Ytcdibodjkdoknaa.Mg
open Go.RowKit YtcdibodjkdoknaaW.PrintWords YtcdibodjkdoknaaW.PrintLast YtcdibodjkdoknaaW.PrintMore Ytcdibodjkdoknaa.PM Ba
open Qm (memB Members_ev)
open Sn (snapOk okR Check_ev okR_4 mem_of)
open Wl (walOk walR walR_4 walOk_mem)
set_option linter.unusedVariables false
set_option linter.unusedSimpArgs false

theorem ep_ite {α : Type} {c : Prop} [Decidable c] {f g : Nat → Option α} {Q : α → Prop} (h1 : c → ∃ r, Ev f r ∧ Q r) (h2 : ¬ c → ∃ r, Ev g r ∧ Q r) : ∃ r, Ev (fun k => if c then f k else g k) r ∧ Q r := by
  by_cases h : c
  · obtain ⟨r, hr, hq⟩ := h1 h
    exact ⟨r, Ev.pos h hr, hq⟩
  · obtain ⟨r, hr, hq⟩ := h2 h
    exact ⟨r, Ev.neg h hr, hq⟩
theorem ep_bind {α β : Type} {g : Nat → Option α} {f : Nat → α → Option β} {a : α} {Q : β → Prop} (h : Ev g a) (k : ∃ r, Ev (fun n => f n a) r ∧ Q r) : ∃ r, Ev (fun n => (g n).bind (f n)) r ∧ Q r := k.elim fun r hr => ⟨r, Ev.bind h hr.1, hr.2⟩
theorem ep_step {α : Type} {f g : Nat → Option α} {Q : α → Prop} (hs : ∀ k, f (k + 1) = g k) (h : ∃ r, Ev g r ∧ Q r) : ∃ r, Ev f r ∧ Q r := h.elim fun r hr => ⟨r, Ev.step hs hr.1, hr.2⟩
theorem ep_now {α : Type} {Q : α → Prop} (r : α) (h : Q r) : ∃ r', Ev (fun _ => some r) r' ∧ Q r' := ⟨r, Ev.now r, h⟩
theorem ep_no {P : Prop} : ∃ r : Int, Ev (fun _ => some (4 : Int)) r ∧ (r = 0 → P) := ⟨4, Ev.now _, fun h => by cases h⟩
def Few (ms : List Int) : Prop := (∀ m ∈ ms, 0 ≤ m ∧ m ≤ 7) ∧ ms.length ≤ 7
theorem walCheck_ok (i t q : Int) (d : ByteArray) (ms : List Int) (hm : ms.length < 4611686018427387904) : ∃ c, Ev (fun k => wal_Check.f k i t q d ms) c ∧ (c = 0 → walOk i q d.toList ms) := by
  obtain ⟨l, rfl, _⟩ := exists_ba d
  refine ⟨walR i q l ms, Wl.Check_ev i t q l ms hm, fun h => ?_⟩
  rw [ba_list]
  by_cases hs : walOk i q l ms
  · exact hs
  · rw [walR_4 hs] at h
    cases h
theorem snapCheck_ok (i t : Int) (ms : List Int) (d : ByteArray) (hm : ms.length < 4611686018427387904) : ∃ c, Ev (fun k => snap_Check.f k i t ms d) c ∧ (c = 0 → snapOk i t ms d.toList) := by
  obtain ⟨l, rfl, _⟩ := exists_ba d
  refine ⟨okR i t ms l, Check_ev i t ms l hm, fun h => ?_⟩
  rw [ba_list]
  by_cases hs : snapOk i t ms l
  · exact hs
  · rw [okR_4 hs] at h
    cases h
def EntOk (e : S67) : Prop := walOk e.f0 e.f2 e.f3.toList e.f4
theorem ok_few {e : S67} (h : EntOk e) : Few e.f4 := ⟨(walOk_mem h).1, (walOk_mem h).2.1⟩
theorem ok_sz {e : S67} (h : EntOk e) : e.f3.size ≤ 4096 := by
  have := (walOk_mem h).2.2.1
  obtain ⟨l, hl, _⟩ := exists_ba e.f3
  rw [hl, ba_list] at this
  rw [hl, ba_size]
  exact this
theorem loop_ok (l : List S67) (hl : l.length < 4611686018427387904) (hm : ∀ e ∈ l, e.f4.length < 4611686018427387904) (b : Bool) : ∀ (m j : Nat) (at_ : Int), j + m = l.length → ∃ r, Ev (fun k => msg_Check.l0 k b at_ l (l.length : Int) (j : Int)) r ∧ (r = 0 → b = true ∧ ∀ e ∈ l.drop j, EntOk e)
  | 0, j, at_, hj => by
    have nil : ∀ e ∈ l.drop j, EntOk e := fun e he => by
      rw [List.drop_eq_nil_of_le (by omega)] at he
      cases he
    refine ep_step (fun k => rfl) ?_
    simp only [msg_Check.l0]
    exact ep_ite (fun h => absurd h (by omega)) (fun _ => ep_ite (fun hb => ep_now _ (fun _ => ⟨hb, nil⟩)) (fun _ => ep_no))
  | m + 1, j, at_, hj => by
    have hlt : j < l.length := by omega
    have hr : rd_T67 l (j : Int) = l[j] := by show l.getD j z67 = _; rw [List.getD_eq_getElem?_getD, List.getElem?_eq_getElem hlt]; rfl
    have hw : wrap64 ((j : Int) + 1) = ((j + 1 : Nat) : Int) := by unfold wrap64; omega
    obtain ⟨c, hc, hok⟩ := walCheck_ok (rd_T67 l (j : Int)).f0 (rd_T67 l (j : Int)).f1 (rd_T67 l (j : Int)).f2 (rd_T67 l (j : Int)).f3 (rd_T67 l (j : Int)).f4 (by rw [hr]; exact hm _ (List.getElem_mem _))
    obtain ⟨r, h1, h2⟩ := loop_ok l hl hm b m (j + 1) (IntKind.u64.wrap (at_ + 1)) (by omega)
    rw [hr] at hok
    refine ep_step (fun k => rfl) ?_
    simp only [msg_Check.l0]
    rw [hw]
    refine ep_ite (fun _ => ep_ite (fun _ => ep_ite (fun _ => ep_bind hc (ep_ite (fun c0 => ep_ite (fun _ => ⟨r, h1, fun h0 => ⟨(h2 h0).1, fun e he => ?_⟩⟩) (fun _ => ep_no)) (fun _ => ep_no))) (fun h => absurd (by omega) h)) (fun h => absurd (by omega) h)) (fun h => absurd (by omega) h)
    rw [List.drop_eq_getElem_cons hlt] at he
    rcases List.mem_cons.1 he with rfl | he
    · exact hok c0
    · exact (h2 h0).2 e he
theorem j1_ok (q t i lt c : Int) (ok : Bool) (l : List S67) (si st : Int) (ms : List Int) (d : ByteArray) (hl : l.length < 4611686018427387904) (hm : ∀ e ∈ l, e.f4.length < 4611686018427387904) (b : Bool) :
    ∃ r, Ev (fun k => msg_Check.j1 k b q t i lt c ok l si st ms d) r ∧ (r = 0 → b = true ∧ ∀ e ∈ l, EntOk e) := by
  refine ep_step (fun k => rfl) ?_
  simp only [msg_Check.j1]
  exact loop_ok l hl hm b l.length 0 i (by omega)
theorem j0_ok (q t i lt c : Int) (ok : Bool) (l : List S67) (si st : Int) (ms : List Int) (d : ByteArray) (hl : l.length < 4611686018427387904) (hm : ∀ e ∈ l, e.f4.length < 4611686018427387904) (hs : ms.length < 4611686018427387904) (b : Bool) :
    ∃ r, Ev (fun k => msg_Check.j0 k b q t i lt c ok l si st ms d) r ∧ (r = 0 → b = true ∧ (∀ e ∈ l, EntOk e) ∧ (q = 5 → snapOk si st ms d.toList)) := by
  obtain ⟨v, hv, hvo⟩ := snapCheck_ok si st ms d hs
  have J : ∀ b2 : Bool, (b2 = true → b = true ∧ (q = 5 → snapOk si st ms d.toList)) → ∃ r, Ev (fun k => msg_Check.j1 k b2 q t i lt c ok l si st ms d) r ∧ (r = 0 → b = true ∧ (∀ e ∈ l, EntOk e) ∧ (q = 5 → snapOk si st ms d.toList)) := fun b2 hb => by
    obtain ⟨r, h1, h2⟩ := j1_ok q t i lt c ok l si st ms d hl hm b2
    exact ⟨r, h1, fun h0 => ⟨(hb (h2 h0).1).1, (h2 h0).2, (hb (h2 h0).1).2⟩⟩
  refine ep_step (fun k => rfl) ?_
  simp only [msg_Check.j0]
  exact ep_ite (fun _ => ep_ite (fun hb => ep_bind hv (ep_ite (fun h0 => J _ (fun _ => ⟨hb, fun _ => hvo h0⟩)) (fun _ => J _ (fun h => by cases h)))) (fun _ => J _ (fun h => by cases h))) (fun h5 => J _ (fun hb => ⟨hb, fun h => absurd h h5⟩))
theorem right_ok (q t i lt c : Int) (ok : Bool) (l : List S67) (si st : Int) (ms : List Int) (d : ByteArray) (hl : l.length < 4611686018427387904) (hm : ∀ e ∈ l, e.f4.length < 4611686018427387904) (hs : ms.length < 4611686018427387904) :
    ∃ r, Ev (fun k => msg_Check.f k q t i lt c ok l si st ms d) r ∧ (r = 0 → 0 < q ∧ q < 6 ∧ 0 < t ∧ msg_whole.f q t i lt c ok l si st ms d = some true ∧ l.length ≤ 8 ∧ (∀ e ∈ l, EntOk e) ∧ (q = 5 → snapOk si st ms d.toList)) := by
  obtain ⟨w, hw⟩ := whole_ex q 0 i lt c ok l si st ms d
  have no : ∃ r, Ev (fun k => msg_Check.j0 k false q t i lt c ok l si st ms d) r ∧ (r = 0 → 0 < q ∧ q < 6 ∧ 0 < t ∧ some w = some true ∧ l.length ≤ 8 ∧ (∀ e ∈ l, EntOk e) ∧ (q = 5 → snapOk si st ms d.toList)) := by
    obtain ⟨r, h1, h2⟩ := j0_ok q t i lt c ok l si st ms d hl hm hs false
    exact ⟨r, h1, fun h0 => absurd (h2 h0).1 (by decide)⟩
  rw [hw t]
  unfold msg_Check.f
  rw [hw t]
  refine ep_ite (fun hq => ep_ite (fun h6 => ep_ite (fun ht => ep_bind (Ev.now _) (ep_ite (fun hwt => ?_) (fun _ => no))) (fun _ => no)) (fun _ => no)) (fun _ => no)
  obtain ⟨r, h1, h2⟩ := j0_ok q t i lt c ok l si st ms d hl hm hs (decide ((l.length : Int) ≤ 8))
  exact ⟨r, h1, fun h0 => ⟨hq, h6, ht, congrArg some hwt, by have := of_decide_eq_true (h2 h0).1; omega, (h2 h0).2⟩⟩
end Go.Proofs.Ytcdibodjkdoknaa.Mg
