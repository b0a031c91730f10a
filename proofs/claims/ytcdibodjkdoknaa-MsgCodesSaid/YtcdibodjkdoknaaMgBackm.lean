import Derived.Test.YtcdibodjkdoknaaPMx15
import Derived.Test.YtcdibodjkdoknaaPMx6
import Derived.Test.YtcdibodjkdoknaaPMx4
import Derived.Test.YtcdibodjkdoknaaMgTherem
import Derived.Test.YtcdibodjkdoknaaMgEncm
import Derived.Test.YtcdibodjkdoknaaMgDecm
namespace Go.Proofs.Ytcdibodjkdoknaa.Mg
open Go.RowKit YtcdibodjkdoknaaW.PrintWords YtcdibodjkdoknaaW.PrintLast YtcdibodjkdoknaaW.PrintMore Ytcdibodjkdoknaa.PM Ba Sn Wl Ytcdibodjkdoknaa.Op
set_option linter.unusedVariables false
set_option linter.unusedSimpArgs false
attribute [local instance 10] Classical.propDecidable

structure Small (l : List S67) (ms : List Int) : Prop where
  a : l.length < 4611686018427387904
  b : ∀ e ∈ l, e.f4.length < 4611686018427387904
  c : ms.length < 4611686018427387904
theorem decE_few (l : List UInt8) : (decE l).2.2.2.2.1.length ≤ 7 := by
  unfold decE
  cases hq : takeE l with
  | none => simp
  | some s =>
    dsimp only
    have := (walOk_mem (takeE_inv hq).2.1).2.1
    split
    · exact this
    · simp
theorem manyR_small : ∀ (n : Nat) (l : List UInt8) (b : Bool) (acc : List S67), acc.length + n ≤ 8 → (∀ e ∈ acc, e.f4.length ≤ 7) → (manyR n l b acc).1.length ≤ 8 ∧ ∀ e ∈ (manyR n l b acc).1, e.f4.length ≤ 7
  | 0, l, b, acc, h, h2 => ⟨by show acc.length ≤ 8; omega, h2⟩
  | n + 1, l, b, acc, h, h2 => by
    rw [manyR]
    split
    · exact ⟨by show acc.length ≤ 8; omega, h2⟩
    · refine manyR_small n _ _ _ (by rw [List.length_append, List.length_singleton]; omega) (fun e he => ?_)
      rcases List.mem_append.1 he with he | he
      · exact h2 e he
      · rw [List.mem_singleton.1 he]
        exact decE_few _
theorem manyM_small (l : List UInt8) (b : Bool) : (manyM l b).1.length ≤ 8 ∧ ∀ e ∈ (manyM l b).1, e.f4.length ≤ 7 := by
  unfold manyM
  split
  · exact manyR_small _ _ _ [] (by simpa) (fun e he => by cases he)
  · exact ⟨by simp, fun e he => by cases he⟩
theorem small_of {l : List S67} {ms : List Int} (h : l.length ≤ 8 ∧ ∀ e ∈ l, e.f4.length ≤ 7) (h2 : ms.length ≤ 7) : Small l ms := ⟨by omega, fun e he => by have := h.2 e he; omega, by omega⟩
theorem partsR_small (q t : Int) (l : List UInt8) (b : Bool) : Small (partsR q t l b).l (partsR q t l b).ms := by
  unfold partsR
  dsimp only
  have h0 : ([] : List S67).length ≤ 8 ∧ ∀ e ∈ ([] : List S67), e.f4.length ≤ 7 := ⟨by simp, fun e he => by cases he⟩
  repeat' split
  all_goals first | exact small_of h0 (decR_len _) | exact small_of (manyM_small _ _) (Nat.zero_le _) | exact small_of h0 (Nat.zero_le _)
theorem enc_ok {q t i lt c : Int} {ok : Bool} {l : List S67} {si st : Int} {ms : List Int} {d : ByteArray} (ut : U64 t) (ui : U64 i) (ult : U64 lt) (uc : U64 c) (usi : U64 si) (ust : U64 st) (ein : ∀ e ∈ l, EntIn e) (sm : Small l ms) (hc : Ev (fun k => msg_Check.f k q t i lt c ok l si st ms d) 0) :
    Right q t i lt c ok l si st ms d ∧ (msgL q t i lt c ok l si st ms d).length ≤ 65536 ∧ Ev (fun k => msg_Encode.f k q t i lt c ok l si st ms d) (ba (frameL (msgL q t i lt c ok l si st ms d)), 0) := by
  obtain ⟨r, hr, h0⟩ := right_ok q t i lt c ok l si st ms d sm.a sm.b sm.c
  have e0 := Ev.unique hr hc
  subst e0
  obtain ⟨q0, q6, _, hw, h8, hok, h5⟩ := h0 rfl
  have R : Right q t i lt c ok l si st ms d := ⟨⟨q0, q6⟩, ut, ui, ult, uc, usi, ust, ein, hok, h8, h5, hw⟩
  obtain ⟨hB, hL⟩ := bytes_ev q t i lt c ok l si st ms d R.kind R.ut R.ui R.ult R.uc R.usi R.ust ein hok h8 h5
  have hF := Frame_ev (msgL q t i lt c ok l si st ms d) (by omega)
  unfold frameR at hF
  rw [if_neg (by omega)] at hF
  refine ⟨R, hL, ?_⟩
  unfold msg_Encode.f
  exact Ev.bind hc (Ev.pos rfl (Ev.bind hB (Ev.bind hF (Ev.now _))))
def Mt.dec (m : Mt) : Dec := (m.q, m.t, m.i, m.lt, m.c, m.ok, m.l, m.si, m.st, m.ms, m.d, 0)
theorem Decode_one (l p : List UInt8) (hl : l.length ≤ 4611686018427387903) (h : takeF l = (p, [], 0)) :
    ∃ c, Ev (fun k => msg_Check.f k (msgR p false).q (msgR p false).t (msgR p false).i (msgR p false).lt (msgR p false).c (msgR p false).ok (msgR p false).l (msgR p false).si (msgR p false).st (msgR p false).ms (msgR p false).d) c ∧
    Ev (fun k => msg_Decode.f k (ba l)) (if (msgR p false).b = false ∧ (msgR p false).r = [] ∧ c = 0 then (msgR p false).dec else noDec) := by
  have h1 := takeF_in l
  rw [h] at h1
  have sm := partsR_small (kindR (numR p false).1) ((numR (numR p false).2.1 (numR p false).2.2).1 : Int) (numR (numR p false).2.1 (numR p false).2.2).2.1 (numR (numR p false).2.1 (numR p false).2.2).2.2
  have sm' : Small (msgR p false).l (msgR p false).ms := sm
  have hT := TakeFrame_ev l (by omega)
  rw [h] at hT
  have hM := tmsg_ev p false (by show p.length ≤ _; have : p.length ≤ l.length := h1; omega)
  generalize msgR p false = m at sm' hM ⊢
  obtain ⟨c, hc, _⟩ := right_ok m.q m.t m.i m.lt m.c m.ok m.l m.si m.st m.ms m.d sm'.a sm'.b sm'.c
  refine ⟨c, hc, ?_⟩
  unfold msg_Decode.f
  refine Ev.bind hT (Ev.bind hM (Ev.pos rfl (Ev.pos ?_ ?_)))
  · show (ba ([] : List UInt8)).toList = []
    rw [ba_list]
  · show Ev (fun k => (order_Taker_Over.f (ba m.r) m.b).bind fun v => (if v.1 = true then ((msg_Check.f k m.q m.t m.i m.lt m.c m.ok m.l m.si m.st m.ms m.d).bind fun c => (if c = 0 then some m.dec else some noDec)) else some noDec)) _
    unfold order_Taker_Over.f
    rw [ba_list]
    by_cases cb : m.b = true
    · have hn : ¬ (m.b = false ∧ m.r = [] ∧ c = 0) := fun h => by rw [cb] at h; exact absurd h.1 (by decide)
      rw [if_pos cb, if_neg hn]
      exact (Ev.now noDec : Ev (fun _ : Nat => some noDec) noDec)
    · rw [if_neg cb]
      have cb' := Bool.eq_false_iff.mpr cb
      by_cases cr : m.r = []
      · refine Ev.pos (beq_iff_eq.mpr cr) (Ev.bind hc ?_)
        by_cases c0 : c = 0
        · have hp : m.b = false ∧ m.r = [] ∧ c = 0 := ⟨cb', cr, c0⟩
          rw [if_pos hp]
          exact Ev.pos c0 (Ev.now _)
        · have hn : ¬ (m.b = false ∧ m.r = [] ∧ c = 0) := fun h => c0 h.2.2
          rw [if_neg hn]
          exact Ev.neg c0 (Ev.now _)
      · have hn : ¬ (m.b = false ∧ m.r = [] ∧ c = 0) := fun h => cr h.2.1
        rw [if_neg hn]
        exact Ev.neg (by rw [beq_iff_eq]; exact cr) (Ev.now _)
end Go.Proofs.Ytcdibodjkdoknaa.Mg
