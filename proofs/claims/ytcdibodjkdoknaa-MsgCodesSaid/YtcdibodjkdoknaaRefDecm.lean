import Derived.Test.YtcdibodjkdoknaaPMx18
import Derived.Test.YtcdibodjkdoknaaPMx8
import Derived.Test.YtcdibodjkdoknaaPMx17
import Derived.Test.YtcdibodjkdoknaaPMx16
import Derived.Test.YtcdibodjkdoknaaPMx4
import Derived.Test.YtcdibodjkdoknaaPMx15
import Derived.Test.YtcdibodjkdoknaaPackTakem
import Derived.Test.YtcdibodjkdoknaaSnIntsm
import Derived.Test.YtcdibodjkdoknaaSnCodem
import Derived.Test.YtcdibodjkdoknaaEnCodem
import Derived.Test.YtcdibodjkdoknaaMgTakem
import Derived.Test.YtcdibodjkdoknaaMgDecm
import Derived.Test.YtcdibodjkdoknaaMgTherem
import Derived.Test.YtcdibodjkdoknaaMgBackm
import Derived.Test.YtcdibodjkdoknaaRefMgm
import Derived.Test.YtcdibodjkdoknaaRefCkm
namespace Go.Proofs.Ytcdibodjkdoknaa.Mg
open Go.RowKit YtcdibodjkdoknaaW.PrintWords YtcdibodjkdoknaaW.PrintLast YtcdibodjkdoknaaW.PrintMore Ytcdibodjkdoknaa.PM Ba Sn
set_option linter.unusedVariables false
set_option linter.unusedSimpArgs false

noncomputable def Mt.chk (m : Mt) : Bool := chkB m.q m.t m.i m.lt m.c m.ok m.l m.si m.st m.ms m.d
noncomputable def decM (l : List UInt8) : Dec :=
  if (takeF l).2.2 = 0 ∧ (takeF l).2.1 = [] ∧ (msgR (takeF l).1 false).b = false ∧ (msgR (takeF l).1 false).r = [] ∧ (msgR (takeF l).1 false).chk = true then (msgR (takeF l).1 false).dec else noDec
theorem msgR_small (p : List UInt8) : Small (msgR p false).l (msgR p false).ms := partsR_small _ _ _ _
theorem MDecode_ev (l : List UInt8) (hl : l.length ≤ 4611686018427387903) : Ev (fun k => msg_Decode.f k (ba l)) (decM l) := by
  unfold decM
  by_cases c1 : (takeF l).2.2 = 0
  · by_cases c2 : (takeF l).2.1 = []
    · have hT : takeF l = ((takeF l).1, [], 0) := by rw [← c1, ← c2]
      obtain ⟨c, hc, hD⟩ := Decode_one l _ hl hT
      have sm := msgR_small (takeF l).1
      have e := Ev.unique hc (MCheck_ev _ _ _ _ _ _ _ _ _ _ _ sm.a sm.b sm.c)
      by_cases c3 : (msgR (takeF l).1 false).b = false ∧ (msgR (takeF l).1 false).r = [] ∧ (msgR (takeF l).1 false).chk = true
      · rw [if_pos ⟨c1, c2, c3⟩]
        rw [if_pos ⟨c3.1, c3.2.1, by rw [e]; show ans ((msgR (takeF l).1 false).chk) = 0; rw [c3.2.2]; rfl⟩] at hD
        exact hD
      · rw [if_neg (fun h => c3 h.2.2)]
        rw [if_neg (fun h => c3 ⟨h.1, h.2.1, ans_0 (e ▸ h.2.2)⟩)] at hD
        exact hD
    · rw [if_neg (fun h => c2 h.2.1)]
      exact Decode_no l hl (.inr c2)
  · rw [if_neg (fun h => c1 h.1)]
    exact Decode_no l hl (.inl c1)
theorem kind_id {n : Nat} (h : (n : Int) < 6) : (n : Int) % 256 = kindR n := by
  unfold kindR
  rw [if_neg (by omega)]
theorem kind_6 {n : Nat} (h : ¬ (n : Int) < 6) : kindR n = 6 := by
  unfold kindR
  by_cases c : 6 < (n : Int)
  · rw [if_pos c]; decide
  · rw [if_neg c]; omega
theorem RMDecode_ev (l : List UInt8) (hl : l.length ≤ 4611686018427387903) : Ev (fun k => gafferref13_Decode.f k (ba l)) (decM l) := by
  have h1 := takeF_in l
  have n1 := numR_len (takeF l).1 false
  have n2 := numR_len (numR (takeF l).1 false).2.1 (numR (takeF l).1 false).2.2
  have hx := BNumber_ev (takeF l).1 false (by omega)
  have hy := BNumber_ev (numR (takeF l).1 false).2.1 (numR (takeF l).1 false).2.2 (by omega)
  have hP := fun q t => rparts_ev q t (numR (numR (takeF l).1 false).2.1 (numR (takeF l).1 false).2.2).2.1 (numR (numR (takeF l).1 false).2.1 (numR (takeF l).1 false).2.2).2.2 (by omega)
  have sm := msgR_small (takeF l).1
  have hq : (msgR (takeF l).1 false).q = kindR (numR (takeF l).1 false).1 := (partsR_q _ _ _ _).1
  have hF := @msgR_from (takeF l).1
  unfold gafferref13_Decode.f decM
  refine Ev.bind (RTakeFrame_ev l (by omega)) ?_
  by_cases c1 : (takeF l).2.2 = 0
  rotate_left
  · rw [if_neg (fun h => c1 h.1)]
    exact Ev.neg (by show ¬ ((takeF l).2.2 : Int) = 0; omega) (Ev.now _)
  refine Ev.pos (by show ((takeF l).2.2 : Int) = 0; omega) ?_
  by_cases c2 : (takeF l).2.1 = []
  rotate_left
  · rw [if_neg (fun h => c2 h.2.1)]
    exact Ev.neg (by show ¬ (ba (takeF l).2.1).toList = []; rw [ba_list]; exact c2) (Ev.now _)
  refine Ev.pos (by show (ba (takeF l).2.1).toList = []; rw [ba_list]; exact c2) (Ev.bind hx ?_)
  by_cases c3 : ((numR (takeF l).1 false).1 : Int) < 6
  rotate_left
  · rw [if_neg (fun h => by have := (chk_q _ _ _ _ _ _ _ _ _ _ _ h.2.2.2.2).2; rw [hq, kind_6 c3] at this; omega)]
    exact Ev.pos (by show ((numR (takeF l).1 false).1 : Int) ≥ 6; omega) (Ev.now _)
  refine Ev.neg (by show ¬ ((numR (takeF l).1 false).1 : Int) ≥ 6; omega) (Ev.bind hy ?_)
  obtain ⟨b2, hb1, hb2, hp⟩ := hP (kindR (numR (takeF l).1 false).1) ((numR (numR (takeF l).1 false).2.1 (numR (takeF l).1 false).2.2).1 : Int)
  rw [← kind_id c3] at hp
  refine Ev.bind hp ?_
  rw [kind_id c3] at hp ⊢
  replace hb1 : 0 < (msgR (takeF l).1 false).q ∧ (msgR (takeF l).1 false).q < 6 → b2 = (msgR (takeF l).1 false).b := fun h => hb1 (by rw [hq] at h; exact h)
  replace hb2 : ¬ (0 < (msgR (takeF l).1 false).q ∧ (msgR (takeF l).1 false).q < 6) → b2 = true := fun h => hb2 (by rw [hq] at h; exact h)
  show Ev (fun k => if b2 = true then some noDec else (if (ba (msgR (takeF l).1 false).r).toList = ([] : List UInt8) then ((gafferref13_Check.f k (msgR (takeF l).1 false).q (msgR (takeF l).1 false).t (msgR (takeF l).1 false).i (msgR (takeF l).1 false).lt (msgR (takeF l).1 false).c (msgR (takeF l).1 false).ok (msgR (takeF l).1 false).l (msgR (takeF l).1 false).si (msgR (takeF l).1 false).st (msgR (takeF l).1 false).ms (msgR (takeF l).1 false).d).bind fun c => (if c = 0 then some (msgR (takeF l).1 false).dec else some noDec)) else some noDec)) _
  generalize msgR (takeF l).1 false = m at *
  by_cases cq : 0 < m.q ∧ m.q < 6
  rotate_left
  · rw [if_neg (fun h => cq (chk_q _ _ _ _ _ _ _ _ _ _ _ h.2.2.2.2))]
    exact Ev.pos (hb2 cq) (Ev.now _)
  have hb := hb1 cq
  subst hb
  by_cases cb : m.b = true
  · rw [if_neg (fun h => by rw [cb] at h; exact absurd h.2.2.1 (by decide))]
    exact Ev.pos cb (Ev.now _)
  have cb' := Bool.eq_false_iff.mpr cb
  refine Ev.neg cb ?_
  rw [ba_list]
  by_cases cr : m.r = []
  rotate_left
  · rw [if_neg (fun h => cr h.2.2.2.1)]
    exact Ev.neg cr (Ev.now _)
  have T := (hF cq cb' cr).1
  refine Ev.pos cr (Ev.bind (RMCheck_ev m.q m.t m.i m.lt m.c m.ok m.l m.si m.st m.ms m.d sm.a sm.b sm.c T.ui (fun e he => (T.ein e he).1)) ?_)
  show Ev (fun _ => if ans m.chk = 0 then some m.dec else some noDec) _
  by_cases ch : m.chk = true
  · rw [if_pos (show (takeF l).2.2 = 0 ∧ (takeF l).2.1 = [] ∧ m.b = false ∧ m.r = [] ∧ m.chk = true from ⟨c1, c2, cb', cr, ch⟩)]
    exact Ev.pos (by rw [ch]; rfl) (Ev.now _)
  · rw [if_neg (show ¬ ((takeF l).2.2 = 0 ∧ (takeF l).2.1 = [] ∧ m.b = false ∧ m.r = [] ∧ m.chk = true) from fun h => ch h.2.2.2.2)]
    exact Ev.neg (fun h => ch (ans_0 h)) (Ev.now _)
end Go.Proofs.Ytcdibodjkdoknaa.Mg
