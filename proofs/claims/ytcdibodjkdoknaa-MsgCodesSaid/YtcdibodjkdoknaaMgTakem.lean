import Derived.Test.YtcdibodjkdoknaaPMx15
import Derived.Test.YtcdibodjkdoknaaPMx14
import Derived.Test.YtcdibodjkdoknaaEnCodem
import Derived.Test.YtcdibodjkdoknaaSnCodem
namespace Go.Proofs.Ytcdibodjkdoknaa.Mg
open Go.RowKit YtcdibodjkdoknaaW.PrintWords YtcdibodjkdoknaaW.PrintLast YtcdibodjkdoknaaW.PrintMore Ytcdibodjkdoknaa.PM Ba Sn Wl
set_option linter.unusedVariables false
set_option linter.unusedSimpArgs false
attribute [local instance 10] Classical.propDecidable

theorem numR_len (l : List UInt8) (b : Bool) : (numR l b).2.1.length ≤ l.length := takeN_len l
theorem txtR_len (l : List UInt8) (b : Bool) : (txtR l b).2.1.length ≤ l.length := takeT_len l
theorem takeT_in (l : List UInt8) : (takeT l).1.length ≤ l.length := by
  have := takeN_len l
  unfold Ba.takeT
  repeat' split
  all_goals first | exact Nat.zero_le _ | (simp only [List.length_take, List.length_drop]; omega)
theorem txtR_in (l : List UInt8) (b : Bool) : (txtR l b).1.length ≤ l.length := takeT_in l
noncomputable def entR (l : List UInt8) (b : Bool) : S67 × List UInt8 × Bool :=
  (⟨(decE (txtR l b).1).1, (decE (txtR l b).1).2.1, (decE (txtR l b).1).2.2.1, (decE (txtR l b).1).2.2.2.1, (decE (txtR l b).1).2.2.2.2.1⟩, (txtR l b).2.1, (txtR l b).2.2 || ((decE (txtR l b).1).2.2.2.2.2 != 0))
theorem entR_len (l : List UInt8) (b : Bool) : (entR l b).2.1.length ≤ l.length := txtR_len l b
theorem tentry_ev (l : List UInt8) (b : Bool) (hl : l.length ≤ 4611686018427387903) : Ev (fun k => msg_tentry.f k (ba l) b) ((entR l b).1.f0, (entR l b).1.f1, (entR l b).1.f2, (entR l b).1.f3, (entR l b).1.f4, ba (entR l b).2.1, (entR l b).2.2) := by
  have := txtR_in l b
  unfold msg_tentry.f
  exact Ev.bind (TText_ev l b (by omega)) (Ev.bind (DecodeE_ev _ (by omega)) (Ev.now _))
noncomputable def manyR : Nat → List UInt8 → Bool → List S67 → List S67 × List UInt8 × Bool
  | 0, l, b, acc => (acc, l, b)
  | n + 1, l, b, acc => if b = true then (acc, l, b) else manyR n (entR l b).2.1 (entR l b).2.2 (acc ++ [(entR l b).1])
theorem many_l0 : ∀ (n : Nat) (l : List UInt8) (b : Bool) (acc : List S67), n ≤ 8 → acc.length + n ≤ 8 → l.length ≤ 4611686018427387903 → Ev (fun k => msg_many.l0 k (n : Int) (ba l) b acc) ((manyR n l b acc).1, ba (manyR n l b acc).2.1, (manyR n l b acc).2.2)
  | 0, l, b, acc, _, _, hl => by
    refine Ev.step (fun k => rfl) ?_
    simp only [msg_many.l0]
    exact Ev.neg (by omega) (Ev.now _)
  | n + 1, l, b, acc, h8, ha, hl => by
    have hlen := entR_len l b
    have hu : IntKind.u64.wrap (((n + 1 : Nat) : Int) - 1) = (n : Int) := by rw [u64_id (by omega) (by omega)]; omega
    refine Ev.step (fun k => rfl) ?_
    simp only [msg_many.l0]
    rw [hu]
    refine Ev.pos (by omega) ?_
    rw [manyR]
    by_cases c : b = true
    · rw [if_pos c]; exact Ev.pos c (Ev.now _)
    · rw [if_neg c]
      refine Ev.neg c (Ev.pos (by omega) (Ev.bind (tentry_ev l b hl) ?_))
      exact many_l0 n (entR l b).2.1 (entR l b).2.2 (acc ++ [(entR l b).1]) (by omega) (by rw [List.length_append, List.length_singleton]; omega) (by omega)
theorem many_bad (n : Nat) (l : List UInt8) (acc : List S67) : Ev (fun k => msg_many.l0 k (n : Int) (ba l) true acc) (acc, ba l, true) := by
  refine Ev.step (fun k => rfl) ?_
  simp only [msg_many.l0]
  cases n with
  | zero => exact Ev.neg (by omega) (Ev.now _)
  | succ n => exact Ev.pos (by omega) (Ev.pos (by simp) (Ev.now _))
noncomputable def manyM (l : List UInt8) (b : Bool) : List S67 × List UInt8 × Bool :=
  if (numR l b).1 ≤ 8 then manyR (numR l b).1 (numR l b).2.1 (numR l b).2.2 [] else ([], (numR l b).2.1, true)
theorem many_ev (l : List UInt8) (b : Bool) (hl : l.length ≤ 4611686018427387903) : Ev (fun k => msg_many.f k (ba l) b) ((manyM l b).1, ba (manyM l b).2.1, (manyM l b).2.2) := by
  have := numR_len l b
  unfold msg_many.f manyM
  refine Ev.bind (TNumber_ev l b (by omega)) ?_
  by_cases c : (numR l b).1 ≤ 8
  · rw [if_pos c]
    show Ev (fun k => msg_many.l0 k ((numR l b).1 : Int) (ba (numR l b).2.1) ((numR l b).2.2 || decide (((numR l b).1 : Int) > 8)) []) _
    rw [decide_eq_false (by omega), Bool.or_false]
    exact many_l0 _ _ _ [] c (by simpa using c) (by omega)
  · rw [if_neg c]
    show Ev (fun k => msg_many.l0 k ((numR l b).1 : Int) (ba (numR l b).2.1) ((numR l b).2.2 || decide (((numR l b).1 : Int) > 8)) []) _
    rw [decide_eq_true (by omega), Wl.or_true_r]
    exact many_bad _ _ _
structure Mt where
  q : Int
  t : Int
  i : Int
  lt : Int
  c : Int
  ok : Bool
  l : List S67
  si : Int
  st : Int
  ms : List Int
  d : ByteArray
  r : List UInt8
  b : Bool
def Mt.tup (x : Mt) : Int × Int × Int × Int × Int × Bool × List S67 × Int × Int × List Int × ByteArray × ByteArray × Bool := (x.q, x.t, x.i, x.lt, x.c, x.ok, x.l, x.si, x.st, x.ms, x.d, ba x.r, x.b)
def kindR (n : Nat) : Int := (if 6 < (n : Int) then 6 else (n : Int)) % 256
noncomputable def partsR (q t : Int) (l : List UInt8) (b : Bool) : Mt :=
  let x := numR l b
  let y := numR x.2.1 x.2.2
  let z := numR y.2.1 y.2.2
  let w := numR x.2.1 (x.2.2 || decide ((x.1 : Int) > 1))
  let e := manyM z.2.1 z.2.2
  let s := txtR l b
  let u := decR s.1
  if q = 1 then ⟨1, t, x.1, y.1, 0, false, [], 0, 0, [], ⟨#[]⟩, y.2.1, y.2.2⟩
  else if q = 2 then ⟨2, t, 0, 0, 0, ((x.1 : Int) == 1), [], 0, 0, [], ⟨#[]⟩, x.2.1, (x.2.2 || decide ((x.1 : Int) > 1))⟩
  else if q = 3 then ⟨3, t, x.1, y.1, z.1, false, e.1, 0, 0, [], ⟨#[]⟩, e.2.1, e.2.2⟩
  else if q = 4 then ⟨4, t, w.1, 0, 0, ((x.1 : Int) == 1), [], 0, 0, [], ⟨#[]⟩, w.2.1, w.2.2⟩
  else if q = 5 then ⟨5, t, 0, 0, 0, false, [], u.1, u.2.1, u.2.2.1, u.2.2.2.1, s.2.1, (s.2.2 || (u.2.2.2.2 != 0))⟩
  else ⟨q, t, 0, 0, 0, false, [], 0, 0, [], ⟨#[]⟩, l, b⟩
noncomputable def msgR (l : List UInt8) (b : Bool) : Mt := partsR (kindR (numR l b).1) ((numR (numR l b).2.1 (numR l b).2.2).1 : Int) (numR (numR l b).2.1 (numR l b).2.2).2.1 (numR (numR l b).2.1 (numR l b).2.2).2.2
theorem tmsg_ev (l : List UInt8) (b : Bool) (hl : l.length ≤ 4611686018427387903) : Ev (fun k => msg_tmsg.f k (ba l) b) (msgR l b).tup := by
  have h1 := numR_len l b
  have h2 := numR_len (numR l b).2.1 (numR l b).2.2
  unfold msg_tmsg.f msgR
  refine Ev.bind (TNumber_ev l b (by omega)) (Ev.bind (TNumber_ev _ _ (by omega)) ?_)
  generalize hk : kindR (numR l b).1 = q
  have hk' : (if 6 < ((numR l b).1 : Int) then 6 else ((numR l b).1 : Int)) % 256 = q := hk
  generalize ht : numR (numR l b).2.1 (numR l b).2.2 = y at h2
  obtain ⟨t, m, b2⟩ := y
  dsimp only at h2 hk' ⊢
  rw [hk']
  have h3 := numR_len m b2
  have hx := TNumber_ev m b2 (by omega)
  unfold partsR
  refine Ev.ite (fun c => ?_) (fun c => Ev.ite (fun c2 => ?_) (fun c2 => Ev.ite (fun c3 => ?_) (fun c3 => Ev.ite (fun c4 => ?_) (fun c4 => Ev.ite (fun c5 => ?_) (fun c5 => ?_)))))
  · dsimp only
    rw [if_pos c]
    exact Ev.bind hx (Ev.bind (TNumber_ev _ _ (by omega)) (Ev.now _))
  · dsimp only
    rw [if_neg c, if_pos c2]
    exact Ev.bind hx (Ev.now _)
  · dsimp only
    rw [if_neg c, if_neg c2, if_pos c3]
    have h4 := numR_len (numR m b2).2.1 (numR m b2).2.2
    have h5 := numR_len (numR (numR m b2).2.1 (numR m b2).2.2).2.1 (numR (numR m b2).2.1 (numR m b2).2.2).2.2
    have e1 := TNumber_ev (numR m b2).2.1 (numR m b2).2.2 (by omega)
    have e2 := TNumber_ev (numR (numR m b2).2.1 (numR m b2).2.2).2.1 (numR (numR m b2).2.1 (numR m b2).2.2).2.2 (by omega)
    have e3 := many_ev (numR (numR (numR m b2).2.1 (numR m b2).2.2).2.1 (numR (numR m b2).2.1 (numR m b2).2.2).2.2).2.1 (numR (numR (numR m b2).2.1 (numR m b2).2.2).2.1 (numR (numR m b2).2.1 (numR m b2).2.2).2.2).2.2 (by omega)
    exact Ev.bind hx (Ev.bind e1 (Ev.bind e2 (Ev.bind e3 (Ev.now _))))
  · dsimp only
    rw [if_neg c, if_neg c2, if_neg c3, if_pos c4]
    exact Ev.bind hx (Ev.bind (TNumber_ev _ _ (by omega)) (Ev.now _))
  · dsimp only
    rw [if_neg c, if_neg c2, if_neg c3, if_neg c4, if_pos c5]
    have h4 := txtR_in m b2
    exact Ev.bind (TText_ev m b2 (by omega)) (Ev.bind (Decode_ev _ (by omega)) (Ev.now _))
  · dsimp only
    rw [if_neg c, if_neg c2, if_neg c3, if_neg c4, if_neg c5]
    exact Ev.now _
end Go.Proofs.Ytcdibodjkdoknaa.Mg
