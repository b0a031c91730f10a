import Derived.Test.YtcdibodjkdoknaaPMx10
import Derived.Test.YtcdibodjkdoknaaPMx11
import Derived.Test.YtcdibodjkdoknaaPMx8
import Derived.Test.YtcdibodjkdoknaaPMx9
import Derived.Test.YtcdibodjkdoknaaPMx6
import Derived.Test.YtcdibodjkdoknaaPackNumm
import Derived.Test.YtcdibodjkdoknaaPackTakem
import Derived.Test.YtcdibodjkdoknaaSnIntsm
import Derived.Test.YtcdibodjkdoknaaSnCodem
import Derived.Test.YtcdibodjkdoknaaEnCodem
import Derived.Test.YtcdibodjkdoknaaMgRightm
import Derived.Test.YtcdibodjkdoknaaMgBytesm
import Derived.Test.YtcdibodjkdoknaaMgSamem
import Derived.Test.YtcdibodjkdoknaaMgEncm
import Derived.Test.YtcdibodjkdoknaaMgBackm
import Derived.Test.YtcdibodjkdoknaaRefCkm
namespace Go.Proofs.Ytcdibodjkdoknaa.Mg
open Go.RowKit YtcdibodjkdoknaaW.PrintWords YtcdibodjkdoknaaW.PrintLast YtcdibodjkdoknaaW.PrintMore Ytcdibodjkdoknaa.PM Ba Sn
set_option linter.unusedVariables false
set_option linter.unusedSimpArgs false

theorem rnum_ev {x : Int} (h : U64 x) : Ev (fun k => gafferref01_Number.f k x) (ba (numL x.toNat)) := by
  have h0 := h.1
  have h1 := h.2
  have e := RNumber_ev x.toNat (by omega)
  rwa [show ((x.toNat : Nat) : Int) = x by omega] at e
theorem rflag_ev (b : Bool) : Ev (fun k => gafferref13_flag.f k b) (ba (numL (flagI b).toNat)) := by
  unfold gafferref13_flag.f
  cases b
  · exact Ev.neg (by decide) (Ev.bind (RNumber_ev 0 (by decide)) (Ev.now _))
  · exact Ev.pos rfl (Ev.bind (RNumber_ev 1 (by decide)) (Ev.now _))
theorem numl_sz (n : Nat) : (numL n).length ≤ 9 := by rw [numL_length]; have := nl_le n; omega
theorem rentBytes_ev (e : S67) (hi : EntIn e) (h : EntOk e) : Ev (fun k => gafferref03_Bytes.f k e.f0 e.f1 e.f2 e.f3 e.f4) (ba (entL e)) := by
  obtain ⟨u0, u1, c0, c1⟩ := hi
  have hw : IntKind.u64.wrap e.f2 = e.f2 := by show e.f2 % 18446744073709551616 = e.f2; omega
  have n0 := numl_sz e.f0.toNat; have n1 := numl_sz e.f1.toNat; have n2 := numl_sz e.f2.toNat
  have ht := textL_len e.f3.toList; have hs := list_size e.f3; have hz := ok_sz h; have hn := intsL_len e.f4 (ok_few h).2
  have hT := RText_ev e.f3.toList (by omega)
  rw [ba_toList] at hT
  unfold gafferref03_Bytes.f
  rw [hw]
  refine Ev.bind (rnum_ev u0) (Ev.bind (rnum_ev u1) (Ev.pos (by rw [ba_size, ba_size]; omega) (Ev.bind (rnum_ev ⟨c0, by omega⟩) (Ev.pos (by rw [ba_append, ba_size, ba_size, List.length_append]; omega) (Ev.bind hT (Ev.pos (by rw [ba_append, ba_append, ba_size, ba_size, List.length_append, List.length_append]; omega) (Ev.bind (RInts_ev e.f4 (ok_few h).1 (by have := (ok_few h).2; omega)) (Ev.pos (by rw [ba_append, ba_append, ba_append, ba_size, ba_size, List.length_append, List.length_append, List.length_append]; omega) ?_))))))))
  unfold entL
  rw [ba_append, ba_append, ba_append, ba_append, List.append_assoc, List.append_assoc, List.append_assoc]
  exact Ev.now _
theorem rents_l0 (l : List S67) (hl : l.length ≤ 8) (hin : ∀ e ∈ l, EntIn e) (hok : ∀ e ∈ l, EntOk e) : ∀ (m j : Nat) (s : List UInt8), j + m = l.length → s.length + 4213 * m ≤ 1000000 → Ev (fun k => gafferref13_Bytes.l0 k (ba s) l (l.length : Int) (j : Int)) (ba (s ++ entsL (l.drop j)))
  | 0, j, s, hj, _ => by
    rw [List.drop_eq_nil_of_le (by omega), entsL, List.append_nil]
    refine Ev.step (fun k => rfl) ?_
    simp only [gafferref13_Bytes.l0]
    exact Ev.neg (by omega) (Ev.now _)
  | m + 1, j, s, hj, hs => by
    have hlt : j < l.length := by omega
    have hr := rd67_at hlt
    have hw : wrap64 ((j : Int) + 1) = ((j + 1 : Nat) : Int) := by unfold wrap64; omega
    have hm := List.getElem_mem hlt
    have hB := rentBytes_ev l[j] (hin _ hm) (hok _ hm)
    have h1 := entL_len l[j] (hok _ hm)
    have h2 := textL_len (entL l[j])
    have ih := rents_l0 l hl hin hok m (j + 1) (s ++ textL (entL l[j])) (by omega) (by rw [List.length_append]; omega)
    rw [List.drop_eq_getElem_cons hlt, entsL, ← List.append_assoc]
    rw [← hr] at hB
    refine Ev.step (fun k => rfl) ?_
    simp only [gafferref13_Bytes.l0]
    rw [hw]
    refine Ev.pos (by omega) (Ev.pos (by omega) (Ev.pos (by omega) (Ev.bind hB ?_)))
    rw [hr]
    refine Ev.bind (RText_ev (entL l[j]) (by omega)) (Ev.pos (by rw [ba_size, ba_size]; omega) ?_)
    rw [ba_append]
    exact ih
theorem rbytes_ev {q t i lt c : Int} {ok : Bool} {l : List S67} {si st : Int} {ms : List Int} {d : ByteArray} (R : Right q t i lt c ok l si st ms d) : Ev (fun k => gafferref13_Bytes.f k q t i lt c ok l si st ms d) (ba (msgL q t i lt c ok l si st ms d)) := by
  have hk := R.kind
  have h8 := R.few
  have hw : IntKind.u64.wrap q = q := by show q % 18446744073709551616 = q; omega
  have hL : IntKind.u64.wrap (l.length : Int) = (l.length : Int) := by show (l.length : Int) % 18446744073709551616 = (l.length : Int); omega
  have uL : U64 (l.length : Int) := ⟨by omega, by omega⟩
  have nq := numl_sz q.toNat; have nt := numl_sz t.toNat; have ni := numl_sz i.toNat; have nl := numl_sz lt.toNat; have nc := numl_sz c.toNat; have nL := numl_sz (l.length : Int).toNat; have nf := numl_sz (flagI ok).toNat
  unfold gafferref13_Bytes.f
  rw [hw, hL]
  refine Ev.bind (rnum_ev ⟨by omega, by omega⟩) (Ev.bind (rnum_ev R.ut) (Ev.pos (by rw [ba_size, ba_size]; omega) ?_))
  rw [ba_append]
  have h0 : (numL q.toNat ++ numL t.toNat).length ≤ 18 := by rw [List.length_append]; omega
  have e0 : numsU [q, t] = numL q.toNat ++ numL t.toNat := by simp [numsU]
  unfold msgL tailL
  rw [e0]
  generalize numL q.toNat ++ numL t.toNat = H at *
  by_cases c1 : q = 1
  · rw [if_pos c1]
    refine Ev.pos c1 (Ev.bind (rnum_ev R.ui) (Ev.bind (rnum_ev R.ult) (Ev.pos (by rw [ba_size, ba_size]; omega) (Ev.pos (by rw [ba_append, ba_size, ba_size, List.length_append]; omega) ?_))))
    rw [ba_append, ba_append, show numsU [i, lt] = numL i.toNat ++ numL lt.toNat by simp [numsU]]
    exact Ev.now _
  rw [if_neg c1]
  refine Ev.neg c1 ?_
  by_cases c2 : q = 2
  · rw [if_pos c2]
    refine Ev.pos c2 (Ev.bind (rflag_ev ok) (Ev.pos (by rw [ba_size, ba_size]; omega) ?_))
    rw [ba_append, show numsU [flagI ok] = numL (flagI ok).toNat by simp [numsU]]
    exact Ev.now _
  rw [if_neg c2]
  refine Ev.neg c2 ?_
  by_cases c3 : q = 3
  · rw [if_pos c3]
    refine Ev.pos c3 (Ev.bind (rnum_ev R.ui) (Ev.bind (rnum_ev R.ult) (Ev.pos (by rw [ba_size, ba_size]; omega) (Ev.bind (rnum_ev R.uc) (Ev.pos (by rw [ba_append, ba_size, ba_size, List.length_append]; omega) (Ev.bind (rnum_ev uL) (Ev.pos (by rw [ba_append, ba_append, ba_size, ba_size, List.length_append, List.length_append]; omega) (Ev.pos (by rw [ba_append, ba_append, ba_append, ba_size, ba_size, List.length_append, List.length_append, List.length_append]; omega) ?_))))))))
    rw [ba_append, ba_append, ba_append, ba_append, show numsU [i, lt, c, (l.length : Int)] = ((numL i.toNat ++ numL lt.toNat) ++ numL c.toNat) ++ numL (l.length : Int).toNat by simp [numsU, List.append_assoc], ← List.append_assoc H _ (entsL l)]
    refine rents_l0 l h8 R.ein R.eok l.length 0 _ (by omega) ?_
    rw [List.length_append, List.length_append, List.length_append, List.length_append]
    omega
  rw [if_neg c3]
  refine Ev.neg c3 ?_
  by_cases c4 : q = 4
  · rw [if_pos c4]
    refine Ev.pos c4 (Ev.bind (rflag_ev ok) (Ev.bind (rnum_ev R.ui) (Ev.pos (by rw [ba_size, ba_size]; omega) (Ev.pos (by rw [ba_append, ba_size, ba_size, List.length_append]; omega) ?_))))
    rw [ba_append, ba_append, show numsU [flagI ok, i] = numL (flagI ok).toNat ++ numL i.toNat by simp [numsU]]
    exact Ev.now _
  rw [if_neg c4]
  refine Ev.neg c4 ?_
  have c5 : q = 5 := by omega
  rw [if_pos c5]
  have hS := R.snap c5
  have e1 := toNat_id R.usi
  have e2 := toNat_id R.ust
  have s1 := R.usi; have s2 := R.ust
  have hB := RBytes_ev si.toNat st.toNat ms d.toList (by have := s1.2; have := s1.1; omega) (by have := s2.2; have := s2.1; omega) (by rw [e1, e2]; exact hS)
  rw [e1, e2, ba_toList] at hB
  have hl2 := snapL_len si.toNat st.toNat ms d.toList (ok_mem hS).2.1
  have hl3 := (ok_mem hS).2.2
  have hl4 := textL_len (snapL si.toNat st.toNat ms d.toList)
  refine Ev.bind hB (Ev.bind (RText_ev _ (by omega)) (Ev.pos (by rw [ba_size, ba_size]; omega) ?_))
  rw [ba_append]
  exact Ev.now _
end Go.Proofs.Ytcdibodjkdoknaa.Mg
