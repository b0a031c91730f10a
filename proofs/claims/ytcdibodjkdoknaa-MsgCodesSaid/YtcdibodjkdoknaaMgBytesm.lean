import Derived.Test.YtcdibodjkdoknaaPMx5
import Derived.Test.YtcdibodjkdoknaaPMx6
import Derived.Test.YtcdibodjkdoknaaPMx1
import Derived.Test.YtcdibodjkdoknaaSnIntsm
import Derived.Test.YtcdibodjkdoknaaMgRightm
namespace Go.Proofs.Ytcdibodjkdoknaa.Mg
open Go.RowKit YtcdibodjkdoknaaW.PrintWords YtcdibodjkdoknaaW.PrintLast YtcdibodjkdoknaaW.PrintMore Ytcdibodjkdoknaa.PM Ba Sn
set_option linter.unusedVariables false

theorem num_ev (x : Int) (h0 : 0 ≤ x) (h1 : x < 18446744073709551616) : Ev (fun k => pack_Number.f k x) (ba (numL x.toNat)) := by
  have h := Number_ev x.toNat (by omega)
  rwa [show ((x.toNat : Nat) : Int) = x by omega] at h
theorem text_ev (d : ByteArray) (h : d.size ≤ 140737488351232) : Ev (fun k => pack_Text.f k d) (ba (textL d.toList)) := by
  obtain ⟨l, rfl, hl⟩ := exists_ba d
  rw [ba_list]
  exact Text_ev l (by rw [ba_size] at h; exact h)
def entL (e : S67) : List UInt8 := numL e.f0.toNat ++ (numL e.f1.toNat ++ (numL e.f2.toNat ++ (textL e.f3.toList ++ intsL e.f4)))
theorem list_size (d : ByteArray) : d.toList.length = d.size := by
  obtain ⟨l, rfl, hl⟩ := exists_ba d
  rw [ba_list, ba_size]
theorem entL_len (e : S67) (h : EntOk e) : (entL e).length ≤ 4204 := by
  unfold entL
  rw [List.length_append, List.length_append, List.length_append, List.length_append, numL_length, numL_length, numL_length]
  have := textL_len e.f3.toList; have := list_size e.f3; have := intsL_len e.f4 (ok_few h).2; have := nl_le e.f0.toNat; have := nl_le e.f1.toNat; have := nl_le e.f2.toNat; have := ok_sz h
  omega
def EntIn (e : S67) : Prop := (0 ≤ e.f0 ∧ e.f0 < 18446744073709551616) ∧ (0 ≤ e.f1 ∧ e.f1 < 18446744073709551616) ∧ (0 ≤ e.f2 ∧ e.f2 < 256)
theorem walBytes_ev (e : S67) (hi : EntIn e) (h : EntOk e) : Ev (fun k => wal_Bytes.f k e.f0 e.f1 e.f2 e.f3 e.f4) (ba (entL e)) := by
  obtain ⟨⟨a0, a1⟩, ⟨b0, b1⟩, ⟨c0, c1⟩⟩ := hi
  have hw : IntKind.u64.wrap e.f2 = e.f2 := by show e.f2 % 18446744073709551616 = e.f2; omega
  have hl := entL_len e h
  unfold entL at hl
  rw [List.length_append, List.length_append, List.length_append, List.length_append] at hl
  unfold wal_Bytes.f
  rw [hw]
  refine Ev.bind (num_ev _ a0 a1) (Ev.bind (num_ev _ b0 b1) (Ev.bind (num_ev _ c0 (by omega)) (Ev.bind (text_ev _ (by have := ok_sz h; omega)) (Ev.bind (Ints_ev _ (ok_few h).1 (by have := (ok_few h).2; omega)) (Ev.pos (by rw [ba_size, ba_size, ba_size, ba_size, ba_size]; omega) ?_)))))
  rw [ba_append, ba_append, ba_append, ba_append, List.append_assoc, List.append_assoc, List.append_assoc]
  exact Ev.now _
def numsU : List Int → List UInt8
  | [] => []
  | x :: r => numL x.toNat ++ numsU r
theorem numsU_len : ∀ l : List Int, (numsU l).length ≤ 9 * l.length
  | [] => by simp [numsU]
  | x :: r => by
    rw [numsU, List.length_append, numL_length, List.length_cons]
    have := numsU_len r; have := nl_le x.toNat
    omega
theorem nums_ev : ∀ (l : List Int) (s : List UInt8), (∀ x ∈ l, 0 ≤ x ∧ x < 18446744073709551616) → s.length + 9 * l.length ≤ 140737488355328 → Ev (fun k => msg_bytes.nums k (ba s) l) (ba (s ++ numsU l))
  | [], s, h, hl => by
    rw [numsU, List.append_nil]
    exact Ev.now _
  | x :: r, s, h, hl => by
    have hx := h x (List.mem_cons_self ..)
    have hn := nl_le x.toNat
    rw [List.length_cons] at hl
    have ih := nums_ev r (s ++ numL x.toNat) (fun y hy => h y (List.mem_cons_of_mem _ hy)) (by rw [List.length_append, numL_length]; omega)
    simp only [msg_bytes.nums]
    refine Ev.bind (num_ev x hx.1 hx.2) (Ev.pos (by rw [ba_size, ba_size, numL_length]; omega) ?_)
    rw [ba_append, numsU, ← List.append_assoc]
    exact ih
theorem txt_ev (s : List UInt8) (t : List UInt8) (hs : s.length ≤ 1000000) (ht : t.length ≤ 1000000) : Ev (fun k => msg_bytes.txts k (ba s) [ba t]) (ba (s ++ textL t)) := by
  have := textL_len t
  simp only [msg_bytes.txts]
  refine Ev.bind (Text_ev t (by omega)) (Ev.pos (by rw [ba_size, ba_size]; omega) ?_)
  rw [ba_append]
  exact Ev.now _
def entsL : List S67 → List UInt8
  | [] => []
  | e :: r => textL (entL e) ++ entsL r
theorem entsL_len : ∀ l : List S67, (∀ e ∈ l, EntOk e) → (entsL l).length ≤ 4213 * l.length
  | [], h => by simp [entsL]
  | e :: r, h => by
    rw [entsL, List.length_append, List.length_cons]
    have := entsL_len r (fun y hy => h y (List.mem_cons_of_mem _ hy)); have := textL_len (entL e); have := entL_len e (h e (List.mem_cons_self ..))
    omega
theorem ents_ev : ∀ (l : List S67) (s : List UInt8), (∀ e ∈ l, EntIn e) → (∀ e ∈ l, EntOk e) → s.length + 4213 * l.length ≤ 1000000 → Ev (fun k => msg_bytes.ents k (ba s) l) (ba (s ++ entsL l))
  | [], s, h, h2, hl => by
    rw [entsL, List.append_nil]
    exact Ev.now _
  | e :: r, s, h, h2, hl => by
    rw [List.length_cons] at hl
    have he := entL_len e (h2 e (List.mem_cons_self ..)); have ht := textL_len (entL e)
    have ih := ents_ev r (s ++ textL (entL e)) (fun y hy => h y (List.mem_cons_of_mem _ hy)) (fun y hy => h2 y (List.mem_cons_of_mem _ hy)) (by rw [List.length_append]; omega)
    simp only [msg_bytes.ents]
    refine Ev.bind (walBytes_ev e (h e (List.mem_cons_self ..)) (h2 e (List.mem_cons_self ..))) (Ev.bind (txt_ev s (entL e) (by omega) (by omega)) ?_)
    rw [entsL, ← List.append_assoc]
    exact ih
def flagI (b : Bool) : Int := if b = true then 1 else 0
theorem flag_is (b : Bool) : msg_flag.f b = some (flagI b) := by cases b <;> rfl
theorem flagI_in (b : Bool) : 0 ≤ flagI b ∧ flagI b < 18446744073709551616 := by cases b <;> decide
noncomputable def tailL (q i lt c : Int) (ok : Bool) (l : List S67) (si st : Int) (ms : List Int) (d : ByteArray) : List UInt8 :=
  if q = 1 then numsU [i, lt] else if q = 2 then numsU [flagI ok] else if q = 3 then numsU [i, lt, c, (l.length : Int)] ++ entsL l else if q = 4 then numsU [flagI ok, i] else if q = 5 then textL (snapL si.toNat st.toNat ms d.toList) else []
noncomputable def msgL (q t i lt c : Int) (ok : Bool) (l : List S67) (si st : Int) (ms : List Int) (d : ByteArray) : List UInt8 := numsU [q, t] ++ tailL q i lt c ok l si st ms d
def U64 (x : Int) : Prop := 0 ≤ x ∧ x < 18446744073709551616
theorem two_in {x y : Int} (hx : U64 x) (hy : U64 y) : ∀ z ∈ [x, y], 0 ≤ z ∧ z < 18446744073709551616 := by
  intro z hz
  simp only [List.mem_cons, List.not_mem_nil, or_false] at hz
  rcases hz with rfl | rfl
  · exact hx
  · exact hy
theorem one_in {x : Int} (hx : U64 x) : ∀ z ∈ [x], 0 ≤ z ∧ z < 18446744073709551616 := by
  intro z hz
  simp only [List.mem_cons, List.not_mem_nil, or_false] at hz
  rw [hz]
  exact hx
theorem four_in {x y u v : Int} (hx : U64 x) (hy : U64 y) (hu : U64 u) (hv : U64 v) : ∀ z ∈ [x, y, u, v], 0 ≤ z ∧ z < 18446744073709551616 := by
  intro z hz
  simp only [List.mem_cons, List.not_mem_nil, or_false] at hz
  rcases hz with rfl | rfl | rfl | rfl
  · exact hx
  · exact hy
  · exact hu
  · exact hv
theorem ba_toList (d : ByteArray) : ba d.toList = d := by
  obtain ⟨l, rfl, _⟩ := exists_ba d
  rw [ba_list]
theorem bytes_ev (q t i lt c : Int) (ok : Bool) (l : List S67) (si st : Int) (ms : List Int) (d : ByteArray) (hq : 0 < q ∧ q < 6) (ht : U64 t) (hi : U64 i) (hlt : U64 lt) (hc : U64 c) (hsi : U64 si) (hst : U64 st)
    (hin : ∀ e ∈ l, EntIn e) (hok : ∀ e ∈ l, EntOk e) (h8 : l.length ≤ 8) (h5 : q = 5 → snapOk si st ms d.toList) :
    Ev (fun k => msg_bytes.f k q t i lt c ok l si st ms d) (ba (msgL q t i lt c ok l si st ms d)) ∧ (msgL q t i lt c ok l si st ms d).length ≤ 65536 := by
  have hw : IntKind.u64.wrap q = q := by show q % 18446744073709551616 = q; omega
  have hL : IntKind.u64.wrap (l.length : Int) = (l.length : Int) := by show (l.length : Int) % 18446744073709551616 = (l.length : Int); omega
  have h0 : Ev (fun k => msg_bytes.nums k ⟨#[]⟩ [q, t]) (ba (numsU [q, t])) := by
    have h := nums_ev [q, t] [] (two_in ⟨by omega, by omega⟩ ht) (by show 0 + 9 * 2 ≤ _; omega)
    rwa [List.nil_append] at h
  have hs : (numsU [q, t]).length ≤ 18 := numsU_len [q, t]
  have hp : (numsU [q, t]).length ≠ 0 := by rw [numsU, List.length_append, numL_length]; omega
  have hf : U64 (flagI ok) := flagI_in ok
  constructor
  · unfold msg_bytes.f
    rw [hw, hL, flag_is]
    refine Ev.bind h0 (Ev.neg (by rw [ba_size]; exact hp) ?_)
    unfold msgL tailL
    by_cases c1 : q = 1
    · rw [if_pos c1]
      exact Ev.pos c1 (nums_ev _ _ (two_in hi hlt) (by show _ + 9 * 2 ≤ _; omega))
    rw [if_neg c1]
    refine Ev.neg c1 ?_
    by_cases c2 : q = 2
    · rw [if_pos c2]
      exact Ev.pos c2 (Ev.bind (Ev.now _) (nums_ev _ _ (one_in hf) (by show _ + 9 * 1 ≤ _; omega)))
    rw [if_neg c2]
    refine Ev.neg c2 ?_
    by_cases c3 : q = 3
    · rw [if_pos c3, ← List.append_assoc]
      have h4 : (numsU [i, lt, c, (l.length : Int)]).length ≤ 36 := numsU_len [i, lt, c, (l.length : Int)]
      exact Ev.pos c3 (Ev.pos (by omega) (Ev.bind (nums_ev _ _ (four_in hi hlt hc ⟨by omega, by omega⟩) (by show _ + 9 * 4 ≤ _; omega)) (ents_ev l _ hin hok (by rw [List.length_append]; omega))))
    rw [if_neg c3]
    refine Ev.neg c3 ?_
    by_cases c4 : q = 4
    · rw [if_pos c4]
      exact Ev.pos c4 (Ev.bind (Ev.now _) (nums_ev _ _ (two_in hf hi) (by show _ + 9 * 2 ≤ _; omega)))
    rw [if_neg c4]
    refine Ev.neg c4 ?_
    have c5 : q = 5 := by omega
    rw [if_pos c5]
    have hS := h5 c5
    have e1 : ((si.toNat : Nat) : Int) = si := by have := hsi.1; omega
    have e2 : ((st.toNat : Nat) : Int) = st := by have := hst.1; omega
    have hB := Bytes_ev si.toNat st.toNat ms d.toList (by have := hsi.2; have := hsi.1; omega) (by have := hst.2; have := hst.1; omega) (by rw [e1, e2]; exact hS)
    rw [e1, e2, ba_toList] at hB
    have hl2 := snapL_len si.toNat st.toNat ms d.toList (ok_mem hS).2.1
    have hl3 := (ok_mem hS).2.2
    exact Ev.pos c5 (Ev.bind hB (txt_ev _ _ (by omega) (by omega)))
  · unfold msgL tailL
    rw [List.length_append]
    by_cases c1 : q = 1
    · rw [if_pos c1]; have : (numsU [i, lt]).length ≤ 18 := numsU_len [i, lt]; omega
    rw [if_neg c1]
    by_cases c2 : q = 2
    · rw [if_pos c2]; have : (numsU [flagI ok]).length ≤ 9 := numsU_len [flagI ok]; omega
    rw [if_neg c2]
    by_cases c3 : q = 3
    · rw [if_pos c3, List.length_append]
      have : (numsU [i, lt, c, (l.length : Int)]).length ≤ 36 := numsU_len [i, lt, c, (l.length : Int)]
      have := entsL_len l hok
      omega
    rw [if_neg c3]
    by_cases c4 : q = 4
    · rw [if_pos c4]; have : (numsU [flagI ok, i]).length ≤ 18 := numsU_len [flagI ok, i]; omega
    rw [if_neg c4]
    have c5 : q = 5 := by omega
    rw [if_pos c5]
    have hS := h5 c5
    have hl2 := snapL_len si.toNat st.toNat ms d.toList (ok_mem hS).2.1
    have hl3 := (ok_mem hS).2.2
    have := textL_len (snapL si.toNat st.toNat ms d.toList)
    omega
end Go.Proofs.Ytcdibodjkdoknaa.Mg
