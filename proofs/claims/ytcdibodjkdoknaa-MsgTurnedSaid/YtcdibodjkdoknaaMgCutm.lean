/- Bytes of right messages that are one come of messages that are one. No program beside the bytes. -/
import Derived.Test.YtcdibodjkdoknaaPMx2
import Derived.Test.YtcdibodjkdoknaaMgSamem
import Derived.Test.YtcdibodjkdoknaaPackLawm
namespace Go.Proofs.Ytcdibodjkdoknaa.Mg
open Go.RowKit Go.Proofs.YtcdibodjkdoknaaW.PrintWords Go.Proofs.YtcdibodjkdoknaaW.PrintLast Go.Proofs.YtcdibodjkdoknaaW.PrintMore Go.Proofs.Ytcdibodjkdoknaa.PM Go.Proofs.Ytcdibodjkdoknaa.Ba Go.Proofs.Ytcdibodjkdoknaa.Sn
set_option linter.unusedVariables false
set_option linter.unusedSimpArgs false

theorem num_cut {x y : Int} {r s : List UInt8} (hx : U64 x) (hy : U64 y) (h : numL x.toNat ++ r = numL y.toNat ++ s) : x = y ∧ r = s := by
  have h1 := congrArg takeN h
  have hx1 := hx.1; have hx2 := hx.2; have hy1 := hy.1; have hy2 := hy.2
  rw [takeN_numL _ (by omega), takeN_numL _ (by omega)] at h1
  have h2 := congrArg Prod.fst h1
  have h3 := congrArg (fun z => z.2.1) h1
  dsimp only at h2 h3
  exact ⟨by omega, h3⟩
theorem text_cut {a b r s : List UInt8} (ha : a.length ≤ 65536) (hb : b.length ≤ 65536) (h : textL a ++ r = textL b ++ s) : a = b ∧ r = s := by
  have h1 := congrArg Ba.takeT h
  rw [takeT_textL a r ha, takeT_textL b s hb] at h1
  exact ⟨congrArg Prod.fst h1, congrArg (fun z => z.2.1) h1⟩
theorem ints_cut {a b : List Int} {r s : List UInt8} (ha : Few a) (hb : Few b) (h : intsL a ++ r = intsL b ++ s) : a = b ∧ r = s := by
  have h1 := congrArg takeI h
  rw [takeI_ints a r ha.1 ha.2, takeI_ints b s hb.1 hb.2] at h1
  have h2 := Option.some.inj h1
  exact ⟨congrArg Prod.fst h2, congrArg Prod.snd h2⟩
theorem ent_u {e : S67} (h : EntIn e) : U64 e.f0 ∧ U64 e.f1 ∧ U64 e.f2 := ⟨h.1, h.2.1, h.2.2.1, by have := h.2.2.2; omega⟩
theorem ent_cut {x y : S67} (ix : EntIn x) (iy : EntIn y) (hx : EntOk x) (hy : EntOk y) (h : entL x = entL y) : x = y := by
  obtain ⟨x0, x1, x2⟩ := ent_u ix
  obtain ⟨y0, y1, y2⟩ := ent_u iy
  unfold entL at h
  obtain ⟨e0, h⟩ := num_cut x0 y0 h
  obtain ⟨e1, h⟩ := num_cut x1 y1 h
  obtain ⟨e2, h⟩ := num_cut x2 y2 h
  obtain ⟨e3, h⟩ := text_cut (by rw [list_size]; have := ok_sz hx; omega) (by rw [list_size]; have := ok_sz hy; omega) h
  obtain ⟨e4, _⟩ := ints_cut (r := []) (s := []) (ok_few hx) (ok_few hy) (by rw [List.append_nil, List.append_nil]; exact h)
  have e3' := toList_inj e3
  clear e3
  obtain ⟨a0, a1, a2, a3, a4⟩ := x
  obtain ⟨b0, b1, b2, b3, b4⟩ := y
  dsimp only at e0 e1 e2 e3' e4
  subst e0 e1 e2 e3' e4
  rfl
theorem ents_cut : ∀ (l m : List S67), l.length = m.length → (∀ e ∈ l, EntIn e) → (∀ e ∈ m, EntIn e) → (∀ e ∈ l, EntOk e) → (∀ e ∈ m, EntOk e) → entsL l = entsL m → l = m
  | [], [], _, _, _, _, _, _ => rfl
  | [], _ :: _, h, _, _, _, _, _ => by simp at h
  | _ :: _, [], h, _, _, _, _, _ => by simp at h
  | x :: l, y :: m, h, i1, i2, o1, o2, hb => by
    rw [entsL, entsL] at hb
    have ox := o1 x (List.mem_cons_self ..); have oy := o2 y (List.mem_cons_self ..)
    obtain ⟨e, hb⟩ := text_cut (by have := entL_len x ox; omega) (by have := entL_len y oy; omega) hb
    rw [ent_cut (i1 x (List.mem_cons_self ..)) (i2 y (List.mem_cons_self ..)) ox oy e, ents_cut l m (by simpa using h) (fun z hz => i1 z (List.mem_cons_of_mem _ hz)) (fun z hz => i2 z (List.mem_cons_of_mem _ hz)) (fun z hz => o1 z (List.mem_cons_of_mem _ hz)) (fun z hz => o2 z (List.mem_cons_of_mem _ hz)) hb]
theorem snap_cut {i t i' t' : Int} {ms ms' : List Int} {d d' : ByteArray} (hi : U64 i) (ht : U64 t) (hi' : U64 i') (ht' : U64 t') (o : snapOk i t ms d.toList) (o' : snapOk i' t' ms' d'.toList)
    (h : snapL i.toNat t.toNat ms d.toList = snapL i'.toNat t'.toNat ms' d'.toList) : i = i' ∧ t = t' ∧ ms = ms' ∧ d = d' := by
  unfold snapL at h
  obtain ⟨e0, h⟩ := num_cut hi hi' h
  obtain ⟨e1, h⟩ := num_cut ht ht' h
  obtain ⟨a1, a2, a3⟩ := ok_mem o
  obtain ⟨b1, b2, b3⟩ := ok_mem o'
  obtain ⟨e2, h⟩ := ints_cut ⟨a1, a2⟩ ⟨b1, b2⟩ h
  obtain ⟨e3, _⟩ := text_cut (a := d.toList) (b := d'.toList) (r := []) (s := []) (by omega) (by omega) (by rw [List.append_nil, List.append_nil]; exact h)
  exact ⟨e0, e1, e2, toList_inj e3⟩
theorem frame_cut' {p q : List UInt8} (hp : p.length ≤ 65536) (hq : q.length ≤ 65536) (h : frameL p = frameL q) : p = q := by
  have h1 := takeF_frameL p [] hp
  rw [h, takeF_frameL q [] hq] at h1
  exact (congrArg Prod.fst h1).symm
theorem flag_cut {a b : Bool} (h : flagI a = flagI b) : a = b := by cases a <;> cases b <;> first | rfl | (exact absurd h (by decide))
theorem nothing_true {si st : Int} {ms : List Int} {d : ByteArray} (h : msg_nothing.f si st ms d = some true) : si = 0 ∧ st = 0 ∧ ms = [] ∧ d.toList = [] := by
  unfold msg_nothing.f at h
  split at h
  · split at h
    · split at h
      · rename_i h1 h2 h3
        have h4 := Option.some.inj h
        refine ⟨h1, h2, List.eq_nil_of_length_eq_zero (by omega), ?_⟩
        simpa using h4
      · cases h
    · cases h
  · cases h
theorem whole_true {q t i lt c : Int} {ok : Bool} {l : List S67} {si st : Int} {ms : List Int} {d : ByteArray} (h : msg_whole.f q t i lt c ok l si st ms d = some true) : ∃ nn, msg_nothing.f si st ms d = some nn ∧ msg_whole.w q i lt c ok l nn = true := by
  unfold msg_whole.f at h
  obtain ⟨nn, h1, h2⟩ := Option.bind_eq_some_iff.1 h
  exact ⟨nn, h1, Option.some.inj h2⟩
structure Right (q t i lt c : Int) (ok : Bool) (l : List S67) (si st : Int) (ms : List Int) (d : ByteArray) : Prop where
  kind : 0 < q ∧ q < 6
  ut : U64 t
  ui : U64 i
  ult : U64 lt
  uc : U64 c
  usi : U64 si
  ust : U64 st
  ein : ∀ e ∈ l, EntIn e
  eok : ∀ e ∈ l, EntOk e
  few : l.length ≤ 8
  snap : q = 5 → snapOk si st ms d.toList
  whole : msg_whole.f q t i lt c ok l si st ms d = some true
theorem nil_of {l : List S67} (h : (l.length : Int) = 0) : l = [] := List.eq_nil_of_length_eq_zero (by omega)
theorem nothing_same {si st si' st' : Int} {ms ms' : List Int} {d d' : ByteArray} (h : msg_nothing.f si st ms d = some true) (h' : msg_nothing.f si' st' ms' d' = some true) : si = si' ∧ st = st' ∧ d = d' ∧ ms = ms' := by
  obtain ⟨a, b, c, e⟩ := nothing_true h
  obtain ⟨a', b', c', e'⟩ := nothing_true h'
  exact ⟨a.trans a'.symm, b.trans b'.symm, toList_inj (e.trans e'.symm), c.trans c'.symm⟩
theorem msg_cut {q t i lt c : Int} {ok : Bool} {l : List S67} {si st : Int} {ms : List Int} {d : ByteArray} {q' t' i' lt' c' : Int} {ok' : Bool} {l' : List S67} {si' st' : Int} {ms' : List Int} {d' : ByteArray}
    (h : Right q t i lt c ok l si st ms d) (h' : Right q' t' i' lt' c' ok' l' si' st' ms' d') (e : msgL q t i lt c ok l si st ms d = msgL q' t' i' lt' c' ok' l' si' st' ms' d') :
    q = q' ∧ t = t' ∧ i = i' ∧ lt = lt' ∧ c = c' ∧ ok = ok' ∧ l = l' ∧ si = si' ∧ st = st' ∧ d = d' ∧ ms = ms' := by
  unfold msgL at e
  simp only [numsU, List.append_assoc, List.nil_append] at e
  have hk := h.kind; have hk' := h'.kind
  obtain ⟨eq, ea⟩ := num_cut ⟨by omega, by omega⟩ ⟨by omega, by omega⟩ e
  obtain ⟨et, eb⟩ := num_cut h.ut h'.ut ea
  clear e ea
  subst eq et
  have e := eb
  clear eb
  obtain ⟨nn, hn, hw⟩ := whole_true h.whole
  obtain ⟨nn', hn', hw'⟩ := whole_true h'.whole
  have hf : U64 (flagI ok) := flagI_in ok
  have hf' : U64 (flagI ok') := flagI_in ok'
  unfold tailL at e
  unfold msg_whole.w at hw hw'
  by_cases c1 : q = 1
  · simp only [if_pos c1, Bool.and_eq_true, beq_iff_eq, Bool.not_eq_true'] at e hw hw'
    obtain ⟨⟨⟨w1, w2⟩, w3⟩, rfl⟩ := hw
    obtain ⟨⟨⟨v1, v2⟩, v3⟩, rfl⟩ := hw'
    simp only [numsU] at e
    obtain ⟨e1, e⟩ := num_cut h.ui h'.ui e
    obtain ⟨e2, _⟩ := num_cut h.ult h'.ult e
    exact ⟨rfl, rfl, e1, e2, w1.trans v1.symm, w2.trans v2.symm, (nil_of w3).trans (nil_of v3).symm, nothing_same hn hn'⟩
  simp only [if_neg c1] at e hw hw'
  by_cases c2 : q = 2
  · simp only [if_pos c2, Bool.and_eq_true, beq_iff_eq, Bool.not_eq_true'] at e hw hw'
    obtain ⟨⟨⟨⟨w0, w1⟩, w2⟩, w3⟩, rfl⟩ := hw
    obtain ⟨⟨⟨⟨v0, v1⟩, v2⟩, v3⟩, rfl⟩ := hw'
    simp only [numsU] at e
    obtain ⟨e1, _⟩ := num_cut hf hf' e
    exact ⟨rfl, rfl, w0.trans v0.symm, w1.trans v1.symm, w2.trans v2.symm, flag_cut e1, (nil_of w3).trans (nil_of v3).symm, nothing_same hn hn'⟩
  simp only [if_neg c2] at e hw hw'
  by_cases c3 : q = 3
  · simp only [if_pos c3, Bool.and_eq_true, beq_iff_eq, Bool.not_eq_true'] at e hw hw'
    obtain ⟨w1, rfl⟩ := hw
    obtain ⟨v1, rfl⟩ := hw'
    have l8 := h.few; have l8' := h'.few
    simp only [numsU, List.append_assoc, List.nil_append] at e
    obtain ⟨e1, e⟩ := num_cut h.ui h'.ui e
    obtain ⟨e2, e⟩ := num_cut h.ult h'.ult e
    obtain ⟨e3, e⟩ := num_cut h.uc h'.uc e
    obtain ⟨e4, e⟩ := num_cut ⟨by omega, by omega⟩ ⟨by omega, by omega⟩ e
    exact ⟨rfl, rfl, e1, e2, e3, w1.trans v1.symm, ents_cut l l' (by omega) h.ein h'.ein h.eok h'.eok e, nothing_same hn hn'⟩
  simp only [if_neg c3] at e hw hw'
  by_cases c4 : q = 4
  · simp only [if_pos c4, Bool.and_eq_true, beq_iff_eq, Bool.not_eq_true'] at e hw hw'
    obtain ⟨⟨⟨w1, w2⟩, w3⟩, rfl⟩ := hw
    obtain ⟨⟨⟨v1, v2⟩, v3⟩, rfl⟩ := hw'
    simp only [numsU] at e
    obtain ⟨e1, e⟩ := num_cut hf hf' e
    obtain ⟨e2, _⟩ := num_cut h.ui h'.ui e
    exact ⟨rfl, rfl, e2, w1.trans v1.symm, w2.trans v2.symm, flag_cut e1, (nil_of w3).trans (nil_of v3).symm, nothing_same hn hn'⟩
  have c5 : q = 5 := by omega
  simp only [if_neg c4, if_pos c5, Bool.and_eq_true, beq_iff_eq, Bool.not_eq_true'] at e hw hw'
  obtain ⟨⟨⟨⟨w0, w1⟩, w2⟩, w4⟩, w3⟩ := hw
  obtain ⟨⟨⟨⟨v0, v1⟩, v2⟩, v4⟩, v3⟩ := hw'
  have hS := h.snap c5; have hS' := h'.snap c5
  have s1 := snapL_len si.toNat st.toNat ms d.toList (ok_mem hS).2.1; have s2 := (ok_mem hS).2.2
  have s3 := snapL_len si'.toNat st'.toNat ms' d'.toList (ok_mem hS').2.1; have s4 := (ok_mem hS').2.2
  obtain ⟨e1, _⟩ := text_cut (r := []) (s := []) (a := snapL si.toNat st.toNat ms d.toList) (b := snapL si'.toNat st'.toNat ms' d'.toList) (by omega) (by omega) (by rw [List.append_nil, List.append_nil]; exact e)
  obtain ⟨f1, f2, f3, f4⟩ := snap_cut h.usi h.ust h'.usi h'.ust hS hS' e1
  exact ⟨rfl, rfl, w0.trans v0.symm, w1.trans v1.symm, w2.trans v2.symm, w4.trans v4.symm, (nil_of w3).trans (nil_of v3).symm, f1, f2, f4, f3⟩
end Go.Proofs.Ytcdibodjkdoknaa.Mg
