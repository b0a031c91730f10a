/- Bytes of right messages that are one come of messages that are one. No program beside the bytes. -/
import Derived.Test.YtcdibodjkdoknaaPMx2
import Derived.Test.YtcdibodjkdoknaaMgSamem
import Derived.Test.YtcdibodjkdoknaaPackLawm
namespace Go.Proofs.Ytcdibodjkdoknaa.Mg
open Go.RowKit Go.Proofs.YtcdibodjkdoknaaW.PrintWords Go.Proofs.YtcdibodjkdoknaaW.PrintLast Go.Proofs.YtcdibodjkdoknaaW.PrintMore Go.Proofs.Ytcdibodjkdoknaa.PM Go.Proofs.Ytcdibodjkdoknaa.Ba Go.Proofs.Ytcdibodjkdoknaa.Sn
set_option linter.unusedVariables false
set_option linter.unusedSimpArgs false

theorem ent_u {e : S67} (h : EntIn e) : U64 e.f0 ∧ U64 e.f1 ∧ U64 e.f2 := ⟨h.1, h.2.1, h.2.2.1, by have := h.2.2.2; omega⟩
theorem nothing_true {si st : Int} {ms : List Int} {d : ByteArray} (h : msg_nothing.f si st ms d = some true) : si = 0 ∧ st = 0 ∧ ms = [] ∧ d.toList = [] := by
  unfold msg_nothing.f at h
  split at h
  · split at h
    · split at h
      · rename_i h1 h2 h3
        have h4 := Option.some.inj h
        refine ⟨h1, h2, List.eq_nil_of_length_eq_zero (by omega), ?_⟩
        simpa using h4
      · cases h
    · cases h
  · cases h
theorem whole_true {q t i lt c : Int} {ok : Bool} {l : List S67} {si st : Int} {ms : List Int} {d : ByteArray} (h : msg_whole.f q t i lt c ok l si st ms d = some true) : ∃ nn, msg_nothing.f si st ms d = some nn ∧ msg_whole.w q i lt c ok l nn = true := by
  unfold msg_whole.f at h
  obtain ⟨nn, h1, h2⟩ := Option.bind_eq_some_iff.1 h
  exact ⟨nn, h1, Option.some.inj h2⟩
structure Right (q t i lt c : Int) (ok : Bool) (l : List S67) (si st : Int) (ms : List Int) (d : ByteArray) : Prop where
  kind : 0 < q ∧ q < 6
  ut : U64 t
  ui : U64 i
  ult : U64 lt
  uc : U64 c
  usi : U64 si
  ust : U64 st
  ein : ∀ e ∈ l, EntIn e
  eok : ∀ e ∈ l, EntOk e
  few : l.length ≤ 8
  snap : q = 5 → snapOk si st ms d.toList
  whole : msg_whole.f q t i lt c ok l si st ms d = some true
theorem nil_of {l : List S67} (h : (l.length : Int) = 0) : l = [] := List.eq_nil_of_length_eq_zero (by omega)
end Go.Proofs.Ytcdibodjkdoknaa.Mg
