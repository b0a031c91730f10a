import Derived.Test.YtpigjmjbfpipnaaProg
import Derived.Shelf.Strings.BuilderK
namespace Go.Proofs.Ytpigjmjbfpipnaa.Bld
open Go.Shelf Go.RowKit
set_option linter.unusedVariables false
def ren : Ren := ⟨fun x => if x = 166 then 104 else if x = 169 then 105 else if x = 240 then 110 else if x = 276 then 114 else x, fun x => if x = 37 then 111 else if x = 70 then 123 else if x = 72 then 125 else if x = 75 then 127 else if x = 80 then 102 else if x = 127 then 134 else if x = 164 then 137 else x, fun x => x⟩
theorem lays166 : Lays.n166 Try.prog ren where
  mixed := by kernel_rfl
  f166 := by kernel_rfl
  f240 := by kernel_rfl
  f276 := by kernel_rfl
  t0 := Try.underlying0
  a0 := Try.isAgg0
  z0 := Try.sizeOf0
  v0 := Try.zeroValue0
  t3 := Try.underlying3
  a3 := Try.isAgg3
  z3 := Try.sizeOf3
  v3 := Try.zeroValue3
  t4 := Try.underlying4
  a4 := Try.isAgg4
  z4 := Try.sizeOf4
  v4 := Try.zeroValue4
  t9 := Try.underlying9
  a9 := Try.isAgg9
  z9 := Try.sizeOf9
  v9 := Try.zeroValue9
  t20 := Try.underlying20
  a20 := Try.isAgg20
  z20 := Try.sizeOf20
  v20 := Try.zeroValue20
  t37 := Try.underlying111
  a37 := Try.isAgg111
  z37 := Try.sizeOf111
  v37 := Try.zeroValue111
  t70 := Try.underlying123
  a70 := Try.isAgg123
  z70 := Try.sizeOf123
  v70 := Try.zeroValue123
  t72 := Try.underlying125
  a72 := Try.isAgg125
  z72 := Try.sizeOf125
  v72 := Try.zeroValue125
  t75 := Try.underlying127
  a75 := Try.isAgg127
  z75 := Try.sizeOf127
  v75 := Try.zeroValue127
  t164 := Try.underlying137
  a164 := Try.isAgg137
  z164 := Try.sizeOf137
  v164 := Try.zeroValue137
theorem lays169 : Lays.n169 Try.prog ren where
  mixed := by kernel_rfl
  f169 := by kernel_rfl
  t0 := Try.underlying0
  a0 := Try.isAgg0
  z0 := Try.sizeOf0
  v0 := Try.zeroValue0
  t3 := Try.underlying3
  a3 := Try.isAgg3
  z3 := Try.sizeOf3
  v3 := Try.zeroValue3
  t9 := Try.underlying9
  a9 := Try.isAgg9
  z9 := Try.sizeOf9
  v9 := Try.zeroValue9
  t37 := Try.underlying111
  a37 := Try.isAgg111
  z37 := Try.sizeOf111
  v37 := Try.zeroValue111
  t70 := Try.underlying123
  a70 := Try.isAgg123
  z70 := Try.sizeOf123
  v70 := Try.zeroValue123
  t72 := Try.underlying125
  a72 := Try.isAgg125
  z72 := Try.sizeOf125
  v72 := Try.zeroValue125
  t127 := Try.underlying134
  a127 := Try.isAgg134
  z127 := Try.sizeOf134
  v127 := Try.zeroValue134
theorem extra : Builder.Extra Try.prog ren where
  sizeBuilder := by kernel_rfl
  liesBuilder := by kernel_rfl
  t5 := Try.underlying5
  a5 := Try.isAgg5
  z5 := Try.sizeOf5
  v5 := Try.zeroValue5
  infoByte := by kernel_rfl
  cellsByte := by kernel_rfl
  sizeByte := by kernel_rfl
  neB5 := by decide
def IsB (w : World) (B b : Nat) (s : ByteArray) : Prop := Lib.IsBuilderF 125 5 B b (Lib.byteCells s.data.toList) w
theorem IsB.fresh {w : World} {B b : Nat} (hB : B ≤ b) (h : w.heap[b]? = some (.cells #[.pointer none, .slice none 0 0] 125 (0, 0))) : IsB w B b ⟨#[]⟩ := .inl ⟨hB, .slice none 0 0, h, World.ownsRowF_nil _ _ _ _, by simp [Value.ownBlock]⟩
theorem at_below {T e : TypeId} {B b : Nat} {p : Value} {bs : List Value} {w w' : World} (h : Lib.BuilderAtF T e B b p bs w) (hb : Below w.heap.size w w') : Lib.BuilderAtF T e B b p bs w' := by
  have hlt := h.lt
  obtain ⟨hB, v, hv, ho, hne⟩ := h
  refine ⟨hB, v, (hb.block b hlt).trans hv, World.ownsRowF.kept (row := none) ho ⟨hb.os, hb.tape, hb.output, hb.size, fun k hk _ => hb.block k hk⟩ ?_, hne⟩
  exact Classical.em _
theorem IsB.below {w w' : World} {B b : Nat} {s : ByteArray} (h : IsB w B b s) (hb : Below w.heap.size w w') : IsB w' B b s := h.elim (fun x => .inl (at_below x hb)) (fun x => .inr (at_below x hb))
theorem write (B b : Nat) (s t : ByteArray) (w : World) (h : IsB w B b s) (hlen : s.size + t.size ≤ 140737488355328) (hB : B ≤ w.heap.size) :
    Calls Try.prog 104 #[.pointer (some ⟨b, 0, none⟩), .string t] w fun e w' => e = .returned (.tuple #[.int .i64 t.size, .nilIface]) ∧ IsB w' B b (s ++ t) ∧ Below B w w' := by
  refine (Any.Builder_WriteString_k lays166 extra B b _ t w h (by rw [Lib.byteCells_length, Array.length_toList]; exact hlen) hB).mono ?_
  rintro e w' ⟨he, h1, h2, _⟩
  refine ⟨he, ?_, h2⟩
  have e1 : Lib.byteCells (s ++ t).data.toList = Lib.byteCells s.data.toList ++ Lib.strCells t := by
    rw [Lib.strCells_eq, ← Lib.byteCells_append, ByteArray.data_append, Array.toList_append]
  exact .inr (by rw [e1]; exact h1)
theorem str (B b : Nat) (s : ByteArray) (w : World) (h : IsB w B b s) (hB : B ≤ w.heap.size) :
    Calls Try.prog 105 #[.pointer (some ⟨b, 0, none⟩)] w fun e w' => e = .returned (.string s) ∧ Below B w w' := by
  refine (Any.Builder_String_any_k lays169 extra B b s.data.toList w h hB).mono ?_
  rintro e w' ⟨he, _, h2, _⟩
  exact ⟨he, h2⟩
end Go.Proofs.Ytpigjmjbfpipnaa.Bld
