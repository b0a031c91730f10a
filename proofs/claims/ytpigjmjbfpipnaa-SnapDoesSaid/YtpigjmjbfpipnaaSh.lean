import Derived.Test.YtpigjmjbfpipnaaWAll
import Derived.WalkKit
namespace Go.Proofs.Ytpigjmjbfpipnaa.Sh
open Go.RowKit YtpigjmjbfpipnaaW.PrintWords YtpigjmjbfpipnaaW.PrintLast YtpigjmjbfpipnaaW.PrintMore

theorem binOp_string_geq_ (t : TypeId) (a b : ByteArray) : binOp .geq t (.string a) (.string b) = pure (.bool !(Op.bytesLess a.toList b.toList)) := by simp [binOp, Op.stringOp]
theorem bytes_total : ∀ a b : List UInt8, (Op.bytesLess a b || a == b) = !(Op.bytesLess b a)
  | [], [] => rfl
  | [], y :: b => by simp [Op.bytesLess]
  | x :: a, [] => by simp [Op.bytesLess]
  | x :: a, y :: b => by
    have ih := bytes_total a b
    rw [Bool.eq_iff_iff] at ih ⊢
    simp only [Op.bytesLess, Bool.or_eq_true, Bool.and_eq_true, Bool.not_eq_true', beq_iff_eq, decide_eq_true_eq, Bool.or_eq_false_iff, Bool.and_eq_false_iff, decide_eq_false_iff_not, List.cons.injEq, beq_eq_false_iff_ne, ne_eq, UInt8.lt_iff_toNat_lt] at ih ⊢
    have hxy : x = y ↔ x.toNat = y.toNat := ⟨fun h => by rw [h], fun h => UInt8.toNat_inj.mp h⟩
    have hyx : y = x ↔ y.toNat = x.toNat := ⟨fun h => by rw [h], fun h => UInt8.toNat_inj.mp h⟩
    rw [hxy, hyx]
    constructor
    · rintro ((h | ⟨h, h2⟩) | ⟨h, h2⟩)
      · exact ⟨by omega, .inl (by omega)⟩
      · exact ⟨by omega, .inr (ih.1 (.inl h2))⟩
      · exact ⟨by omega, .inr (ih.1 (.inr h2))⟩
    · rintro ⟨h, h2⟩
      rcases Nat.lt_trichotomy x.toNat y.toNat with h3 | h3 | h3
      · exact .inl (.inl h3)
      · rcases h2 with h2 | h2
        · omega
        · rcases ih.2 h2 with h4 | h4
          · exact .inl (.inr ⟨h3, h4⟩)
          · exact .inr ⟨h3, h4⟩
      · omega
theorem binOp_string_leq_ (t : TypeId) (a b : ByteArray) : binOp .leq t (.string a) (.string b) = pure (.bool !(Op.bytesLess b.toList a.toList)) := by
  rw [← bytes_total]; simp [binOp, Op.stringOp]
theorem binOp_string_gtr_ (t : TypeId) (a b : ByteArray) : binOp .gtr t (.string a) (.string b) = pure (.bool (Op.bytesLess b.toList a.toList)) := by
  have h := congrArg (fun z => !z) (bytes_total a.toList b.toList)
  simp only [Bool.not_not] at h
  rw [← h]; simp [binOp, Op.stringOp]
attribute [go_sem] binOp_string_geq_ binOp_string_leq_ binOp_string_gtr_

theorem bk_ {p q : Prop} (h : Aside0 p) (k : p → q := by intro h_; (with_reducible repeat (first | refine blk_drewN ?_ _ | refine blk_drew ?_ | refine blk_alloc ?_ _)); exact h_) : q := k h.out
theorem bl_ {p q : Prop} (h : Aside0 p) (k : p → q := by intro h_; repeat (first | (with_reducible first | exact h_ | apply below_alloc | apply pw_below_drewN | apply below_drew1) | exact h_)) : q := k h.out
theorem bl_1 {p q a : Prop} (h : Aside0 p) (ha : Aside0 a) (k : p → a → q := by intro h_ a_; repeat (first | (with_reducible first | exact h_ | apply below_alloc | apply pw_below_drewN | apply below_drew1 | refine below_set ?_ a_) | exact h_)) : q := k h.out ha.out
theorem bl_2 {p q a b : Prop} (h : Aside0 p) (ha : Aside0 a) (hb : Aside0 b) (k : p → a → b → q := by intro h_ a_ b_; repeat (first | (with_reducible first | exact h_ | apply below_alloc | apply pw_below_drewN | apply below_drew1 | refine below_set ?_ a_ | refine below_set ?_ b_) | exact h_)) : q := k h.out ha.out hb.out
theorem bl_3 {p q a b c : Prop} (h : Aside0 p) (ha : Aside0 a) (hb : Aside0 b) (hc : Aside0 c) (k : p → a → b → c → q := by intro h_ a_ b_ c_; repeat (first | (with_reducible first | exact h_ | apply below_alloc | apply pw_below_drewN | apply below_drew1 | refine below_set ?_ a_ | refine below_set ?_ b_ | refine below_set ?_ c_) | exact h_)) : q := k h.out ha.out hb.out hc.out
theorem bl_4 {p q a b c d : Prop} (h : Aside0 p) (ha : Aside0 a) (hb : Aside0 b) (hc : Aside0 c) (hd : Aside0 d) (k : p → a → b → c → d → q := by intro h_ a_ b_ c_ d_; repeat (first | (with_reducible first | exact h_ | apply below_alloc | apply pw_below_drewN | apply below_drew1 | refine below_set ?_ a_ | refine below_set ?_ b_ | refine below_set ?_ c_ | refine below_set ?_ d_) | exact h_)) : q := k h.out ha.out hb.out hc.out hd.out
theorem bl_5 {p q a b c d e : Prop} (h : Aside0 p) (ha : Aside0 a) (hb : Aside0 b) (hc : Aside0 c) (hd : Aside0 d) (he : Aside0 e) (k : p → a → b → c → d → e → q := by intro h_ a_ b_ c_ d_ e_; repeat (first | (with_reducible first | exact h_ | apply below_alloc | apply pw_below_drewN | apply below_drew1 | refine below_set ?_ a_ | refine below_set ?_ b_ | refine below_set ?_ c_ | refine below_set ?_ d_ | refine below_set ?_ e_) | exact h_)) : q := k h.out ha.out hb.out hc.out hd.out he.out
theorem bl_6 {p q a b c d e f : Prop} (h : Aside0 p) (ha : Aside0 a) (hb : Aside0 b) (hc : Aside0 c) (hd : Aside0 d) (he : Aside0 e) (hf : Aside0 f) (k : p → a → b → c → d → e → f → q := by intro h_ a_ b_ c_ d_ e_ f_; repeat (first | (with_reducible first | exact h_ | apply below_alloc | apply pw_below_drewN | apply below_drew1 | refine below_set ?_ a_ | refine below_set ?_ b_ | refine below_set ?_ c_ | refine below_set ?_ d_ | refine below_set ?_ e_ | refine below_set ?_ f_) | exact h_)) : q := k h.out ha.out hb.out hc.out hd.out he.out hf.out
theorem still_ (w : World) (p q : Addr) (x : Value) : ((w.setCell p x).cell? q).isSome = (w.cell? q).isSome := by
  by_cases e : p = q
  · subst e
    cases h : w.cell? p with
    | some v => rw [World.cell?_setCell_same w p x h]; rfl
    | none =>
      simp only [World.cell?, World.setCell, Array.getElem?_modify] at h ⊢
      cases hb : w.heap[p.block]? with
      | none => simp
      | some o =>
        rw [hb] at h
        cases o with
        | cells c t f =>
          by_cases hs : p.spot.isSome = true
          · simp [hs]
          · simp only [hs] at h ⊢
            simp at h ⊢
            exact h
        | _ => simp
  · rw [World.cell?_setCell_other w p q x e]
attribute [go_sem] still_
theorem cell_twice_ (w : World) (a : Addr) (u v : Value) (h : (w.cell? a).isSome = true) : ((w.setCell a u).setCell a v).cell? a = some v := World.cell?_setCell_same' _ _ _ (by rw [World.cell?_setCell_same' _ _ _ h]; rfl)
attribute [go_sem] cell_twice_
theorem c2_ {w : World} {g : Nat} {t : TypeId} {a0 a1 : Value} (h : Aside0 (w.heap[g]? = some (.cells #[a0, a1] t (0, 0)))) : w.cell? ⟨g, 0, none⟩ = some a0 ∧ w.cell? ⟨g, 1, none⟩ = some a1 ∧ w.frozen? ⟨g, 0, none⟩ = false ∧ w.frozen? ⟨g, 1, none⟩ = false := ⟨(blk_cell h.out 0).trans rfl, (blk_cell h.out 1).trans rfl, blk_frozen h.out 0, blk_frozen h.out 1⟩
theorem c3_ {w : World} {g : Nat} {t : TypeId} {a0 a1 a2 : Value} (h : Aside0 (w.heap[g]? = some (.cells #[a0, a1, a2] t (0, 0)))) : w.cell? ⟨g, 0, none⟩ = some a0 ∧ w.cell? ⟨g, 1, none⟩ = some a1 ∧ w.cell? ⟨g, 2, none⟩ = some a2 ∧ w.frozen? ⟨g, 0, none⟩ = false ∧ w.frozen? ⟨g, 1, none⟩ = false ∧ w.frozen? ⟨g, 2, none⟩ = false := ⟨(blk_cell h.out 0).trans rfl, (blk_cell h.out 1).trans rfl, (blk_cell h.out 2).trans rfl, blk_frozen h.out 0, blk_frozen h.out 1, blk_frozen h.out 2⟩
theorem c4_ {w : World} {g : Nat} {t : TypeId} {a0 a1 a2 a3 : Value} (h : Aside0 (w.heap[g]? = some (.cells #[a0, a1, a2, a3] t (0, 0)))) : w.cell? ⟨g, 0, none⟩ = some a0 ∧ w.cell? ⟨g, 1, none⟩ = some a1 ∧ w.cell? ⟨g, 2, none⟩ = some a2 ∧ w.cell? ⟨g, 3, none⟩ = some a3 ∧ w.frozen? ⟨g, 0, none⟩ = false ∧ w.frozen? ⟨g, 1, none⟩ = false ∧ w.frozen? ⟨g, 2, none⟩ = false ∧ w.frozen? ⟨g, 3, none⟩ = false := ⟨(blk_cell h.out 0).trans rfl, (blk_cell h.out 1).trans rfl, (blk_cell h.out 2).trans rfl, (blk_cell h.out 3).trans rfl, blk_frozen h.out 0, blk_frozen h.out 1, blk_frozen h.out 2, blk_frozen h.out 3⟩
theorem c5_ {w : World} {g : Nat} {t : TypeId} {a0 a1 a2 a3 a4 : Value} (h : Aside0 (w.heap[g]? = some (.cells #[a0, a1, a2, a3, a4] t (0, 0)))) : w.cell? ⟨g, 0, none⟩ = some a0 ∧ w.cell? ⟨g, 1, none⟩ = some a1 ∧ w.cell? ⟨g, 2, none⟩ = some a2 ∧ w.cell? ⟨g, 3, none⟩ = some a3 ∧ w.cell? ⟨g, 4, none⟩ = some a4 ∧ w.frozen? ⟨g, 0, none⟩ = false ∧ w.frozen? ⟨g, 1, none⟩ = false ∧ w.frozen? ⟨g, 2, none⟩ = false ∧ w.frozen? ⟨g, 3, none⟩ = false ∧ w.frozen? ⟨g, 4, none⟩ = false := ⟨(blk_cell h.out 0).trans rfl, (blk_cell h.out 1).trans rfl, (blk_cell h.out 2).trans rfl, (blk_cell h.out 3).trans rfl, (blk_cell h.out 4).trans rfl, blk_frozen h.out 0, blk_frozen h.out 1, blk_frozen h.out 2, blk_frozen h.out 3, blk_frozen h.out 4⟩
theorem fr_ {w : World} {g b o : Nat} {x : _} {t : TypeId} {cs : Array Value} {u : Value} (n : g ≠ b) (h : w.heap[g]? = some (.cells cs t (0, 0))) : (w.setCell ⟨b, o, x⟩ u).heap[g]? = some (.cells cs t (0, 0)) := blk_far h n u
theorem bp_0 {p q : Prop} (h : Aside0 p) (k : p → q := by intro h_; (repeat (first | (with_reducible first | refine blk_drewN ?_ _ | refine blk_drew ?_ | refine blk_alloc ?_ _ | exact h_ | apply blk_put) | exact h_ | apply blk_put)); all_goals first | with_reducible rfl | (simp only [List.setIfInBounds_toArray, List.set_cons_zero, List.set_cons_succ]; done) | rfl) : q := k h.out
theorem bp_1 {p q a0 : Prop} (h : Aside0 p) (m0 : Aside0 a0) (k : p → a0 → q := by intro h_ n0; (repeat (first | (with_reducible first | refine blk_drewN ?_ _ | refine blk_drew ?_ | refine blk_alloc ?_ _ | exact h_ | apply fr_ n0 | apply blk_put) | exact h_ | apply fr_ n0 | apply blk_put)); all_goals first | with_reducible rfl | (simp only [List.setIfInBounds_toArray, List.set_cons_zero, List.set_cons_succ]; done) | rfl) : q := k h.out m0.out
theorem bp_2 {p q a0 a1 : Prop} (h : Aside0 p) (m0 : Aside0 a0) (m1 : Aside0 a1) (k : p → a0 → a1 → q := by intro h_ n0 n1; (repeat (first | (with_reducible first | refine blk_drewN ?_ _ | refine blk_drew ?_ | refine blk_alloc ?_ _ | exact h_ | apply fr_ n0 | apply fr_ n1 | apply blk_put) | exact h_ | apply fr_ n0 | apply fr_ n1 | apply blk_put)); all_goals first | with_reducible rfl | (simp only [List.setIfInBounds_toArray, List.set_cons_zero, List.set_cons_succ]; done) | rfl) : q := k h.out m0.out m1.out
theorem bs_0 {g_ : Nat} {w W0 W : World} (hg : g_ = W.heap.size) (h : Aside0 (Below w.heap.size w W0)) (k : Below w.heap.size w W0 → Below w.heap.size w W := by intro h_; repeat (first | (with_reducible first | exact h_ | apply below_alloc | apply pw_below_drewN | apply below_drew1) | exact h_)) : w.heap.size ≤ g_ := by rw [hg]; exact below_size (k h.out)
theorem bs_1 {g_ : Nat} {w W0 W : World} {a : Prop} (hg : g_ = W.heap.size) (h : Aside0 (Below w.heap.size w W0)) (ha : Aside0 a) (k : Below w.heap.size w W0 → a → Below w.heap.size w W := by intro h_ a_; repeat (first | (with_reducible first | exact h_ | apply below_alloc | apply pw_below_drewN | apply below_drew1 | refine below_set ?_ a_) | exact h_)) : w.heap.size ≤ g_ := by rw [hg]; exact below_size (k h.out ha.out)
theorem bs_2 {g_ : Nat} {w W0 W : World} {a b : Prop} (hg : g_ = W.heap.size) (h : Aside0 (Below w.heap.size w W0)) (ha : Aside0 a) (hb : Aside0 b) (k : Below w.heap.size w W0 → a → b → Below w.heap.size w W := by intro h_ a_ b_; repeat (first | (with_reducible first | exact h_ | apply below_alloc | apply pw_below_drewN | apply below_drew1 | refine below_set ?_ a_ | refine below_set ?_ b_) | exact h_)) : w.heap.size ≤ g_ := by rw [hg]; exact below_size (k h.out ha.out hb.out)
theorem bs_3 {g_ : Nat} {w W0 W : World} {a b c : Prop} (hg : g_ = W.heap.size) (h : Aside0 (Below w.heap.size w W0)) (ha : Aside0 a) (hb : Aside0 b) (hc : Aside0 c) (k : Below w.heap.size w W0 → a → b → c → Below w.heap.size w W := by intro h_ a_ b_ c_; repeat (first | (with_reducible first | exact h_ | apply below_alloc | apply pw_below_drewN | apply below_drew1 | refine below_set ?_ a_ | refine below_set ?_ b_ | refine below_set ?_ c_) | exact h_)) : w.heap.size ≤ g_ := by rw [hg]; exact below_size (k h.out ha.out hb.out hc.out)
theorem bs_4 {g_ : Nat} {w W0 W : World} {a b c d : Prop} (hg : g_ = W.heap.size) (h : Aside0 (Below w.heap.size w W0)) (ha : Aside0 a) (hb : Aside0 b) (hc : Aside0 c) (hd : Aside0 d) (k : Below w.heap.size w W0 → a → b → c → d → Below w.heap.size w W := by intro h_ a_ b_ c_ d_; repeat (first | (with_reducible first | exact h_ | apply below_alloc | apply pw_below_drewN | apply below_drew1 | refine below_set ?_ a_ | refine below_set ?_ b_ | refine below_set ?_ c_ | refine below_set ?_ d_) | exact h_)) : w.heap.size ≤ g_ := by rw [hg]; exact below_size (k h.out ha.out hb.out hc.out hd.out)
theorem bs_5 {g_ : Nat} {w W0 W : World} {a b c d e : Prop} (hg : g_ = W.heap.size) (h : Aside0 (Below w.heap.size w W0)) (ha : Aside0 a) (hb : Aside0 b) (hc : Aside0 c) (hd : Aside0 d) (he : Aside0 e) (k : Below w.heap.size w W0 → a → b → c → d → e → Below w.heap.size w W := by intro h_ a_ b_ c_ d_ e_; repeat (first | (with_reducible first | exact h_ | apply below_alloc | apply pw_below_drewN | apply below_drew1 | refine below_set ?_ a_ | refine below_set ?_ b_ | refine below_set ?_ c_ | refine below_set ?_ d_ | refine below_set ?_ e_) | exact h_)) : w.heap.size ≤ g_ := by rw [hg]; exact below_size (k h.out ha.out hb.out hc.out hd.out he.out)
theorem bs_6 {g_ : Nat} {w W0 W : World} {a b c d e f : Prop} (hg : g_ = W.heap.size) (h : Aside0 (Below w.heap.size w W0)) (ha : Aside0 a) (hb : Aside0 b) (hc : Aside0 c) (hd : Aside0 d) (he : Aside0 e) (hf : Aside0 f) (k : Below w.heap.size w W0 → a → b → c → d → e → f → Below w.heap.size w W := by intro h_ a_ b_ c_ d_ e_ f_; repeat (first | (with_reducible first | exact h_ | apply below_alloc | apply pw_below_drewN | apply below_drew1 | refine below_set ?_ a_ | refine below_set ?_ b_ | refine below_set ?_ c_ | refine below_set ?_ d_ | refine below_set ?_ e_ | refine below_set ?_ f_) | exact h_)) : w.heap.size ≤ g_ := by rw [hg]; exact below_size (k h.out ha.out hb.out hc.out hd.out he.out hf.out)
theorem nb_ {w W : World} {g g2 : Nat} {o : Obj} (hg : g2 = W.heap.size) (b : Aside0 (w.heap[g]? = some o)) (k : w.heap[g]? = some o → W.heap[g]? = some o := by intro h_; (with_reducible repeat (first | refine blk_drewN ?_ _ | refine blk_drew ?_ | refine blk_alloc ?_ _)); exact h_) : g ≠ g2 := by rw [hg]; exact Nat.ne_of_lt (blk_lt (k b.out))
theorem nc_ {w W : World} {g g2 : Nat} {o : Obj} (hg : g2 = W.heap.size) (b : Aside0 (w.heap[g]? = some o)) (k : w.heap[g]? = some o → W.heap[g]? = some o := by intro h_; (with_reducible repeat (first | refine blk_drewN ?_ _ | refine blk_drew ?_ | refine blk_alloc ?_ _)); exact h_) : g2 ≠ g := by rw [hg]; exact Nat.ne_of_gt (blk_lt (k b.out))
theorem bb_ {w W W2 : World} {g : Nat} {o : Obj} (b : Aside0 (w.heap[g]? = some o)) (hb : Below W.heap.size W W2) (k : w.heap[g]? = some o → W.heap[g]? = some o := by intro h_; (with_reducible repeat (first | refine blk_drewN ?_ _ | refine blk_drew ?_ | refine blk_alloc ?_ _)); exact h_) : W2.heap[g]? = some o := blk_below (k b.out) hb
theorem cf_ {q : Prop} {W : World} {p a : Addr} (h : q) (u : Value) (k : q → a.block ≠ p.block := by intro h_; first | (rw [add_block]; exact h_) | (show (Addr.add _ _).block ≠ _; rw [add_block]; exact h_) | exact h_) : (W.setCell p u).cell? a = W.cell? a := cell_far (k h) u
theorem dr_ {q : Prop} (k : q := by repeat (first | exact Drawn0.refl _ | apply Drawn0.step)) : q := k
theorem cl_ {p q : Prop} (h : p) (k : p → q := by intro h_; repeat (first | exact h_ | (with_reducible refine Kd.C_alloc ?_ _) | (with_reducible refine Kd.C_drewN ?_ _) | (with_reducible refine Kd.C_drew ?_))) : q := k h
theorem bx_ {P : Program} {ops : Array Oper} {rest : List Oper} {o : Oper} {a : Act} {Q : Exit → Act → World → Prop} {W : World} (N : Tmp) (cs : Array Value) (t : TypeId)
    (h : ∀ g, g = W.heap.size → ∀ w1, w1.heap[g]? = some (.cells cs t (0, 0)) → Below W.heap.size W w1 → wpList P ops Q rest (a.put o.dst (.pointer (some ⟨g, 0, none⟩))) w1)
    (hgd : o.guard = none := by rfl) (hd : o.dst = some N := by rfl)
    (hrun : (execOp a.eval o).run P W = .ok (.value (.pointer (some ⟨W.heap.size, 0, none⟩))) (W.alloc (.cells cs t (0, 0))) := by first | (go_simp; done) | (go_simp; rfl)) : wpList P ops Q (o :: rest) a W := box_event hgd hd hrun h
theorem bz_ {P : Program} {ops : Array Oper} {rest : List Oper} {o : Oper} {a : Act} {Q : Exit → Act → World → Prop} {W : World} (N : Tmp) (cs : Array Value) (t : TypeId)
    (h : ∀ g, g = W.heap.size → ∀ w1, Aside0 (w1.heap[g]? = some (.cells cs t (0, 0))) → Below W.heap.size W w1 → wpList P ops Q rest (a.put o.dst (.pointer (some ⟨g, 0, none⟩))) w1)
    (hgd : o.guard = none := by rfl) (hd : o.dst = some N := by rfl)
    (hrun : (execOp a.eval o).run P W = .ok (.value (.pointer (some ⟨W.heap.size, 0, none⟩))) (W.alloc (.cells cs t (0, 0))) := by first | (go_simp; done) | (go_simp; rfl)) : wpList P ops Q (o :: rest) a W := box_event hgd hd hrun (fun g e w hb hl => h g e w ⟨hb⟩ hl)
theorem so2_ {T0 : Type} {T1 : Type} {a v : T0} {b w : T1} (h : some (a, b) = some (v, w)) : a = v ∧ b = w := by cases h; exact ⟨rfl, rfl⟩
theorem so3_ {T0 : Type} {T1 : Type} {T2 : Type} {a v : T0} {b w : T1} {c x : T2} (h : some (a, b, c) = some (v, w, x)) : a = v ∧ b = w ∧ c = x := by cases h; exact ⟨rfl, rfl, rfl⟩
theorem so4_ {T0 : Type} {T1 : Type} {T2 : Type} {T3 : Type} {a v : T0} {b w : T1} {c x : T2} {d y : T3} (h : some (a, b, c, d) = some (v, w, x, y)) : a = v ∧ b = w ∧ c = x ∧ d = y := by cases h; exact ⟨rfl, rfl, rfl, rfl⟩
theorem so5_ {T0 : Type} {T1 : Type} {T2 : Type} {T3 : Type} {T4 : Type} {a v : T0} {b w : T1} {c x : T2} {d y : T3} {e z : T4} (h : some (a, b, c, d, e) = some (v, w, x, y, z)) : a = v ∧ b = w ∧ c = x ∧ d = y ∧ e = z := by cases h; exact ⟨rfl, rfl, rfl, rfl, rfl⟩
theorem ar_ {q : Prop} (k : q := by (try simp only [List.map_toArray, List.map_cons, List.map_nil]); first | done | rfl | (simp only [List.length_drop, List.length_take]; rfl)) : q := k
/-! What a walk tells often, told by a word. -/
theorem a_ {p : Prop} (h : p) : Aside0 p := ⟨h⟩
theorem od_ {p : Prop} [Decidable p] (h : decide p = true := by first | (with_reducible assumption) | assumption) : p := of_decide_eq_true h
theorem fz_ {p : Prop} (h : p := by first | rfl | (simp; done) | (simp [*]; done)) : p := h
theorem bq_ {p q : Prop} (h : p) (k : p → q := by intro h_; (with_reducible repeat (first | refine blk_drewN ?_ _ | refine blk_drew ?_ | refine blk_alloc ?_ _)); exact h_) : q := k h
theorem rq_ {p q : Prop} (h : p) (k : p → q := by intro h_; (with_reducible repeat (first | apply Kd.R_alloc | apply Kd.R_drewN | apply Kd.R_drew)); exact h_) : q := k h
theorem vq_ {p q : Prop} (h : p) (k : p → q := by intro h_; (with_reducible repeat (first | apply Kd.V_alloc | apply Kd.V_drewN | apply Kd.V_drew)); exact h_) : q := k h
theorem pu_ {P : Program} {ops : Array Oper} {Q : Exit → Act → World → Prop} {md : Region.Mode} {S : World → Prop} {ds : List Nat} {T : Bool × List (List Nat × List Nat)} (hT : Aside0 (rtab md ops = T)) (i : Nat) (N : Option Tmp)
    {oi : Oper} {v : Value} {fuel : Nat} {l : Array Bool} {a a' : Act} {w : World} (h : wpAnyLast P md ops Q S ds fuel (l.setIfInBounds i true) a' w)
    (hi : ops[i]? = some oi := by exact rfl) (hN : oi.dst = N := by exact rfl) (hc : anyT T l.toList (l.setIfInBounds i true).toList i = true := by kernel_rfl) (hQ : ∀ c a w, Q (.panic c) (a.put oi.dst v) w → Q (.panic c) a w := by exact fun _ _ _ h => h)
    (hy : Yields P ops oi v a := by refine Or.inl ⟨by rfl, ?_⟩; intro w'; go_simp; with_reducible rfl) (ha : a.put N v = a' := by simp only [Act.put, List.setIfInBounds_toArray, List.set_cons_zero, List.set_cons_succ, i64_w, i32_w]; rfl) : wpAnyLast P md ops Q S ds (fuel + 1) l a w :=
  pure_ _ hi hN (any_of hT.out hc) hQ hy ha h
theorem pv_ {P : Program} {ops : Array Oper} {Q : Exit → Act → World → Prop} {md : Region.Mode} {S : World → Prop} {ds : List Nat} {T : Bool × List (List Nat × List Nat)} (hT : Aside0 (rtab md ops = T)) (i : Nat) (N : Option Tmp)
    {oi : Oper} {fuel : Nat} {l : Array Bool} {a a' : Act} {w : World} (h : wpAnyLast P md ops Q S ds fuel (l.setIfInBounds i true) a' w)
    (hi : ops[i]? = some oi := by exact rfl) (hN : oi.dst = N := by exact rfl) (hc : anyT T l.toList (l.setIfInBounds i true).toList i = true := by kernel_rfl) (hQ : ∀ c a w, Q (.panic c) (a.put oi.dst undef) w → Q (.panic c) a w := by exact fun _ _ _ h => h)
    (hy : Yields P ops oi undef a := by exact Or.inr ⟨by rfl, rfl⟩) (ha : a.put N undef = a' := by simp only [Act.put, List.setIfInBounds_toArray, List.set_cons_zero, List.set_cons_succ, i64_w, i32_w]; rfl) : wpAnyLast P md ops Q S ds (fuel + 1) l a w :=
  pure_ _ hi hN (any_of hT.out hc) hQ hy ha h
theorem hc_ {w0 w : World} {p : Addr} {v : Value} (hb : Aside0 (Below w0.heap.size w0 w)) (h : w0.cell? p = some v) : w.cell? p = some v := (hb.out.cell (World.block_lt_of_cell? w0 _ h)).trans h
theorem rr_ {α : Sort _} {c : Prop} [Decidable c] {a b : α} (h : ¬ c := by ((try simp only [ByteArray.size_extract, ByteArray.size_append, decide_eq_true_eq, decide_eq_false_iff_not] at *); first | done | omega)) : (if c then a else b) = b := if_neg h
/-! pu_ with a way that is parted, without a table; the same of what is read; one that is ready. -/
theorem py_ {P : Program} {ops : Array Oper} {Q : Exit → Act → World → Prop} {md : Region.Mode} {S : World → Prop} {ds : List Nat} {T : Bool × List (List Nat × List Nat)} (hT : Aside0 (rtab md ops = T)) (i : Nat) (N : Option Tmp) {oi : Oper} {v : Value} {fuel : Nat} {l : Array Bool} {a a' : Act} {w : World} (h : wpAnyLast P md ops Q S ds fuel (l.setIfInBounds i true) a' w)
    (hi : ops[i]? = some oi := by exact rfl) (hN : oi.dst = N := by exact rfl) (hc : anyT T l.toList (l.setIfInBounds i true).toList i = true := by kernel_rfl) (hQ : ∀ c a w, Q (.panic c) (a.put oi.dst v) w → Q (.panic c) a w := by exact fun _ _ _ h => h)
    (hy : Yields P ops oi v a := by refine Or.inl ⟨by rfl, ?_⟩; intro w'; go_simp; first | (with_reducible rfl) | (rw [(rr_)]; try with_reducible rfl)) (ha : a.put N v = a' := by simp only [Act.put, List.setIfInBounds_toArray, List.set_cons_zero, List.set_cons_succ, i64_w, i32_w]; rfl) : wpAnyLast P md ops Q S ds (fuel + 1) l a w :=
  pure_ _ hi hN (any_of hT.out hc) hQ hy ha h
theorem pk_ {P : Program} {ops : Array Oper} {Q : Exit → Act → World → Prop} {md : Region.Mode} {S : World → Prop} {ds : List Nat} (i : Nat) (N : Option Tmp) {oi : Oper} {v : Value} {fuel : Nat} {l : Array Bool} {a a' : Act} {w : World} (h : wpAnyLast P md ops Q S ds fuel (l.setIfInBounds i true) a' w)
    (hi : ops[i]? = some oi := by exact rfl) (hN : oi.dst = N := by exact rfl) (hc : anyB md ops l (l.setIfInBounds i true) i = true := by kernel_rfl) (hQ : ∀ c a w, Q (.panic c) (a.put oi.dst v) w → Q (.panic c) a w := by exact fun _ _ _ h => h)
    (hy : Yields P ops oi v a := by refine Or.inl ⟨by rfl, ?_⟩; intro w'; go_simp; first | (with_reducible rfl) | (rw [(rr_)]; try with_reducible rfl)) (ha : a.put N v = a' := by simp only [Act.put, List.setIfInBounds_toArray, List.set_cons_zero, List.set_cons_succ, i64_w, i32_w]; rfl) : wpAnyLast P md ops Q S ds (fuel + 1) l a w :=
  pure_ _ hi hN hc hQ hy ha h
theorem ty_ {P : Program} {ops : Array Oper} {Q : Exit → Act → World → Prop} {md : Region.Mode} {S : World → Prop} {ds : List Nat} {T : Bool × List (List Nat × List Nat)} (hT : Aside0 (rtab md ops = T)) {B : List Nat} (hB : Aside0 (waitsOk T.2 B = true)) (i : Nat) (N : Option Tmp) {oi : Oper} {v : Value} {fuel : Nat} {l : Array Bool} {a a' : Act} {w : World} (hS : S w) (h : wpAnyLast P md ops Q S ds fuel (l.setIfInBounds i true) a' w)
    (hi : ops[i]? = some oi := by exact rfl) (hN : oi.dst = N := by exact rfl) (hc : takeW T B ds l.toList (l.setIfInBounds i true).toList i = true := by kernel_rfl) (hQ : ∀ c a w, Q (.panic c) (a.put oi.dst v) w → Q (.panic c) a w := by exact fun _ _ _ h => h)
    (hy : YieldsIf P ops S oi v a := by refine Or.inl ⟨by rfl, ?_⟩; intro w' s_; (repeat (obtain ⟨_, s_⟩ := s_)); go_simp; first | (with_reducible rfl) | (rw [(rr_)]; try with_reducible rfl)) (ha : a.put N v = a' := by simp only [Act.put, List.setIfInBounds_toArray, List.set_cons_zero, List.set_cons_succ, i64_w, i32_w]; rfl) : wpAnyLast P md ops Q S ds (fuel + 1) l a w :=
  take_ _ hi hN (take_ofW hT.out hB.out hc) hQ hy hS ha h
theorem tk_ {P : Program} {ops : Array Oper} {Q : Exit → Act → World → Prop} {md : Region.Mode} {S : World → Prop} {ds : List Nat} (i : Nat) (N : Option Tmp) {oi : Oper} {v : Value} {fuel : Nat} {l : Array Bool} {a a' : Act} {w : World} (hS : S w) (h : wpAnyLast P md ops Q S ds fuel (l.setIfInBounds i true) a' w)
    (hi : ops[i]? = some oi := by exact rfl) (hN : oi.dst = N := by exact rfl) (hc : takeB md ops ds l (l.setIfInBounds i true) i = true := by kernel_rfl) (hQ : ∀ c a w, Q (.panic c) (a.put oi.dst v) w → Q (.panic c) a w := by exact fun _ _ _ h => h)
    (hy : YieldsIf P ops S oi v a := by refine Or.inl ⟨by rfl, ?_⟩; intro w' s_; (repeat (obtain ⟨_, s_⟩ := s_)); go_simp; first | (with_reducible rfl) | (rw [(rr_)]; try with_reducible rfl)) (ha : a.put N v = a' := by simp only [Act.put, List.setIfInBounds_toArray, List.set_cons_zero, List.set_cons_succ, i64_w, i32_w]; rfl) : wpAnyLast P md ops Q S ds (fuel + 1) l a w :=
  take_ _ hi hN hc hQ hy hS ha h
theorem on_ {P : Program} {ops : Array Oper} {Q : Exit → Act → World → Prop} {md : Region.Mode} {S : World → Prop} {ds : List Nat} {T : Bool × List (List Nat × List Nat)} (hT : Aside0 (rtab md ops = T)) (i : Nat) (N : Option Tmp) {oi : Oper} {fuel : Nat} {l : Array Bool} {a : Act} {w : World} (h : ∀ K : Act → World → Prop, Shut (∀ a' w', S w' → (S w' → wpAnyLast P md ops Q S ds fuel (l.setIfInBounds i true) a' w') → K a' w') → if Region.wanted oi (yielded ops a.tmps) = true then Oper.wp P oi a w K Q else K (a.put N undef) w)
    (hi : ops[i]? = some oi := by exact rfl) (hN : oi.dst = N := by exact rfl) (hc : (readyT T.2 l.toList == [i] && l.toList.set i true == (l.setIfInBounds i true).toList) = true := by kernel_rfl) (hd : i ∉ ds := by decide) : wpAnyLast P md ops Q S ds (fuel + 1) l a w :=
  one_ _ hi hN (one_of hT.out hc) hd h
theorem ok_ {P : Program} {ops : Array Oper} {Q : Exit → Act → World → Prop} {md : Region.Mode} {S : World → Prop} {ds : List Nat} (i : Nat) (N : Option Tmp) {oi : Oper} {fuel : Nat} {l : Array Bool} {a : Act} {w : World} (h : ∀ K : Act → World → Prop, Shut (∀ a' w', S w' → (S w' → wpAnyLast P md ops Q S ds fuel (l.setIfInBounds i true) a' w') → K a' w') → if Region.wanted oi (yielded ops a.tmps) = true then Oper.wp P oi a w K Q else K (a.put N undef) w)
    (hi : ops[i]? = some oi := by exact rfl) (hN : oi.dst = N := by exact rfl) (hc : readyB md ops l (l.setIfInBounds i true) i = true := by kernel_rfl) (hd : i ∉ ds := by decide) : wpAnyLast P md ops Q S ds (fuel + 1) l a w :=
  one_ _ hi hN hc hd h
theorem nB_ {w W : World} {g g2 : Nat} {o : Obj} (hg : g2 = W.heap.size) (b : Aside0 (w.heap[g]? = some o)) (k : w.heap[g]? = some o → W.heap[g]? = some o := by intro h_; (with_reducible repeat (first | refine blk_drewN ?_ _ | refine blk_drew ?_ | refine blk_alloc ?_ _)); exact h_) : Aside0 (g ≠ g2) := ⟨nb_ hg b k⟩
theorem nC_ {w W : World} {g g2 : Nat} {o : Obj} (hg : g2 = W.heap.size) (b : Aside0 (w.heap[g]? = some o)) (k : w.heap[g]? = some o → W.heap[g]? = some o := by intro h_; (with_reducible repeat (first | refine blk_drewN ?_ _ | refine blk_drew ?_ | refine blk_alloc ?_ _)); exact h_) : Aside0 (g2 ≠ g) := ⟨nc_ hg b k⟩
theorem bB_ {w W W2 : World} {g : Nat} {o : Obj} (b : Aside0 (w.heap[g]? = some o)) (hb : Below W.heap.size W W2) (k : w.heap[g]? = some o → W.heap[g]? = some o := by intro h_; (with_reducible repeat (first | refine blk_drewN ?_ _ | refine blk_drew ?_ | refine blk_alloc ?_ _)); exact h_) : Aside0 (W2.heap[g]? = some o) := ⟨bb_ b hb k⟩
theorem hB_ {w W w2 : World} (h : Below w.heap.size w W) (k : Below W.heap.size W w2) : Aside0 (Below w.heap.size w w2) := ⟨below_step h k⟩
section
variable {P : Program} {ops : Array Oper} {rest : List Oper} {o : Oper} {a : Act} {Q : Exit → Act → World → Prop} {W : World}
theorem gd_ (N : Tmp) (h : wpList P ops Q (o :: rest) a W) (_hN : o.dst = some N := by exact rfl) : wpList P ops Q (o :: rest) a W := h
theorem gk_ (f : FuncId) {as : Array Operand} {ts : Array TypeId} (h : wpList P ops Q (o :: rest) a W) (_ho : o.op = .call { callee := .value (.func f), args := as, argTypes := ts } := by exact rfl) : wpList P ops Q (o :: rest) a W := h
theorem gl_ (N : Option Tmp) {f : FuncId} {fn : Func} {as : Array Operand} {ts : Array TypeId} (hf : P.funcs[f]? = some fn) (args : Array Value)
    (h : Calls P f args W fun e w' => ∃ v, e = .returned v ∧ wpList P ops Q rest (a.put N v) w') (hd : o.dst = N := by exact rfl) (hg : o.guard = none := by exact rfl) (hname : (fn.name == "runtime.NumGoroutine") = false := by kernel_rfl) (hb : fn.body.isSome = true := by exact rfl)
    (hop : o.op = .call { callee := .value (.func f), args := as, argTypes := ts } := by exact rfl) (hargs : as.map a.eval = args := by (try simp only [List.map_toArray, List.map_cons, List.map_nil]); first | done | rfl | (simp only [List.length_drop, List.length_take]; rfl)) : wpList P ops Q (o :: rest) a W :=
  goesL_ N hd hg hf hname hb args hop hargs h
/-! Words of slim.py: an act written out, a block over a call, a state by the steps that led to it. -/
theorem nrm_ {P : Program} {ops : Array Oper} {Q : Exit → Act → World → Prop} {md : Region.Mode} {S : World → Prop} {ds : List Nat} {fuel : Nat} {l : Array Bool} {a a' : Act} {w : World} (h : wpAnyLast P md ops Q S ds fuel l a' w) (ha : a = a' := by first | (simp only [putAll, Act.put, List.setIfInBounds_toArray, List.set_cons_zero, List.set_cons_succ]; done) | (simp only [putAll, Act.put, List.setIfInBounds_toArray, List.set_cons_zero, List.set_cons_succ]; rfl)) : wpAnyLast P md ops Q S ds fuel l a w := norm_ ha h
theorem nrn_ {P : Program} {ops : Array Oper} {Q : Exit → Act → World → Prop} {md : Region.Mode} {S : World → Prop} {ds : List Nat} {fuel : Nat} {l : Array Bool} {a a' : Act} {w : World} (h : wpAnyLast P md ops Q S ds fuel l a' w) (ha : a = a' := by simp only [putAll, Act.put, List.setIfInBounds_toArray, List.set_cons_zero, List.set_cons_succ]; rfl) : wpAnyLast P md ops Q S ds fuel l a w := norm_ ha h
theorem nop_ {P : Program} {ops : Array Oper} {Q : Exit → Act → World → Prop} {md : Region.Mode} {S : World → Prop} {ds : List Nat} {fuel : Nat} {l : Array Bool} {a a' : Act} {w : World} {N : Option Tmp} {v : Value} (h : wpAnyLast P md ops Q S ds fuel l a' w) (ha : a.put N v = a' := by simp only [Act.put, List.setIfInBounds_toArray, List.set_cons_zero, List.set_cons_succ, i64_w, i32_w]; rfl) : wpAnyLast P md ops Q S ds fuel l (a.put N v) w := norm_ ha h
theorem kb_ {w w1 : World} {g g' : Nat} {o : Obj} (h : KeepBut w w1 g none) (hb : Aside0 (w.heap[g']? = some o)) (hg : Aside0 (g' ≠ g)) : Aside0 (w1.heap[g']? = some o) := ⟨KeepBut.blk h hb.out hg.out (by simp)⟩
theorem kt_ {w w1 w2 : World} {g : Nat} (h : Aside0 (KeepBut w w1 g none)) (k : KeepBut w1 w2 g none) : Aside0 (KeepBut w w2 g none) := ⟨KeepBut.trans h.out k (.inl rfl)⟩
/-! States that are kept, with the far facts told. -/
theorem hk0_ {p q : Prop} (h : Aside0 p) (k : p → q := by intro h_; repeat (first | (with_reducible first | exact h_ | apply KeepBut.set_ | apply keep_drewN | apply keep_drew | apply keep_alloc) | exact h_)) : q := k h.out
theorem hk2_ {p q r s : Prop} (h : Aside0 p) (n : Aside0 r) (o : Aside0 s) (k : p → r → s → q := by intro h_ n_ o_; repeat (first | (with_reducible first | exact h_ | apply KeepBut.set_ | apply keep_drewN | apply keep_drew | apply keep_alloc | refine keep_far ?_ n_ _ | refine keep_far ?_ o_ _) | exact h_)) : q := k h.out n.out o.out
theorem hb1_ {p q r : Prop} (h : Aside0 p) (n : r) (k : p → r → q := by intro h_ n_; repeat (first | (with_reducible first | exact h_ | apply below_alloc | apply pw_below_drewN | apply below_drew1 | refine below_set ?_ n_) | exact h_)) : q := k h.out n
theorem hb2_ {p q r s : Prop} (h : Aside0 p) (n : r) (o : s) (k : p → r → s → q := by intro h_ n_ o_; repeat (first | (with_reducible first | exact h_ | apply below_alloc | apply pw_below_drewN | apply below_drew1 | refine below_set ?_ n_ | refine below_set ?_ o_) | exact h_)) : q := k h.out n o
theorem hb3_ {p q r s x : Prop} (h : Aside0 p) (n : r) (o : s) (t : x) (k : p → r → s → x → q := by intro h_ n_ o_ t_; repeat (first | (with_reducible first | exact h_ | apply below_alloc | apply pw_below_drewN | apply below_drew1 | refine below_set ?_ n_ | refine below_set ?_ o_ | refine below_set ?_ t_) | exact h_)) : q := k h.out n o t
theorem hb4_ {p q r s x y : Prop} (h : Aside0 p) (n : r) (o : s) (t : x) (u : y) (k : p → r → s → x → y → q := by intro h_ n_ o_ t_ u_; repeat (first | (with_reducible first | exact h_ | apply below_alloc | apply pw_below_drewN | apply below_drew1 | refine below_set ?_ n_ | refine below_set ?_ o_ | refine below_set ?_ t_ | refine below_set ?_ u_) | exact h_)) : q := k h.out n o t u
theorem kc_ {w0 w w1 : World} {g g' : Nat} {o : Obj} (h : KeepBut w w1 g none) (hb : Aside0 (w0.heap[g']? = some o)) (hg : Aside0 (g' ≠ g)) (k : w0.heap[g']? = some o → w.heap[g']? = some o := by intro h_; (with_reducible repeat (first | refine blk_drewN ?_ _ | refine blk_drew ?_ | refine blk_alloc ?_ _)); exact h_) : Aside0 (w1.heap[g']? = some o) := ⟨KeepBut.blk h (k hb.out) hg.out (by simp)⟩
theorem gs_2 {g_ : Nat} {w W0 W : World} {a b : Prop} (hg : g_ = W.heap.size) (h : Aside0 (Below w.heap.size w W0)) (ha : a) (hb : b) (k : Below w.heap.size w W0 → a → b → Below w.heap.size w W := by intro h_ a_ b_; repeat (first | (with_reducible first | exact h_ | apply below_alloc | apply pw_below_drewN | apply below_drew1 | refine below_set ?_ a_ | refine below_set ?_ b_) | exact h_)) : Aside0 (w.heap.size ≤ g_) := ⟨by rw [hg]; exact below_size (k h.out ha hb)⟩
theorem bn_ {α : Type _} [BEq α] [LawfulBEq α] {a b : α} (h : ¬ a = b) : (a == b) = false ∧ (a != b) = true := ⟨beq_eq_false_iff_ne.mpr h, bne_iff_ne.mpr h⟩
theorem be_ {α : Type _} [BEq α] [LawfulBEq α] {a b : α} (h : a = b) : (a == b) = true ∧ (a != b) = false := ⟨beq_iff_eq.mpr h, bne_eq_false_iff_eq.mpr h⟩
/-! Rows that stores into boxes leave as they are. -/
inductive Zs (g g2 : Nat) (w : World) : World → Prop where
  | nil : Zs g g2 w w
  | one (i : Nat) (u : Value) {W : World} (h : Zs g g2 w W) : Zs g g2 w (W.setCell ⟨g, i, none⟩ u)
  | two (i : Nat) (u : Value) {W : World} (h : Zs g g2 w W) : Zs g g2 w (W.setCell ⟨g2, i, none⟩ u)
theorem Zs.far {α : Type} {d : Kd α} {e base : Nat} {ok : Nat → Prop} {v : Value} {xs : List α} {w W : World} {g g2 : Nat} (s : Zs g g2 w W) (h : d.R e w base (fun k => (ok k ∧ k ≠ g) ∧ k ≠ g2) v xs) : d.R e W base (fun k => (ok k ∧ k ≠ g) ∧ k ≠ g2) v xs := by
  induction s with
  | nil => exact h
  | one i u _ ih => exact Kd.R_far ih (fun _ hk => hk.1.2) _
  | two i u _ ih => exact Kd.R_far ih (fun _ hk => hk.2) _
theorem rf1_ {α : Type} {d : Kd α} {e base : Nat} {ok : Nat → Prop} {v : Value} {xs : List α} {w W : World} {ok' : Nat → Prop} {g t : Nat} {cs : Array Value} (h : Aside0 (d.R e w base ok v xs)) (b : Aside0 (w.heap[g]? = some (.cells cs t (0, 0)))) (ht : ∀ q, q ∈ e :: d.E → q ≠ t := by decide) (k : Zs g g w W := by with_reducible repeat (first | exact Zs.nil | apply Zs.two)) (m : ∀ k, ok k ∧ k ≠ g → ok' k := by first | exact fun _ h_ => h_.1 | exact fun _ _ => trivial) : d.R e W base ok' v xs := Kd.R_mono (k.far (Kd.R_mono (Kd.R_types h.out b.out ht) fun _ h => ⟨h, h.2⟩)) fun k h => m k h.1
theorem rf2_ {α : Type} {d : Kd α} {e base : Nat} {ok : Nat → Prop} {v : Value} {xs : List α} {w W : World} {ok' : Nat → Prop} {g t g2 t2 : Nat} {cs cs2 : Array Value} (h : Aside0 (d.R e w base ok v xs)) (b : Aside0 (w.heap[g]? = some (.cells cs t (0, 0)))) (b2 : Aside0 (w.heap[g2]? = some (.cells cs2 t2 (0, 0)))) (ht : ∀ q, q ∈ e :: d.E → q ≠ t := by decide) (ht2 : ∀ q, q ∈ e :: d.E → q ≠ t2 := by decide) (k : Zs g g2 w W := by with_reducible repeat (first | exact Zs.nil | apply Zs.two | apply Zs.one)) (m : ∀ k, (ok k ∧ k ≠ g) ∧ k ≠ g2 → ok' k := by first | exact fun _ h_ => h_.1.1 | exact fun _ h_ => h_.1 | exact fun _ _ => trivial) : d.R e W base ok' v xs := Kd.R_mono (k.far (Kd.R_types (Kd.R_types h.out b.out ht) b2.out ht2)) m
theorem kp_ {α : Type} {d : Kd α} {e base : Nat} {ok : Nat → Prop} {v : Value} {xs : List α} {w W W2 : World} {S : Nat → Prop} {g t : Nat} {cs : Array Value} (b : Aside0 (w.heap[g]? = some (.cells cs t (0, 0)))) (hk : Kept W W2 S) (h : Aside0 (d.R e w base ok v xs)) (ht : e ≠ t := by decide) (k : w.heap[g]? = some (.cells cs t (0, 0)) → W.heap[g]? = some (.cells cs t (0, 0)) := by intro h_; (with_reducible repeat (first | refine blk_drewN ?_ _ | refine blk_drew ?_ | refine blk_alloc ?_ _)); exact h_) (m : S g → some g = v.ownBlock := by exact fun h_ => h_) : Aside0 (W2.heap[g]? = some (.cells cs t (0, 0))) := ⟨blk_kept (k b.out) hk (fun hs => Kd.R_ne h.out b.out ht (m hs))⟩
theorem rt_ {α : Type} {d : Kd α} {e base : Nat} {ok : Nat → Prop} {v : Value} {xs : List α} {w : World} (h : d.R e w base ok v xs) : Aside0 (d.R e w base (fun _ => True) v xs) := ⟨Kd.R_mono h (fun _ _ => trivial)⟩
theorem rb_ {α : Type} {d : Kd α} {e base : Nat} {ok : Nat → Prop} {v : Value} {xs : List α} {w W w1 : World} (h : Aside0 (d.R e w base ok v xs)) (hb : Below W.heap.size W w1) (k : d.R e w base ok v xs → d.R e W base ok v xs := by intro h_; (with_reducible repeat (first | apply Kd.R_alloc | apply Kd.R_drewN | apply Kd.R_drew)); exact h_) : Aside0 (d.R e w1 base ok v xs) := ⟨Kd.R_below (k h.out) hb⟩
theorem ob_ {α β : Type} {x : Option α} {f : α → Option β} {r : β} (h : x.bind f = some r) : ∃ a, Aside0 (x = some a) ∧ f a = some r := (Option.bind_eq_some_iff.mp h).imp fun _ h => ⟨⟨h.1⟩, h.2⟩
theorem iq_ {α : Type} {c : Prop} [Decidable c] {x : Option α} {r : α} (h : (if c then x else none) = some r) : c ∧ x = some r := by by_cases hc : c; exact ⟨hc, (if_pos hc).symm.trans h⟩; exact absurd ((if_neg hc).symm.trans h) (by simp)
theorem ip_ {α : Type} {c : Prop} [Decidable c] {x : Option α} {r : α} (h : (if c then x else none) = some r) : c ∧ decide c = true ∧ x = some r := ⟨(iq_ h).1, decide_eq_true (iq_ h).1, (iq_ h).2⟩
theorem bw_0 {w0 W W2 : World} {g t : Nat} {cs : Array Value} {fr : Nat × Nat} (cs' : Array Value) (h : Aside0 (w0.heap[g]? = some (.cells cs t fr))) (hb : Below W.heap.size W W2) (k : w0.heap[g]? = some (.cells cs t fr) → W.heap[g]? = some (.cells cs' t fr) := by intro h_; (repeat (first | (with_reducible first | refine blk_drewN ?_ _ | refine blk_drew ?_ | refine blk_alloc ?_ _ | exact h_ | apply blk_put) | exact h_ | apply blk_put)); all_goals first | with_reducible rfl | (simp only [List.setIfInBounds_toArray, List.set_cons_zero, List.set_cons_succ]; done) | rfl) : Aside0 (W2.heap[g]? = some (.cells cs' t fr)) := ⟨blk_below (k h.out) hb⟩
theorem bw_1 {w0 W W2 : World} {g t : Nat} {cs : Array Value} {fr : Nat × Nat} {a0 : Prop} (cs' : Array Value) (h : Aside0 (w0.heap[g]? = some (.cells cs t fr))) (m0 : Aside0 a0) (hb : Below W.heap.size W W2) (k : w0.heap[g]? = some (.cells cs t fr) → a0 → W.heap[g]? = some (.cells cs' t fr) := by intro h_ n0; (repeat (first | (with_reducible first | refine blk_drewN ?_ _ | refine blk_drew ?_ | refine blk_alloc ?_ _ | exact h_ | apply fr_ n0 | apply blk_put) | exact h_ | apply fr_ n0 | apply blk_put)); all_goals first | with_reducible rfl | (simp only [List.setIfInBounds_toArray, List.set_cons_zero, List.set_cons_succ]; done) | rfl) : Aside0 (W2.heap[g]? = some (.cells cs' t fr)) := ⟨blk_below (k h.out m0.out) hb⟩
theorem nl_ {p : Prop} (h : p := by first | exact Kd.R_nil _ _ _ _ _ | exact Kd.N_nil _ _ _ _ _ | exact Kd.V_nil _ _ _ _ _ | exact Kd.Q_nil _ _ _ _ _ | exact Kd.S_nil _ _ _ _ _) : p := h
theorem hk_ {p q : Prop} (h : Aside0 p) (k : p → q := by intro h_; repeat (first | (with_reducible first | exact h_ | apply KeepBut.set_ | apply keep_drewN | apply keep_drew | apply keep_alloc | (refine keep_far ?_ ?hk_ _; (case hk_ => exact Aside0.out (by assumption)))) | exact h_)) : q := k h.out
end
end Go.Proofs.Ytpigjmjbfpipnaa.Sh
