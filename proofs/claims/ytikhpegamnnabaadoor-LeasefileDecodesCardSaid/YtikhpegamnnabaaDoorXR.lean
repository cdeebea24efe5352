/- Short words for what the printed walks tell again and again: what stays behind new blocks and drawn orders (no condition). -/
import Derived.Test.YtikhpegamnnabaaDoorWMore
import Derived.WalkKit
import Derived.KernelRfl
import Derived.OrdersHeld
import Derived.Deep.QuietTactic
import Derived.BigQuiet
namespace Go.Proofs.YtikhpegamnnabaaDoor.XR
open Go.RowKit Go.Proofs.YtikhpegamnnabaaDoorW.PrintWords Go.Proofs.YtikhpegamnnabaaDoorW.PrintLast Go.Proofs.YtikhpegamnnabaaDoorW.PrintMore
set_option linter.unusedVariables false
class Later (w w' : World) : Prop where
  st : Below w.heap.size w w'
instance later_refl (w : World) : Later w w := ⟨Below.refl _ _⟩
instance later_alloc (w w' : World) (o : Obj) [h : Later w w'] : Later w (w'.alloc o) := ⟨below_alloc h.st o⟩
instance later_drew (w w' : World) [h : Later w w'] : Later w w'.drew := ⟨below_drew1 h.st⟩
instance later_drewN (w w' : World) (n : Nat) [h : Later w w'] : Later w (w'.drewN n) := ⟨pw_below_drewN h.st n⟩
theorem lb {w w' : World} {g : Nat} {o : Obj} (h : w.heap[g]? = some o) [l : Later w w'] : w'.heap[g]? = some o := blk_below h l.st
theorem lR {α : Type} {d : Kd α} {e base : Nat} {ok : Nat → Prop} {v : Value} {xs : List α} {w w' : World} (h : d.R e w base ok v xs) [l : Later w w'] : d.R e w' base ok v xs := Kd.R_below h l.st
theorem lC {α : Type} {d : Kd α} {A : Option Addr} {n : Nat} {xs : List α} {w w' : World} (h : d.C w A n xs) [l : Later w w'] : d.C w' A n xs := Kd.C_below h l.st
theorem lB {w0 w w' : World} (h : Below w0.heap.size w0 w) [l : Later w w'] : Below w0.heap.size w0 w' := ⟨l.st.os.trans h.os, l.st.tape.trans h.tape, l.st.output.trans h.output, Nat.le_trans h.size l.st.size, fun k hk => (l.st.block k (Nat.lt_of_lt_of_le hk h.size)).trans (h.block k hk)⟩
theorem held {u u' : World} {a : Addr} {v : Value} (hb : Below u.heap.size u u') (h : u.cell? a = some v) : u'.cell? a = some v := (hb.cell (World.block_lt_of_cell? _ _ h)).trans h
theorem bb {w w' w1 : World} {g : Nat} {o : Obj} (h : w.heap[g]? = some o) (hb : Below w'.heap.size w' w1) [l : Later w w'] : w1.heap[g]? = some o := blk_below (lb h) hb
theorem bR {α : Type} {d : Kd α} {e base : Nat} {ok : Nat → Prop} {v : Value} {xs : List α} {w w' w1 : World} (h : d.R e w base ok v xs) (hb : Below w'.heap.size w' w1) [l : Later w w'] : d.R e w1 base ok v xs := Kd.R_below (lR h) hb
theorem bB {w0 w w' w1 : World} (h : Below w0.heap.size w0 w) (hb : Below w'.heap.size w' w1) [l : Later w w'] : Below w0.heap.size w0 w1 := below_step (lB h) hb
section
variable {P : Program} {md : Region.Mode} {ops : Array Oper} {Q : Exit → Act → World → Prop} {S : World → Prop} {ds : List Nat} {T : Bool × List (List Nat × List Nat)} {fuel : Nat} {l l' : Array Bool} {a a' : Act} {w : World} {oi : Oper} {v : Value}
theorem pu (i N : Nat) (hT : rtab md ops = T) (h : wpAnyLast P md ops Q S ds fuel l' a' w) (hi : ops[i]? = some oi := by rfl) (hN : oi.dst = some N := by rfl)
    (hl : l.setIfInBounds i true = l' := by (simp only [List.setIfInBounds_toArray, List.set_cons_zero, List.set_cons_succ]; rfl)) (hc : anyT T l.toList l'.toList i = true := by kernel_rfl)
    (hQ : ∀ c a w, Q (.panic c) (a.put oi.dst v) w → Q (.panic c) a w := by exact fun _ _ _ h => h) (hy : Yields P ops oi v a := by (refine Or.inl ⟨by rfl, ?_⟩; intro w'; go_simp; with_reducible rfl))
    (ha : a.put (some N) v = a' := by (simp only [Act.put, List.setIfInBounds_toArray, List.set_cons_zero, List.set_cons_succ, i64_w, i32_w]; rfl)) : wpAnyLast P md ops Q S ds (fuel + 1) l a w :=
  pure_ l' hi hN (any_of hT hc) hQ hy ha h
theorem pn (i N : Nat) (hT : rtab md ops = T) (h : wpAnyLast P md ops Q S ds fuel l' a' w) (hi : ops[i]? = some oi := by rfl) (hN : oi.dst = some N := by rfl)
    (hl : l.setIfInBounds i true = l' := by (simp only [List.setIfInBounds_toArray, List.set_cons_zero, List.set_cons_succ]; rfl)) (hc : anyT T l.toList l'.toList i = true := by kernel_rfl)
    (hQ : ∀ c a w, Q (.panic c) (a.put oi.dst undef) w → Q (.panic c) a w := by exact fun _ _ _ h => h) (hy : Yields P ops oi undef a := by exact Or.inr ⟨by rfl, rfl⟩)
    (ha : a.put (some N) undef = a' := by (simp only [Act.put, List.setIfInBounds_toArray, List.set_cons_zero, List.set_cons_succ, i64_w, i32_w]; rfl)) : wpAnyLast P md ops Q S ds (fuel + 1) l a w :=
  pure_ l' hi hN (any_of hT hc) hQ hy ha h
theorem ta {B : List Nat} (i N : Nat) (hT : rtab md ops = T) (hB : waitsOk T.2 B = true) (hS : S w) (h : wpAnyLast P md ops Q S ds fuel l' a' w) (hi : ops[i]? = some oi := by rfl) (hN : oi.dst = some N := by rfl)
    (hl : l.setIfInBounds i true = l' := by (simp only [List.setIfInBounds_toArray, List.set_cons_zero, List.set_cons_succ]; rfl)) (hc : takeW T B ds l.toList l'.toList i = true := by kernel_rfl)
    (hQ : ∀ c a w, Q (.panic c) (a.put oi.dst v) w → Q (.panic c) a w := by exact fun _ _ _ h => h)
    (hy : YieldsIf P ops S oi v a := by (refine Or.inl ⟨by rfl, ?_⟩; intro w' hs; (repeat (have h_ := And.left hs; replace hs := And.right hs)); go_simp; with_reducible rfl))
    (ha : a.put (some N) v = a' := by (simp only [Act.put, List.setIfInBounds_toArray, List.set_cons_zero, List.set_cons_succ, i64_w, i32_w]; rfl)) : wpAnyLast P md ops Q S ds (fuel + 1) l a w :=
  take_ l' hi hN (take_ofW hT hB hc) hQ hy hS ha h
theorem on (i : Nat) (N : Option Tmp) (hT : rtab md ops = T) (h : ∀ K : Act → World → Prop, Shut (∀ a' w', S w' → (S w' → wpAnyLast P md ops Q S ds fuel l' a' w') → K a' w') → if Region.wanted oi (yielded ops a.tmps) = true then Oper.wp P oi a w K Q else K (a.put N undef) w)
    (hi : ops[i]? = some oi := by rfl) (hN : oi.dst = N := by rfl) (hl : l.setIfInBounds i true = l' := by (simp only [List.setIfInBounds_toArray, List.set_cons_zero, List.set_cons_succ]; rfl))
    (hc : (readyT T.2 l.toList == [i] && l.toList.set i true == l'.toList) = true := by kernel_rfl) (hd : i ∉ ds := by decide) : wpAnyLast P md ops Q S ds (fuel + 1) l a w :=
  one_ l' hi hN (one_of hT hc) hd h
end
theorem sB {w w1 w2 : World} (h : Below w.heap.size w w1) (t : Below w.heap.size w w1 → Below w.heap.size w w2 := by intro h_; repeat (first | (with_reducible first | exact h_ | apply below_alloc | apply pw_below_drewN | apply below_drew1 | refine below_set ?_ (Aside0.out (by assumption))) | exact h_)) : Below w.heap.size w w2 := t h
theorem ge {w w1 w2 : World} {g : Nat} (hg : g = w2.heap.size) (h : Below w.heap.size w w1) (t : Below w.heap.size w w1 → Below w.heap.size w w2 := by intro h_; repeat (first | (with_reducible first | exact h_ | apply below_alloc | apply pw_below_drewN | apply below_drew1 | refine below_set ?_ (Aside0.out (by assumption))) | exact h_)) : w.heap.size ≤ g := by
  rw [hg]
  exact below_size (t h)
theorem ne {w1 w2 : World} {g g' : Nat} {o : Obj} (hg : g' = w2.heap.size) (h : w1.heap[g]? = some o) [l : Later w1 w2] : g ≠ g' := by
  rw [hg]
  exact Nat.ne_of_lt (blk_lt (lb h))
theorem en {w1 w2 : World} {g g' : Nat} {o : Obj} (hg : g' = w2.heap.size) (h : w1.heap[g]? = some o) [l : Later w1 w2] : g' ≠ g := by
  rw [hg]
  exact Nat.ne_of_gt (blk_lt (lb h))
section
variable {P : Program} {ops : Array Oper} {Q : Exit → Act → World → Prop} {rest : List Oper} {oi : Oper} {a : Act} {w : World} {f : FuncId} {fn : Func} {as : Array Operand} {ts : Array TypeId}
theorem gL (N : Nat) (hf : P.funcs[f]? = some fn) (args : Array Value) (h : Calls P f args w fun e w' => ∃ v, e = .returned v ∧ wpList P ops Q rest (a.put (some N) v) w') (hd : oi.dst = some N := by rfl) (hg : oi.guard = none := by rfl)
    (hname : (fn.name == "runtime.NumGoroutine") = false := by kernel_rfl) (hb : fn.body.isSome = true := by rfl) (hop : oi.op = .call { callee := .value (.func f), args := as, argTypes := ts } := by rfl)
    (hargs : as.map a.eval = args := by first | rfl | (simp only [List.map_toArray, List.map_cons, List.map_nil, List.length_drop, List.length_take] <;> rfl)) : wpList P ops Q (oi :: rest) a w := goesL_ (some N) hd hg hf hname hb args hop hargs h
theorem gO {K : Act → World → Prop} {N : Option Tmp} (hf : P.funcs[f]? = some fn) (args : Array Value) (h : Calls P f args w fun e w' => ∃ v, e = .returned v ∧ K (a.put N v) w') (hname : (fn.name == "runtime.NumGoroutine") = false := by kernel_rfl) (hb : fn.body.isSome = true := by rfl)
    (hw : Region.wanted oi (yielded ops a.tmps) = true := by rfl) (hN : oi.dst = N := by rfl) (hop : oi.op = .call { callee := .value (.func f), args := as, argTypes := ts } := by rfl)
    (hargs : as.map a.eval = args := by first | rfl | (simp only [List.map_toArray, List.map_cons, List.map_nil, List.length_drop, List.length_take] <;> rfl)) : if Region.wanted oi (yielded ops a.tmps) = true then Oper.wp P oi a w K Q else K (a.put N undef) w := goes_ hf hname hb args hw hN hop hargs h
theorem bx (N : Nat) (t : TypeId) (cs : Array Value) (h : ∀ g, g = w.heap.size → ∀ w1, w1.heap[g]? = some (.cells cs t (0, 0)) → Below w.heap.size w w1 → wpList P ops Q rest (a.put oi.dst (.pointer (some ⟨g, 0, none⟩))) w1) (hd : oi.dst = some N := by rfl) (hgd : oi.guard = none := by rfl)
    (hrun : (execOp a.eval oi).run P w = .ok (.value (.pointer (some ⟨w.heap.size, 0, none⟩))) (w.alloc (.cells cs t (0, 0))) := by first | (go_simp; done) | (go_simp; rfl)) : wpList P ops Q (oi :: rest) a w := box_event hgd hd hrun h
end
theorem od {p : Prop} [Decidable p] (h : decide p = true := by first | (with_reducible assumption) | assumption) : p := of_decide_eq_true h
theorem rf {p : Prop} (h : p := by first | rfl | (simp; done) | (simp [*]; done)) : p := h
theorem om {p : Prop} (h : p := by first | omega | exact Nat.le_refl _) : Aside0 p := ⟨h⟩
theorem ok {p q : Prop} (h : q) (t : q → p := by intro h_; first | omega | exact Nat.le_refl _) : Aside0 p := ⟨t h⟩
theorem fb {w1 w2 : World} {g : Nat} {o : Obj} (h : w1.heap[g]? = some o) (t : w1.heap[g]? = some o → w2.heap[g]? = some o := by intro h_; (with_reducible repeat (first | refine blk_far ?_ (Aside0.out (by assumption)) _ | refine blk_drewN ?_ _ | refine blk_drew ?_ | refine blk_alloc ?_ _)); exact h_) : Aside0 (w2.heap[g]? = some o) := ⟨t h⟩
theorem re {p : Prop} {w w1 w2 : World} (h : Below w.heap.size w w1) (e : p := by first | rfl | (simp [errW_none, errW_some] <;> rfl) | (simp [*, errW_none, errW_some] <;> rfl)) (t : Below w.heap.size w w1 → Below w.heap.size w w2 := by intro h_; repeat (first | (with_reducible first | exact h_ | apply below_alloc | apply pw_below_drewN | apply below_drew1 | refine below_set ?_ (Aside0.out (by assumption))) | exact h_)) : p ∧ Below w.heap.size w w2 := ⟨e, t h⟩
class Away (g : Nat) (w w' : World) : Prop where
  sz : w.heap.size ≤ w'.heap.size
  st : ∀ k, k < w.heap.size → k ≠ g → w'.heap[k]? = w.heap[k]?
instance away_refl (g : Nat) (w : World) : Away g w w := ⟨Nat.le_refl _, fun _ _ _ => rfl⟩
instance away_set (g j : Nat) (w w' : World) (u : Value) [h : Away g w w'] : Away g w (w'.setCell ⟨g, j, none⟩ u) := ⟨by simpa [World.setCell] using h.sz, fun k hk hn => (Below.heap_setCell w' ⟨g, j, none⟩ u k hn).trans (h.st k hk hn)⟩
instance away_alloc (g : Nat) (w w' : World) (o : Obj) [h : Away g w w'] : Away g w (w'.alloc o) := ⟨Nat.le_trans h.sz (below_alloc (Below.refl _ _) o).size, fun k hk hn => ((below_alloc (Below.refl _ _) o).block k (Nat.lt_of_lt_of_le hk h.sz)).trans (h.st k hk hn)⟩
instance away_drew (g : Nat) (w w' : World) [h : Away g w w'] : Away g w w'.drew := ⟨h.sz, h.st⟩
instance away_drewN (g : Nat) (w w' : World) (n : Nat) [h : Away g w w'] : Away g w (w'.drewN n) := ⟨h.sz, h.st⟩
section
variable {α : Type} {d : Kd α} {e base : Nat} {ok : Nat → Prop} {v : Value} {xs : List α} {w w' : World} {g : Nat}
theorem aR (h : d.R e w base (fun k => ok k ∧ k ≠ g) v xs) [l : Away g w w'] : d.R e w' base (fun k => ok k ∧ k ≠ g) v xs := Kd.R_step h (fun k hk hlt => l.st k hlt hk.2)
theorem aS (h : Kd.S d e w base (fun k => ok k ∧ k ≠ g) v xs) [l : Away g w w'] : Kd.S d e w' base (fun k => ok k ∧ k ≠ g) v xs := Kd.S_step h (fun k hk hlt => l.st k hlt hk.2)
end
theorem aC {w w' : World} {g : Nat} {a : Addr} {v : Value} (hn : a.block ≠ g) (h : w.cell? a = some v) [l : Away g w w'] : w'.cell? a = some v := by
  have := l.st a.block (World.block_lt_of_cell? w a h) hn
  simpa [World.cell?, this] using h
theorem c3 {w : World} {g : Nat} {t : TypeId} {a0 a1 a2 : Value} (h : w.heap[g]? = some (.cells #[a0, a1, a2] t (0, 0))) : w.cell? ⟨g, 0, none⟩ = some a0 ∧ w.cell? ⟨g, 1, none⟩ = some a1 ∧ w.cell? ⟨g, 2, none⟩ = some a2 := ⟨(blk_cell h 0).trans rfl, (blk_cell h 1).trans rfl, (blk_cell h 2).trans rfl⟩
theorem f3 {w : World} {g : Nat} {t : TypeId} {cs : Array Value} (h : w.heap[g]? = some (.cells cs t (0, 0))) : w.frozen? ⟨g, 0, none⟩ = false ∧ w.frozen? ⟨g, 1, none⟩ = false ∧ w.frozen? ⟨g, 2, none⟩ = false := ⟨blk_frozen h 0, blk_frozen h 1, blk_frozen h 2⟩
theorem c4 {w : World} {g : Nat} {t : TypeId} {a0 a1 a2 a3 : Value} (h : w.heap[g]? = some (.cells #[a0, a1, a2, a3] t (0, 0))) : w.cell? ⟨g, 0, none⟩ = some a0 ∧ w.cell? ⟨g, 1, none⟩ = some a1 ∧ w.cell? ⟨g, 2, none⟩ = some a2 ∧ w.cell? ⟨g, 3, none⟩ = some a3 := ⟨(blk_cell h 0).trans rfl, (blk_cell h 1).trans rfl, (blk_cell h 2).trans rfl, (blk_cell h 3).trans rfl⟩
theorem f4 {w : World} {g : Nat} {t : TypeId} {cs : Array Value} (h : w.heap[g]? = some (.cells cs t (0, 0))) : w.frozen? ⟨g, 0, none⟩ = false ∧ w.frozen? ⟨g, 1, none⟩ = false ∧ w.frozen? ⟨g, 2, none⟩ = false ∧ w.frozen? ⟨g, 3, none⟩ = false := ⟨blk_frozen h 0, blk_frozen h 1, blk_frozen h 2, blk_frozen h 3⟩
theorem c9 {w : World} {g : Nat} {t : TypeId} {a0 a1 a2 a3 a4 a5 a6 a7 a8 : Value} (h : w.heap[g]? = some (.cells #[a0, a1, a2, a3, a4, a5, a6, a7, a8] t (0, 0))) : w.cell? ⟨g, 0, none⟩ = some a0 ∧ w.cell? ⟨g, 1, none⟩ = some a1 ∧ w.cell? ⟨g, 2, none⟩ = some a2 ∧ w.cell? ⟨g, 3, none⟩ = some a3 ∧ w.cell? ⟨g, 4, none⟩ = some a4 ∧ w.cell? ⟨g, 5, none⟩ = some a5 ∧ w.cell? ⟨g, 6, none⟩ = some a6 ∧ w.cell? ⟨g, 7, none⟩ = some a7 ∧ w.cell? ⟨g, 8, none⟩ = some a8 := ⟨(blk_cell h 0).trans rfl, (blk_cell h 1).trans rfl, (blk_cell h 2).trans rfl, (blk_cell h 3).trans rfl, (blk_cell h 4).trans rfl, (blk_cell h 5).trans rfl, (blk_cell h 6).trans rfl, (blk_cell h 7).trans rfl, (blk_cell h 8).trans rfl⟩
theorem f9 {w : World} {g : Nat} {t : TypeId} {cs : Array Value} (h : w.heap[g]? = some (.cells cs t (0, 0))) : w.frozen? ⟨g, 0, none⟩ = false ∧ w.frozen? ⟨g, 1, none⟩ = false ∧ w.frozen? ⟨g, 2, none⟩ = false ∧ w.frozen? ⟨g, 3, none⟩ = false ∧ w.frozen? ⟨g, 4, none⟩ = false ∧ w.frozen? ⟨g, 5, none⟩ = false ∧ w.frozen? ⟨g, 6, none⟩ = false ∧ w.frozen? ⟨g, 7, none⟩ = false ∧ w.frozen? ⟨g, 8, none⟩ = false := ⟨blk_frozen h 0, blk_frozen h 1, blk_frozen h 2, blk_frozen h 3, blk_frozen h 4, blk_frozen h 5, blk_frozen h 6, blk_frozen h 7, blk_frozen h 8⟩
theorem p3 {w : World} {g : Nat} {t : TypeId} {b0 b1 b2 a0 a1 a2 : Value} (h : w.heap[g]? = some (.cells #[b0, b1, b2] t (0, 0))) : (((w.setCell ⟨g, 0, none⟩ a0).setCell ⟨g, 1, none⟩ a1).setCell ⟨g, 2, none⟩ a2).heap[g]? = some (.cells #[a0, a1, a2] t (0, 0)) := by
  have h0 : (w.setCell ⟨g, 0, none⟩ a0).heap[g]? = some (.cells #[a0, b1, b2] t (0, 0)) := blk_put (cs := #[b0, b1, b2]) h 0 a0 rfl
  have h1 : ((w.setCell ⟨g, 0, none⟩ a0).setCell ⟨g, 1, none⟩ a1).heap[g]? = some (.cells #[a0, a1, b2] t (0, 0)) := blk_put (cs := #[a0, b1, b2]) h0 1 a1 rfl
  have h2 : (((w.setCell ⟨g, 0, none⟩ a0).setCell ⟨g, 1, none⟩ a1).setCell ⟨g, 2, none⟩ a2).heap[g]? = some (.cells #[a0, a1, a2] t (0, 0)) := blk_put (cs := #[a0, a1, b2]) h1 2 a2 rfl
  exact h2
theorem p4 {w : World} {g : Nat} {t : TypeId} {b0 b1 b2 b3 a0 a1 a2 a3 : Value} (h : w.heap[g]? = some (.cells #[b0, b1, b2, b3] t (0, 0))) : ((((w.setCell ⟨g, 0, none⟩ a0).setCell ⟨g, 1, none⟩ a1).setCell ⟨g, 2, none⟩ a2).setCell ⟨g, 3, none⟩ a3).heap[g]? = some (.cells #[a0, a1, a2, a3] t (0, 0)) := by
  have h0 : (w.setCell ⟨g, 0, none⟩ a0).heap[g]? = some (.cells #[a0, b1, b2, b3] t (0, 0)) := blk_put (cs := #[b0, b1, b2, b3]) h 0 a0 rfl
  have h1 : ((w.setCell ⟨g, 0, none⟩ a0).setCell ⟨g, 1, none⟩ a1).heap[g]? = some (.cells #[a0, a1, b2, b3] t (0, 0)) := blk_put (cs := #[a0, b1, b2, b3]) h0 1 a1 rfl
  have h2 : (((w.setCell ⟨g, 0, none⟩ a0).setCell ⟨g, 1, none⟩ a1).setCell ⟨g, 2, none⟩ a2).heap[g]? = some (.cells #[a0, a1, a2, b3] t (0, 0)) := blk_put (cs := #[a0, a1, b2, b3]) h1 2 a2 rfl
  have h3 : ((((w.setCell ⟨g, 0, none⟩ a0).setCell ⟨g, 1, none⟩ a1).setCell ⟨g, 2, none⟩ a2).setCell ⟨g, 3, none⟩ a3).heap[g]? = some (.cells #[a0, a1, a2, a3] t (0, 0)) := blk_put (cs := #[a0, a1, a2, b3]) h2 3 a3 rfl
  exact h3
theorem p9 {w : World} {g : Nat} {t : TypeId} {b0 b1 b2 b3 b4 b5 b6 b7 b8 a0 a1 a2 a3 a4 a5 a6 a7 a8 : Value} (h : w.heap[g]? = some (.cells #[b0, b1, b2, b3, b4, b5, b6, b7, b8] t (0, 0))) : (((((((((w.setCell ⟨g, 0, none⟩ a0).setCell ⟨g, 1, none⟩ a1).setCell ⟨g, 2, none⟩ a2).setCell ⟨g, 3, none⟩ a3).setCell ⟨g, 4, none⟩ a4).setCell ⟨g, 5, none⟩ a5).setCell ⟨g, 6, none⟩ a6).setCell ⟨g, 7, none⟩ a7).setCell ⟨g, 8, none⟩ a8).heap[g]? = some (.cells #[a0, a1, a2, a3, a4, a5, a6, a7, a8] t (0, 0)) := by
  have h0 : (w.setCell ⟨g, 0, none⟩ a0).heap[g]? = some (.cells #[a0, b1, b2, b3, b4, b5, b6, b7, b8] t (0, 0)) := blk_put (cs := #[b0, b1, b2, b3, b4, b5, b6, b7, b8]) h 0 a0 rfl
  have h1 : ((w.setCell ⟨g, 0, none⟩ a0).setCell ⟨g, 1, none⟩ a1).heap[g]? = some (.cells #[a0, a1, b2, b3, b4, b5, b6, b7, b8] t (0, 0)) := blk_put (cs := #[a0, b1, b2, b3, b4, b5, b6, b7, b8]) h0 1 a1 rfl
  have h2 : (((w.setCell ⟨g, 0, none⟩ a0).setCell ⟨g, 1, none⟩ a1).setCell ⟨g, 2, none⟩ a2).heap[g]? = some (.cells #[a0, a1, a2, b3, b4, b5, b6, b7, b8] t (0, 0)) := blk_put (cs := #[a0, a1, b2, b3, b4, b5, b6, b7, b8]) h1 2 a2 rfl
  have h3 : ((((w.setCell ⟨g, 0, none⟩ a0).setCell ⟨g, 1, none⟩ a1).setCell ⟨g, 2, none⟩ a2).setCell ⟨g, 3, none⟩ a3).heap[g]? = some (.cells #[a0, a1, a2, a3, b4, b5, b6, b7, b8] t (0, 0)) := blk_put (cs := #[a0, a1, a2, b3, b4, b5, b6, b7, b8]) h2 3 a3 rfl
  have h4 : (((((w.setCell ⟨g, 0, none⟩ a0).setCell ⟨g, 1, none⟩ a1).setCell ⟨g, 2, none⟩ a2).setCell ⟨g, 3, none⟩ a3).setCell ⟨g, 4, none⟩ a4).heap[g]? = some (.cells #[a0, a1, a2, a3, a4, b5, b6, b7, b8] t (0, 0)) := blk_put (cs := #[a0, a1, a2, a3, b4, b5, b6, b7, b8]) h3 4 a4 rfl
  have h5 : ((((((w.setCell ⟨g, 0, none⟩ a0).setCell ⟨g, 1, none⟩ a1).setCell ⟨g, 2, none⟩ a2).setCell ⟨g, 3, none⟩ a3).setCell ⟨g, 4, none⟩ a4).setCell ⟨g, 5, none⟩ a5).heap[g]? = some (.cells #[a0, a1, a2, a3, a4, a5, b6, b7, b8] t (0, 0)) := blk_put (cs := #[a0, a1, a2, a3, a4, b5, b6, b7, b8]) h4 5 a5 rfl
  have h6 : (((((((w.setCell ⟨g, 0, none⟩ a0).setCell ⟨g, 1, none⟩ a1).setCell ⟨g, 2, none⟩ a2).setCell ⟨g, 3, none⟩ a3).setCell ⟨g, 4, none⟩ a4).setCell ⟨g, 5, none⟩ a5).setCell ⟨g, 6, none⟩ a6).heap[g]? = some (.cells #[a0, a1, a2, a3, a4, a5, a6, b7, b8] t (0, 0)) := blk_put (cs := #[a0, a1, a2, a3, a4, a5, b6, b7, b8]) h5 6 a6 rfl
  have h7 : ((((((((w.setCell ⟨g, 0, none⟩ a0).setCell ⟨g, 1, none⟩ a1).setCell ⟨g, 2, none⟩ a2).setCell ⟨g, 3, none⟩ a3).setCell ⟨g, 4, none⟩ a4).setCell ⟨g, 5, none⟩ a5).setCell ⟨g, 6, none⟩ a6).setCell ⟨g, 7, none⟩ a7).heap[g]? = some (.cells #[a0, a1, a2, a3, a4, a5, a6, a7, b8] t (0, 0)) := blk_put (cs := #[a0, a1, a2, a3, a4, a5, a6, b7, b8]) h6 7 a7 rfl
  have h8 : (((((((((w.setCell ⟨g, 0, none⟩ a0).setCell ⟨g, 1, none⟩ a1).setCell ⟨g, 2, none⟩ a2).setCell ⟨g, 3, none⟩ a3).setCell ⟨g, 4, none⟩ a4).setCell ⟨g, 5, none⟩ a5).setCell ⟨g, 6, none⟩ a6).setCell ⟨g, 7, none⟩ a7).setCell ⟨g, 8, none⟩ a8).heap[g]? = some (.cells #[a0, a1, a2, a3, a4, a5, a6, a7, a8] t (0, 0)) := blk_put (cs := #[a0, a1, a2, a3, a4, a5, a6, a7, b8]) h7 8 a8 rfl
  exact h8
end Go.Proofs.YtikhpegamnnabaaDoor.XR
