/- Words: a struct of many cells read out of its box as one step (no condition). -/
import Derived.Test.YtikhpegamnnabaaDoorXR
import Derived.Deep.MidRow
namespace Go.Proofs.YtikhpegamnnabaaDoor.XL
open Go.RowKit Go.Proofs.YtikhpegamnnabaaDoorW.PrintWords Go.Proofs.YtikhpegamnnabaaDoorW.PrintLast Go.Proofs.YtikhpegamnnabaaDoorW.PrintMore
def pre (w : World) (g : Nat) (R : Prop) : Nat → List Value → Prop
  | _, [] => R
  | o, v :: vs => w.cell? ⟨g, o, none⟩ = some v ∧ pre w g R (o + 1) vs
def lst (w : World) (g : Nat) : Nat → List Value → Prop
  | _, [] => True
  | o, [v] => w.cell? ⟨g, o, none⟩ = some v
  | o, v :: u :: vs => w.cell? ⟨g, o, none⟩ = some v ∧ lst w g (o + 1) (u :: vs)
theorem pre_range {w : World} {g : Nat} {R : Prop} : ∀ (cs : List Value) (o : Nat), pre w g R o cs → w.rangeAt g o cs
  | [], o, _ => fun j v h => by simp at h
  | c :: cs, o, h => fun j v hj => by
    cases j with
    | zero => simp at hj; subst hj; exact h.1
    | succ j => have := pre_range cs (o + 1) h.2 j v (by simpa using hj); rwa [Nat.add_assoc, Nat.add_comm 1 j] at this
theorem lst_range {w : World} {g : Nat} : ∀ (cs : List Value) (o : Nat), lst w g o cs → w.rangeAt g o cs
  | [], o, _ => fun j v h => by simp at h
  | [c], o, h => fun j v hj => by
    cases j with
    | zero => simp at hj; subst hj; exact h
    | succ j => simp at hj
  | c :: u :: cs, o, h => fun j v hj => by
    cases j with
    | zero => simp at hj; subst hj; exact h.1
    | succ j => have := lst_range (u :: cs) (o + 1) h.2 j v (by simpa using hj); rwa [Nat.add_assoc, Nat.add_comm 1 j] at this
section
variable {P : Program} {md : Region.Mode} {ops : Array Oper} {T : Bool × List (List Nat × List Nat)} {oi : Oper} {a a' : Act} {w : World} {l l' : Array Bool} {ds : List Nat} {fuel : Nat} {Q : Exit → Act → World → Prop} {S : World → Prop}
theorem tl {B : List Nat} (i N : Nat) (ty : TypeId) (x : Operand) (g : Nat) (cs : List Value) {d : TypeDesc} (hu : P.underlying ty = some d) (hr : ∀ w, S w → w.rangeAt g 0 cs) (hT : rtab md ops = T) (hB : waitsOk T.2 B = true) (hS : S w) (h : wpAnyLast P md ops Q S ds fuel l' a' w) (hi : ops[i]? = some oi := by rfl) (hN : oi.dst = some N := by rfl)
    (_hl : l.setIfInBounds i true = l' := by (simp only [List.setIfInBounds_toArray, List.set_cons_zero, List.set_cons_succ]; rfl)) (hc : takeW T B ds l.toList l'.toList i = true := by kernel_rfl)
    (hQ : ∀ c a w, Q (.panic c) (a.put oi.dst (.agg cs.toArray)) w → Q (.panic c) a w := by exact fun _ _ _ h => h)
    (ho : oi.op = .load ty x := by rfl) (hx : a.eval x = .pointer (some ⟨g, 0, none⟩) := by rfl) (hd : d.isRow = true := by rfl) (hz : (P.info? ty).map (·.size) = some cs.length := by rfl) (hw : Region.wanted oi (yielded ops a.tmps) = true := by rfl)
    (ha : a.put (some N) (.agg cs.toArray) = a' := by (simp only [Act.put, List.setIfInBounds_toArray, List.set_cons_zero, List.set_cons_succ, i64_w, i32_w]; rfl)) : wpAnyLast P md ops Q S ds (fuel + 1) l a w :=
  take_ l' hi hN (take_ofW hT hB hc) hQ (yieldsIf_load_mid hw ty x ho g 0 hx cs d hr hu hd hz) hS ha h
end
section
variable {P : Program} {ops : Array Oper} {o : Oper} {rest : List Oper} {a : Act} {W : World} {Q : Exit → Act → World → Prop}
theorem gate_ld (t : TypeId) (p : Tmp) (_ho : o.op = .load t (.tmp p)) (h : wpList P ops Q (o :: rest) a W) : wpList P ops Q (o :: rest) a W := h
theorem rng {w : World} {g : Nat} {t : TypeId} {cs : List Value} (h : w.heap[g]? = some (.cells cs.toArray t (0, 0))) : w.rangeAt g 0 cs := fun j v hj => by
  rw [Nat.zero_add]; exact (blk_cell h j).trans (by simpa using hj)
theorem thr {w : World} {g : Nat} {t : TypeId} {cs : List Value} {n : Nat} (h : w.heap[g]? = some (.cells cs.toArray t (0, 0))) (hn : cs.length = n) : w.there g 0 n := fun j hj => by
  rw [Nat.zero_add]; exact ⟨by rw [blk_cell h j]; simp [hn, hj], blk_frozen h j⟩
theorem ldL (ty : TypeId) (x : Operand) (g : Nat) (cs : List Value) {d : TypeDesc} (hu : P.underlying ty = some d) {N : Tmp} {a' : Act} (hr : W.rangeAt g 0 cs) (h : wpList P ops Q rest a' W) (hgd : Region.wanted o (yielded ops a.tmps) = true := by rfl) (hN : o.dst = some N := by rfl)
    (ho : o.op = .load ty x := by rfl) (hx : a.eval x = .pointer (some ⟨g, 0, none⟩) := by rfl) (hd : d.isRow = true := by rfl) (hz : (P.info? ty).map (·.size) = some cs.length := by rfl)
    (ha : a.put (some N) (.agg cs.toArray) = a' := by (simp only [Act.put, List.setIfInBounds_toArray, List.set_cons_zero, List.set_cons_succ, i64_w, i32_w]; rfl)) : wpList P ops Q (o :: rest) a W :=
  gate_guard hgd (wpList_load_mid (show ({ o with guard := none } : Oper).guard = none from rfl) ty x ho g 0 hx cs d hr hu hd hz (by show wpList P ops Q rest (a.put o.dst _) W; rw [hN, ha]; exact h))
theorem stL (ty : TypeId) (p : Tmp) (v : Operand) (g : Nat) (cs0 cs : List Value) {t' : TypeId} {W' : World} (hb : W.heap[g]? = some (.cells cs0.toArray t' (0, 0))) (h : wpList P ops Q rest a W') (hgd : Region.wanted o (yielded ops a.tmps) = true := by rfl) (hd : o.dst = none := by rfl)
    (ho : o.op = .store ty (.tmp p) v := by rfl) (hx : a.eval (.tmp p) = .pointer (some ⟨g, 0, none⟩) := by rfl) (hy : a.eval v = .agg cs.toArray := by rfl) (hl : cs0.length = cs.toArray.size := by rfl)
    (hz : (P.info? ty).map (·.size) = some cs.toArray.size := by rfl) (h1 : cs.all (·.oneCell') = true := by rfl) (hW : W.setCells g 0 cs = W' := by (simp only [World.setCells, Nat.reduceAdd, Nat.zero_add]; rfl)) : wpList P ops Q (o :: rest) a W :=
  gate_guard hgd (wpList_store_mid (show ({ o with guard := none } : Oper).guard = none from rfl) ty (.tmp p) v ho g 0 cs.toArray hx hy (thr hb hl) hz (all_oneCell_toArray (fun v hv => List.all_eq_true.mp h1 v hv)) (by show wpList P ops Q rest (a.put o.dst undef) _; rw [hd]; show wpList P ops Q rest a (W.setCells g 0 cs.toArray.toList); rw [show cs.toArray.toList = cs from rfl, hW]; exact h))
end
section
variable {P : Program} {ops : Array Oper} {oi : Oper} {a : Act} {w w1 : World} {K : Act → World → Prop} {Q : Exit → Act → World → Prop}
theorem hr (ty : TypeId) (x v : Operand) (g : Nat) (cs0 cs : List Value) {t' : TypeId} (hb : w.heap[g]? = some (.cells cs0.toArray t' (0, 0)))
    (ho : oi.op = .store ty x v := by rfl) (hx : a.eval x = .pointer (some ⟨g, 0, none⟩) := by rfl) (hy : a.eval v = .agg cs.toArray := by rfl) (hl : cs0.length = cs.toArray.size := by rfl)
    (hz : (P.info? ty).map (·.size) = some cs.toArray.size := by rfl) (h1 : cs.all (·.oneCell') = true := by rfl) (hW : w.setCells g 0 cs = w1 := by (simp only [World.setCells, Nat.reduceAdd, Nat.zero_add] <;> rfl)) :
    (execOp a.eval oi).run P w = .ok .skip w1 := by
  unfold execOp
  simp only [ho, hx, hy, Sem.run_bind, run_storeAt_mid w g 0 ty cs.toArray (thr hb hl) hz (all_oneCell_toArray (fun v hv => List.all_eq_true.mp h1 v hv)), Result.andThen_ok, Sem.run_pure]
  rw [hW]
theorem sk (ty : TypeId) (x v : Operand) (g : Nat) (cs0 cs : List Value) {t' : TypeId} (hb : w.heap[g]? = some (.cells cs0.toArray t' (0, 0))) (h : K a w1) (hw : Region.wanted oi (yielded ops a.tmps) = true := by rfl) (hN : oi.dst = none := by rfl)
    (ho : oi.op = .store ty x v := by rfl) (hx : a.eval x = .pointer (some ⟨g, 0, none⟩) := by rfl) (hy : a.eval v = .agg cs.toArray := by rfl) (hl : cs0.length = cs.toArray.size := by rfl)
    (hz : (P.info? ty).map (·.size) = some cs.toArray.size := by rfl) (h1 : cs.all (·.oneCell') = true := by rfl) (hW : w.setCells g 0 cs = w1 := by (simp only [World.setCells, Nat.reduceAdd, Nat.zero_add]; rfl)) :
    if Region.wanted oi (yielded ops a.tmps) = true then Oper.wp P oi a w K Q else K (a.put none undef) w := by
  rw [if_pos hw]
  refine wp_store_mid ty x v ho g 0 cs.toArray hx hy (thr hb hl) hz (all_oneCell_toArray (fun v hv => List.all_eq_true.mp h1 v hv)) ?_
  rw [hN]
  show K a (w.setCells g 0 cs.toArray.toList)
  rw [show cs.toArray.toList = cs from rfl, hW]
  exact h
end
def er (w : World) (A : Addr) (cs : List Value) : Prop := ∀ j v, cs[j]? = some v → w.cell? (A.add j) = some v
def epn (w : World) (A : Addr) (R : Prop) : Nat → List Value → Prop
  | _, [] => R
  | n, v :: vs => w.cell? ⟨A.block, A.off + n, none⟩ = some v ∧ epn w A R (n + 1) vs
def eln (w : World) (A : Addr) : Nat → List Value → Prop
  | _, [] => True
  | n, [v] => w.cell? ⟨A.block, A.off + n, none⟩ = some v
  | n, v :: u :: vs => w.cell? ⟨A.block, A.off + n, none⟩ = some v ∧ eln w A (n + 1) (u :: vs)
def ep (w : World) (A : Addr) (R : Prop) : List Value → Prop
  | [] => R
  | v :: vs => w.cell? A = some v ∧ epn w A R 1 vs
def el (w : World) (A : Addr) : List Value → Prop
  | [] => True
  | [v] => w.cell? A = some v
  | v :: u :: vs => w.cell? A = some v ∧ eln w A 1 (u :: vs)
theorem add0 (A : Addr) : A.add 0 = A := by simp [Addr.add]
theorem addn (A : Addr) (n : Nat) (h : 0 < n) : A.add n = ⟨A.block, A.off + n, none⟩ := by
  unfold Addr.add
  rw [if_neg (by omega)]
theorem epn_at {w : World} {A : Addr} {R : Prop} : ∀ (cs : List Value) (n : Nat), epn w A R n cs → ∀ j v, cs[j]? = some v → w.cell? ⟨A.block, A.off + (n + j), none⟩ = some v
  | [], n, _ => fun j v h => by simp at h
  | c :: cs, n, h => fun j v hj => by
    cases j with
    | zero => simp at hj; subst hj; exact h.1
    | succ j => have := epn_at cs (n + 1) h.2 j v (by simpa using hj); rwa [Nat.add_assoc n 1 j, Nat.add_comm 1 j] at this
theorem eln_at {w : World} {A : Addr} : ∀ (cs : List Value) (n : Nat), eln w A n cs → ∀ j v, cs[j]? = some v → w.cell? ⟨A.block, A.off + (n + j), none⟩ = some v
  | [], n, _ => fun j v h => by simp at h
  | [c], n, h => fun j v hj => by
    cases j with
    | zero => simp at hj; subst hj; exact h
    | succ j => simp at hj
  | c :: u :: cs, n, h => fun j v hj => by
    cases j with
    | zero => simp at hj; subst hj; exact h.1
    | succ j => have := eln_at (u :: cs) (n + 1) h.2 j v (by simpa using hj); rwa [Nat.add_assoc n 1 j, Nat.add_comm 1 j] at this
theorem ep_er {w : World} {A : Addr} {R : Prop} : ∀ (cs : List Value), ep w A R cs → er w A cs
  | [], _ => fun j v h => by simp at h
  | c :: cs, h => fun j v hj => by
    cases j with
    | zero => simp at hj; subst hj; rw [add0]; exact h.1
    | succ j => have := epn_at cs 1 h.2 j v (by simpa using hj); rw [addn _ _ (by omega)]; rwa [Nat.add_comm 1 j] at this
theorem el_er {w : World} {A : Addr} : ∀ (cs : List Value), el w A cs → er w A cs
  | [], _ => fun j v h => by simp at h
  | [c], h => fun j v hj => by
    cases j with
    | zero => simp at hj; subst hj; rw [add0]; exact h
    | succ j => simp at hj
  | c :: u :: cs, h => fun j v hj => by
    cases j with
    | zero => simp at hj; subst hj; rw [add0]; exact h.1
    | succ j => have := eln_at (u :: cs) 1 h.2 j v (by simpa using hj); rw [addn _ _ (by omega)]; rwa [Nat.add_comm 1 j] at this
theorem er_alloc {w : World} {A : Addr} {cs : List Value} (h : er w A cs) (o : Obj) : er (w.alloc o) A cs := fun j v hv => by
  have h1 := h j v hv
  have hl := World.block_lt_of_cell? w _ h1
  have : (w.alloc o).heap[(A.add j).block]? = w.heap[(A.add j).block]? := (below_alloc (Below.refl _ _) o).block _ hl
  simpa [World.cell?, this] using h1
theorem er_drew {w : World} {A : Addr} {cs : List Value} (h : er w A cs) : er w.drew A cs := h
theorem er_drewN {w : World} {A : Addr} {cs : List Value} (h : er w A cs) (n : Nat) : er (w.drewN n) A cs := fun j v hv => by
  have h1 := h j v hv
  have hl := World.block_lt_of_cell? w _ h1
  have : (w.drewN n).heap[(A.add j).block]? = w.heap[(A.add j).block]? := (pw_below_drewN (Below.refl _ _) n).block _ hl
  simpa [World.cell?, this] using h1
theorem run_er {P : Program} (w : World) (A : Addr) (ty : TypeId) (cs : List Value) (d : TypeDesc) (hc : er w A cs)
    (hu : P.underlying ty = some d) (hd : d.isRow = true) (hi : (P.info? ty).map (·.size) = some cs.length) :
    (loadVar ty A).run P w = .ok (.agg cs.toArray) w := by
  have hl : (loadCells A cs.length).run P w = .ok cs.toArray w := run_loadCells_list (P := P) w A cs hc
  cases hq : P.info? ty with
  | none => simp [hq] at hi
  | some i =>
    have hs : i.size = cs.length := by simpa [hq] using hi
    have hagg : (isAgg ty).run P w = .ok true w := by
      unfold isAgg
      rw [Sem.run_bind, run_underlying hu w]
      cases d <;> simp_all
    simp [loadVar, Sem.run_bind, hagg, sizeOf, typeInfo, hq, hs, hl]
section
variable {P : Program} {md : Region.Mode} {ops : Array Oper} {T : Bool × List (List Nat × List Nat)} {oi : Oper} {a a' : Act} {w : World} {l l' : Array Bool} {ds : List Nat} {fuel : Nat} {Q : Exit → Act → World → Prop} {S : World → Prop}
theorem te {B : List Nat} (i N : Nat) (ty : TypeId) (x : Operand) (A : Addr) (cs : List Value) {d : TypeDesc} (hu : P.underlying ty = some d) (hr : ∀ w, S w → er w A cs) (hT : rtab md ops = T) (hB : waitsOk T.2 B = true) (hS : S w) (h : wpAnyLast P md ops Q S ds fuel l' a' w) (hi : ops[i]? = some oi := by rfl) (hN : oi.dst = some N := by rfl)
    (_hl : l.setIfInBounds i true = l' := by (simp only [List.setIfInBounds_toArray, List.set_cons_zero, List.set_cons_succ]; rfl)) (hc : takeW T B ds l.toList l'.toList i = true := by kernel_rfl)
    (hQ : ∀ c a w, Q (.panic c) (a.put oi.dst (.agg cs.toArray)) w → Q (.panic c) a w := by exact fun _ _ _ h => h)
    (ho : oi.op = .load ty x := by rfl) (hx : a.eval x = .pointer (some A) := by rfl) (hd : d.isRow = true := by rfl) (hz : (P.info? ty).map (·.size) = some cs.length := by rfl) (hw : Region.wanted oi (yielded ops a.tmps) = true := by rfl)
    (ha : a.put (some N) (.agg cs.toArray) = a' := by (simp only [Act.put, List.setIfInBounds_toArray, List.set_cons_zero, List.set_cons_succ, i64_w, i32_w]; rfl)) : wpAnyLast P md ops Q S ds (fuel + 1) l a w :=
  take_ l' hi hN (take_ofW hT hB hc) hQ (.inl ⟨hw, fun w hw' => by
    unfold execOp
    simp only [ho, hx, Instr.loadAt, Instr.sureAddr, Sem.run_bind, Sem.run_pure, Result.andThen_ok, run_er w A ty cs d (hr w hw') hu hd hz]⟩) hS ha h
end
section
variable {P : Program} {ops : Array Oper} {o : Oper} {rest : List Oper} {a : Act} {W : World} {Q : Exit → Act → World → Prop}
theorem gw {A : Addr} {v : Value} (_h : W.cell? A = some v) (h : wpList P ops Q rest a W) : wpList P ops Q rest a W := h
theorem ga {A : Addr} {v : Value} {ob : Obj} (_h : W.cell? A = some v) (h : wpList P ops Q rest a (W.alloc ob)) : wpList P ops Q rest a (W.alloc ob) := h
theorem gd {A : Addr} {v : Value} (_h : W.cell? A = some v) (h : wpList P ops Q rest a W.drew) : wpList P ops Q rest a W.drew := h
theorem gn {A : Addr} {v : Value} {n : Nat} (_h : W.cell? A = some v) (h : wpList P ops Q rest a (W.drewN n)) : wpList P ops Q rest a (W.drewN n) := h
theorem ldE (ty : TypeId) (x : Operand) (A : Addr) (cs : List Value) {d : TypeDesc} (hu : P.underlying ty = some d) {N : Tmp} {a' : Act} (hr : er W A cs) (h : wpList P ops Q rest a' W) (hgd : Region.wanted o (yielded ops a.tmps) = true := by rfl) (hN : o.dst = some N := by rfl)
    (ho : o.op = .load ty x := by rfl) (hx : a.eval x = .pointer (some A) := by rfl) (hd : d.isRow = true := by rfl) (hz : (P.info? ty).map (·.size) = some cs.length := by rfl)
    (ha : a.put (some N) (.agg cs.toArray) = a' := by (simp only [Act.put, List.setIfInBounds_toArray, List.set_cons_zero, List.set_cons_succ, i64_w, i32_w]; rfl)) : wpList P ops Q (o :: rest) a W :=
  gate_guard hgd (wpList_plain (o := { o with guard := none }) rfl fun K hK => by
    have h2 : K (a.put o.dst (.agg cs.toArray)) W := by rw [hN, ha]; exact hK _ _ h
    unfold Oper.wp execOp
    simp only [ho, hx, Instr.loadAt, Instr.sureAddr, Sem.run_bind, Sem.run_pure, Result.andThen_ok, run_er W A ty cs d hr hu hd hz]
    exact h2)
end
end Go.Proofs.YtikhpegamnnabaaDoor.XL
