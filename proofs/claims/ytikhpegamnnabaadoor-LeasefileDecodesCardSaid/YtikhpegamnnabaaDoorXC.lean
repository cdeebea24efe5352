/- Words for calls that the model answers at once (no body): math/bits.Add64 and Sub64 (no condition). -/
import Derived.Test.YtikhpegamnnabaaDoorWMore
import Derived.Laws.Externs
import Derived.Lib.ConvBytes
import Derived.Laws.AppendOwn
namespace Go.Proofs.YtikhpegamnnabaaDoor.XC
open Go.RowKit Go.Proofs.YtikhpegamnnabaaDoorW.PrintWords
def Inl (P : Program) (f : FuncId) (args : Array Value) (w : World) (R : Ending → World → Prop) : Prop := ∃ v w', (callFunc f args).run P w = .ok (.value v) w' ∧ R (.returned v) w'
theorem Inl.mono {P : Program} {f : FuncId} {args : Array Value} {w : World} {R R' : Ending → World → Prop} (h : Inl P f args w R) (hi : ∀ e w', R e w' → R' e w') : Inl P f args w R' := by
  obtain ⟨v, w', hr, h⟩ := h
  exact ⟨v, w', hr, hi _ _ h⟩
section
variable {P : Program} {ops : Array Oper} {Q : Exit → Act → World → Prop} {f : FuncId} {fn : Func} {as : Array Operand} {ts : Array TypeId} {oi : Oper} {a : Act} {w : World}
end
def Conv (P : Program) (s t : TypeId) (x : Value) (w : World) (R : Ending → World → Prop) : Prop := ∃ v w', (convert s t x).run P w = .ok v w' ∧ R (.returned v) w'
theorem Conv.mono {P : Program} {s t : TypeId} {x : Value} {w : World} {R R' : Ending → World → Prop} (h : Conv P s t x w R) (hi : ∀ e w', R e w' → R' e w') : Conv P s t x w R' := by
  obtain ⟨v, w', hr, h⟩ := h
  exact ⟨v, w', hr, hi _ _ h⟩
section
variable {P : Program} {ops : Array Oper} {Q : Exit → Act → World → Prop} {s t : TypeId} {y : Operand} {oi : Oper} {a : Act} {w : World}
theorem convL_ {rest : List Oper} (N : Option Tmp) (hd : oi.dst = N) (hg : oi.guard = none) (hop : oi.op = .convert s t y) (x : Value) (hx : a.eval y = x)
    (h : Conv P s t x w fun e w' => ∃ v, e = .returned v ∧ wpList P ops Q rest (a.put N v) w') : wpList P ops Q (oi :: rest) a w := by
  refine wpList_plain hg fun K hK => ?_
  obtain ⟨v, w', hr, v2, he, h⟩ := h
  cases he
  have hrun : (execOp a.eval oi).run P w = .ok (.value v) w' := by
    unfold execOp
    simp [hop, hx, hr, Result.andThen]
  unfold Oper.wp
  rw [hrun, Oper.upon_value]
  subst hd
  exact hK _ _ h
end
def conv (s : ByteArray) : Option (List Int) := if s.size ≤ 140737488355328 then some (bytesOf s) else none
theorem conv_below (w : World) (e : TypeId) (s : ByteArray) : Below w.heap.size w (Lib.bytesWorld w e s) := by
  refine ⟨?_, ?_, ?_, ?_, fun k hk => Lib.bytesWorld_at_old w e s k hk⟩
  · unfold Lib.bytesWorld World.freeze
    split <;> rfl
  · unfold Lib.bytesWorld World.freeze
    split <;> rfl
  · unfold Lib.bytesWorld World.freeze
    split <;> rfl
  · rw [Lib.bytesWorld_size]
    omega
theorem conv_calls {P : Program} {s t e : TypeId} {u : TypeDesc} (hs : P.underlying s = some u) (hd : P.underlying t = some (.slice e)) (he : P.underlying e = some (.int .u8)) (a0 : ByteArray) (r : List Int) (w : World) (h : conv a0 = some r) :
    Conv P s t (.string a0) w fun x w' => ∃ v0_ : Value, x = .returned v0_ ∧ Kd.V (Kd.int .u8) e w' w.heap.size (fun k_ => (w.heap.size ≤ k_)) v0_ r ∧ Below w.heap.size w w' := by
  unfold conv at h
  by_cases hl : a0.size ≤ 140737488355328
  case neg => rw [if_neg hl] at h; cases h
  rw [if_pos hl] at h
  obtain rfl := Option.some.inj h
  have hlen := bytesOf_length a0
  refine ⟨_, _, Lib.run_convert_string_bytes w s t e a0 hs hd he, _, rfl, ⟨some ⟨w.heap.size, 0, none⟩, grownCap w a0.size 0 e, by rw [hlen], by rw [hlen]; exact grownCap_ge w a0.size 0 e, ?_⟩, conv_below w e a0⟩
  have hr := bytes_reads w e a0 (by omega)
  rw [← hlen] at hr
  have hlt : w.heap.size < (Lib.bytesWorld w e a0).heap.size := by
    rw [Lib.bytesWorld_size]
    omega
  intro W' hW
  have hsame := hW w.heap.size (Nat.le_refl _) hlt
  refine ⟨rfl, by omega, fun hp => ?_⟩
  obtain ⟨h1, h2, h3⟩ := hr
  obtain ⟨ad, he2, hc⟩ := h3 hp
  injection he2 with he2
  refine ⟨_, rfl, fun j p hj => ⟨[.int .u8 p], rfl, rfl, fun i u hu => ?_⟩⟩
  have hi : i = 0 := by
    have := (List.getElem?_eq_some_iff.1 hu).1
    simp at this
    exact this
  subst hi
  obtain rfl : Value.int .u8 p = u := by simpa using hu
  have hj' : j < (bytesOf a0).length := (List.getElem?_eq_some_iff.1 hj).1
  have := hc j hj'
  rw [List.getD_eq_getElem?_getD, hj, Option.getD_some] at this
  rw [← he2] at this
  have hz : (Kd.int IntKind.u8).sz = 1 := rfl
  rw [hz, Nat.mul_one, Nat.add_zero]
  simpa [World.cell?, add_block, hsame] using this
end Go.Proofs.YtikhpegamnnabaaDoor.XC
