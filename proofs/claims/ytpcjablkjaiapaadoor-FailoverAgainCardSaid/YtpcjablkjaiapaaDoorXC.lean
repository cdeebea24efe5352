/- Words for calls that the model answers at once (no body): math/bits.Add64 and Sub64 (no condition). -/
import Derived.Test.YtpcjablkjaiapaaDoorWMore
import Derived.Laws.Externs
import Derived.Lib.ConvBytes
import Derived.Laws.AppendOwn
namespace Go.Proofs.YtpcjablkjaiapaaDoor.XC
open Go.RowKit Go.Proofs.YtpcjablkjaiapaaDoorW.PrintWords
/-- A call that is answered here and now. -/
def Inl (P : Program) (f : FuncId) (args : Array Value) (w : World) (R : Ending → World → Prop) : Prop := ∃ v w', (callFunc f args).run P w = .ok (.value v) w' ∧ R (.returned v) w'
theorem Inl.mono {P : Program} {f : FuncId} {args : Array Value} {w : World} {R R' : Ending → World → Prop} (h : Inl P f args w R) (hi : ∀ e w', R e w' → R' e w') : Inl P f args w R' := by
  obtain ⟨v, w', hr, h⟩ := h
  exact ⟨v, w', hr, hi _ _ h⟩
section
variable {P : Program} {ops : Array Oper} {Q : Exit → Act → World → Prop} {f : FuncId} {fn : Func} {as : Array Operand} {ts : Array TypeId} {oi : Oper} {a : Act} {w : World}
end
def Conv (P : Program) (s t : TypeId) (x : Value) (w : World) (R : Ending → World → Prop) : Prop := ∃ v w', (convert s t x).run P w = .ok v w' ∧ R (.returned v) w'
theorem Conv.mono {P : Program} {s t : TypeId} {x : Value} {w : World} {R R' : Ending → World → Prop} (h : Conv P s t x w R) (hi : ∀ e w', R e w' → R' e w') : Conv P s t x w R' := by
  obtain ⟨v, w', hr, h⟩ := h
  exact ⟨v, w', hr, hi _ _ h⟩
section
variable {P : Program} {ops : Array Oper} {Q : Exit → Act → World → Prop} {s t : TypeId} {y : Operand} {oi : Oper} {a : Act} {w : World}
end
end Go.Proofs.YtpcjablkjaiapaaDoor.XC
