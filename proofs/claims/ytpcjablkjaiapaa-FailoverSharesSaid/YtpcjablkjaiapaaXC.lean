/- Words for calls that the model answers at once (no body): math/bits.Add64 and Sub64 (no condition). -/
import Derived.Test.YtpcjablkjaiapaaWMore
import Derived.Laws.Externs
import Derived.Lib.ConvBytes
import Derived.Laws.AppendOwn
namespace Go.Proofs.Ytpcjablkjaiapaa.XC
open Go.RowKit Go.Proofs.YtpcjablkjaiapaaW.PrintWords
/-- A call that is answered here and now. -/
def Inl (P : Program) (f : FuncId) (args : Array Value) (w : World) (R : Ending → World → Prop) : Prop := ∃ v w', (callFunc f args).run P w = .ok (.value v) w' ∧ R (.returned v) w'
theorem Inl.mono {P : Program} {f : FuncId} {args : Array Value} {w : World} {R R' : Ending → World → Prop} (h : Inl P f args w R) (hi : ∀ e w', R e w' → R' e w') : Inl P f args w R' := by
  obtain ⟨v, w', hr, h⟩ := h
  exact ⟨v, w', hr, hi _ _ h⟩
section
variable {P : Program} {ops : Array Oper} {Q : Exit → Act → World → Prop} {f : FuncId} {fn : Func} {as : Array Operand} {ts : Array TypeId} {oi : Oper} {a : Act} {w : World}
theorem inlL_ {rest : List Oper} (N : Option Tmp) (hd : oi.dst = N) (hg : oi.guard = none) (_hf : P.funcs[f]? = some fn) (_hname : (fn.name == "runtime.NumGoroutine") = false) (_hb : fn.body.isSome = false) (args : Array Value)
    (hop : oi.op = .call { callee := .value (.func f), args := as, argTypes := ts }) (hargs : as.map a.eval = args)
    (h : Inl P f args w fun e w' => ∃ v, e = .returned v ∧ wpList P ops Q rest (a.put N v) w') : wpList P ops Q (oi :: rest) a w := by
  refine wpList_plain hg fun K hK => ?_
  obtain ⟨v, w', hr, v2, he, h⟩ := h
  cases he
  have hrun : (execOp a.eval oi).run P w = .ok (.value v) w' := by
    unfold execOp
    simp [hop, resolve, Deferred.ofValue, invoke, Act.eval, hargs, hr]
  unfold Oper.wp
  rw [hrun, Oper.upon_value]
  subst hd
  exact hK _ _ h
end
def add64 (x y c : Int) : Option (Int × Int) := if 0 ≤ x then (if 0 ≤ y then (if 0 ≤ c then (if c ≤ 1 then some ((x + y + c) % 18446744073709551616, (x + y + c) / 18446744073709551616) else none) else none) else none) else none
def sub64 (x y c : Int) : Option (Int × Int) := if 0 ≤ x then (if 0 ≤ y then (if y < 18446744073709551616 then (if 0 ≤ c then (if c ≤ 1 then some ((x - y - c) % 18446744073709551616, if x < y + c then 1 else 0) else none) else none) else none) else none) else none
theorem add64_calls {P : Program} {f : FuncId} {fn : Func} (hf : P.funcs[f]? = some fn) (hname : (fn.name == "runtime.NumGoroutine") = false) (hb : fn.body.isNone = true) (hn : Extern.findNext fn = none) (he : Extern.find fn = some add64Entry)
    (x y c r1 r2 : Int) (w : World) (h : add64 x y c = some (r1, r2)) : Inl P f #[.int .u64 x, .int .u64 y, .int .u64 c] w fun e w' => e = .returned (.tuple #[.int .u64 r1, .int .u64 r2]) ∧ Drawn0 w w' := by
  unfold add64 at h
  repeat' split at h
  all_goals try cases h
  rename_i h0 h1 h2 h3
  refine ⟨_, w, ?_, rfl, Drawn0.refl _⟩
  rw [run_callFunc_extern hf hname hb hn he, run_add64 x y c h0 h1 h2 h3]
  rfl
def sub64Entry : Array Value → Sem Value := fun args => do
  let (x, y, b) ← Extern.MathBitsCarry.three "Sub64" args
  pure (Extern.MathBitsCarry.pair ((x + Extern.MathBitsCarry.m64 - y - b) % Extern.MathBitsCarry.m64) (if x < y + b then 1 else 0))
theorem run_sub64 {P : Program} (x y b : Nat) (hb : b ≤ 1) (w : World) :
    (sub64Entry #[.int .u64 x, .int .u64 y, .int .u64 b]).run P w =
      .ok (.tuple #[.int .u64 (((x + 18446744073709551616 - y - b) % 18446744073709551616 : Nat) : Int), .int .u64 ((if x < y + b then 1 else 0 : Nat) : Int)]) w := by
  have : b = 0 ∨ b = 1 := by omega
  rcases this with rfl | rfl <;> rfl
theorem sub64_calls {P : Program} {f : FuncId} {fn : Func} (hf : P.funcs[f]? = some fn) (hname : (fn.name == "runtime.NumGoroutine") = false) (hb : fn.body.isNone = true) (hn : Extern.findNext fn = none) (he : Extern.find fn = some sub64Entry)
    (x y c r1 r2 : Int) (w : World) (h : sub64 x y c = some (r1, r2)) : Inl P f #[.int .u64 x, .int .u64 y, .int .u64 c] w fun e w' => e = .returned (.tuple #[.int .u64 r1, .int .u64 r2]) ∧ Drawn0 w w' := by
  unfold sub64 at h
  by_cases h0 : 0 ≤ x
  case neg => rw [if_neg h0] at h; cases h
  by_cases h1 : 0 ≤ y
  case neg => rw [if_pos h0, if_neg h1] at h; cases h
  by_cases h4 : y < 18446744073709551616
  case neg => rw [if_pos h0, if_pos h1, if_neg h4] at h; cases h
  by_cases h2 : 0 ≤ c
  case neg => rw [if_pos h0, if_pos h1, if_pos h4, if_neg h2] at h; cases h
  by_cases h3 : c ≤ 1
  case neg => rw [if_pos h0, if_pos h1, if_pos h4, if_pos h2, if_neg h3] at h; cases h
  rw [if_pos h0, if_pos h1, if_pos h4, if_pos h2, if_pos h3] at h
  obtain ⟨X, rfl⟩ := Int.eq_ofNat_of_zero_le h0
  obtain ⟨Y, rfl⟩ := Int.eq_ofNat_of_zero_le h1
  obtain ⟨C, rfl⟩ := Int.eq_ofNat_of_zero_le h2
  obtain ⟨rfl, rfl⟩ := Prod.mk.inj (Option.some.inj h)
  refine ⟨_, w, ?_, rfl, Drawn0.refl _⟩
  rw [run_callFunc_extern hf hname hb hn he, run_sub64 X Y C (by omega)]
  have e1 : (((X + 18446744073709551616 - Y - C) % 18446744073709551616 : Nat) : Int) = ((X : Int) - Y - C) % 18446744073709551616 := by omega
  have e2 : ((if X < Y + C then 1 else 0 : Nat) : Int) = if (X : Int) < Y + C then 1 else 0 := by
    split <;> split <;> omega
  rw [e1, e2]
  rfl
def Conv (P : Program) (s t : TypeId) (x : Value) (w : World) (R : Ending → World → Prop) : Prop := ∃ v w', (convert s t x).run P w = .ok v w' ∧ R (.returned v) w'
theorem Conv.mono {P : Program} {s t : TypeId} {x : Value} {w : World} {R R' : Ending → World → Prop} (h : Conv P s t x w R) (hi : ∀ e w', R e w' → R' e w') : Conv P s t x w R' := by
  obtain ⟨v, w', hr, h⟩ := h
  exact ⟨v, w', hr, hi _ _ h⟩
section
variable {P : Program} {ops : Array Oper} {Q : Exit → Act → World → Prop} {s t : TypeId} {y : Operand} {oi : Oper} {a : Act} {w : World}
end
end Go.Proofs.Ytpcjablkjaiapaa.XC
