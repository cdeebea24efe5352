import Derived.Test.YtjifdgicamlikaaQAd1
namespace Go.Proofs.Ytjifdgicamlikaa.QA
open Go.RowKit Go.Proofs.YtjifdgicamlikaaW.PrintWords Go.Proofs.YtjifdgicamlikaaW.PrintLast Go.Proofs.YtjifdgicamlikaaW.PrintMore
set_option linter.unusedVariables false
def ddilaw48_prefixes.l0 : Nat → List (S31) → List (S31) → Int → Option (Bool)
 | 0,_,_,_ => none
 | k + 1,x0,x1,x5 => if x5 < (x0.length : Int) then (if 0 ≤ x5 then (if x5 < (x1.length : Int) then (if ((!(((rd_T31 x0 x5).f0.f0) == ((rd_T31 x1 x5).f0.f0)) || (!(((rd_T31 x0 x5).f0.f1) == ((rd_T31 x1 x5).f0.f1)) || (!(((rd_T31 x0 x5).f0.f2) == ((rd_T31 x1 x5).f0.f2))))) || (!(((rd_T31 x0 x5).f1) == ((rd_T31 x1 x5).f1)))) = true then (some false) else (ddilaw48_prefixes.l0 k x0 x1 (wrap64 (x5 + 1)))) else (none)) else (none)) else (some true)
def ddilaw48_prefixes.f (k : Nat) (l0 : List (S31)) (l1 : List (S31)) : Option (Bool) := if (l0.length : Int) = (l1.length : Int) then (ddilaw48_prefixes.l0 k l0 l1 0) else (some false)
def ddiref48_Over.l0 : Nat → List (S39) → Int → List (S31) → Int → Option ((List (S31)))
 | 0,_,_,_,_ => none
 | k + 1,x0,x1,x5,x6 => if x6 < (x0.length : Int) then (if 0 ≤ x6 then (if ((rd_T39 x0 x6).f3) ≥ x1 then (if x5.length < 4398046511104 then (ddiref48_Over.l0 k x0 x1 (x5 ++ [(⟨(⟨(rd_T39 x0 x6).f0.f0.f0,(rd_T39 x0 x6).f0.f0.f1,(rd_T39 x0 x6).f0.f0.f2⟩ : S29),(rd_T39 x0 x6).f0.f1⟩ : S31)]) (wrap64 (x6 + 1))) else (none)) else (ddiref48_Over.l0 k x0 x1 x5 (wrap64 (x6 + 1)))) else (none)) else (some x5)
def ddiref48_Over.f (k : Nat) (l0 : List (S39)) (a1 : Int) : Option ((List (S31))) := ddiref48_Over.l0 k l0 a1 ([] : List (S31)) 0
def ddilaw48_UsageOver.l0 : Nat → List (S39) → Int → List (S36) → Int → Option (Bool)
 | 0,_,_,_,_ => none
 | k + 1,x0,x1,x5,x6 => if x6 < (x0.length : Int) then (if 0 ≤ x6 then (if x5.length < 2513169434916 then (ddilaw48_UsageOver.l0 k x0 x1 (x5 ++ [(⟨(⟨(⟨(rd_T39 x0 x6).f0.f0.f0,(rd_T39 x0 x6).f0.f0.f1,(rd_T39 x0 x6).f0.f0.f2⟩ : S29),(rd_T39 x0 x6).f0.f1⟩ : S31),(rd_T39 x0 x6).f1,(rd_T39 x0 x6).f2,(rd_T39 x0 x6).f3⟩ : S36)]) (wrap64 (x6 + 1))) else (none)) else (none)) else ((usage_Over.f k x5 x1).bind fun t467 => ((ddiref48_Over.f k x0 x1).bind fun t470 => ((ddilaw48_prefixes.f k t467 t470).bind fun t473 => (if t473 = true then ((ddilaw48_awake.f k).bind fun t474 => (some t474)) else (some false)))))
def ddilaw48_UsageOver.f (k : Nat) (l0 : List (S39)) (a1 : Int) : Option (Bool) := ddilaw48_UsageOver.l0 k l0 a1 ([] : List (S36)) 0
/-- THE ONE PURE STATEMENT of ddilaw48_UsageOver: ours. -/
def ddilaw48_UsageOver.Pure : Prop := ∀ (l0 : List (S39)) (a1 : Int),(l0.length * 56 ≤ 140737488351232 ∧ l0.length ≤ maxLen ∧ ∀ y0_ ∈ l0,okS39 y0_) → (Lit.int .i64 a1).wf = true → ∃ k,ddilaw48_UsageOver.f k l0 a1 = some true
end Go.Proofs.Ytjifdgicamlikaa.QA
