import Derived.Test.YtjifdgicamlikaaQAd1
namespace Go.Proofs.Ytjifdgicamlikaa.QA
open Go.RowKit Go.Proofs.YtjifdgicamlikaaW.PrintWords Go.Proofs.YtjifdgicamlikaaW.PrintLast Go.Proofs.YtjifdgicamlikaaW.PrintMore
set_option linter.unusedVariables false
def blocks_whole.f (a0_0 : Bool) (a0_1 : Int) (a0_2 : Int) (a0_3 : Int) : Option (Int) := if a0_0 = true then (some 128) else (some 32)
mutual
def blocks_visible.j0 : Nat → ByteArray → Bool → Option (Bool)
 | 0,_,_ => none
 | k + 1,x0,x17 => if x17 = true then (some false) else (blocks_visible.l0 k x0 (x0.size : Int) 0)
def blocks_visible.l0 : Nat → ByteArray → Int → Int → Option (Bool)
 | 0,_,_,_ => none
 | k + 1,x0,x19,x20 => if x20 < x19 then (if 0 ≤ x20 then (if x20 < (x0.size : Int) then (if (bt x0 x20) < 33 then (blocks_visible.j2 k x0 x19 x20 true) else (blocks_visible.j2 k x0 x19 x20 (decide ((bt x0 x20) > 126)))) else (none)) else (none)) else (some true)
def blocks_visible.j2 : Nat → ByteArray → Int → Int → Bool → Option (Bool)
 | 0,_,_,_,_ => none
 | k + 1,x0,x19,x20,x32 => if x32 = true then (some false) else (blocks_visible.l0 k x0 x19 (wrap64 (x20 + 1)))
end
def blocks_visible.f (k : Nat) (a0 : ByteArray) (a1 : Int) (a2 : Int) : Option (Bool) := if (a0.size : Int) < a1 then (blocks_visible.j0 k a0 true) else (blocks_visible.j0 k a0 (decide ((a0.size : Int) > a2)))
mutual
def blocks_fault.j0 : Nat → Bool → Bool → Int → Int → Int → Int → ByteArray → ByteArray → Int → Option (Int)
 | 0,_,_,_,_,_,_,_,_,_ => none
 | k + 1,x28,x552000,x552001,x552002,x552003,x552004,x552005,x552006,x552007 => if x28 = true then (some 1) else ((blocks_visible.f k x552005 1 63).bind fun t554 => (if t554 = true then ((blocks_visible.f k x552006 0 32).bind fun t555 => (if t555 = true then (if x552007 < 0 then (blocks_fault.j1 k true) else (blocks_fault.j1 k (decide (x552007 > 4294967295)))) else (blocks_fault.j1 k true))) else (blocks_fault.j1 k true)))
def blocks_fault.j1 : Nat → Bool → Option (Int)
 | 0,_ => none
 | k + 1,x48 => if x48 = true then (some 1) else (some 0)
end
def blocks_fault.f (k : Nat) (a0_0 : Bool) (a0_1 : Int) (a0_2 : Int) (a0_3 : Int) (a0_4 : Int) (a0_5 : ByteArray) (a0_6 : ByteArray) (a0_7 : Int) : Option (Int) := (prefix_Valid.f k a0_0 a0_1 a0_2 a0_3).bind fun t552 => (if t552 = true then (if a0_4 < 1 then (blocks_fault.j0 k true a0_0 a0_1 a0_2 a0_3 a0_4 a0_5 a0_6 a0_7) else (if a0_4 > 3 then (blocks_fault.j0 k true a0_0 a0_1 a0_2 a0_3 a0_4 a0_5 a0_6 a0_7) else (if a0_4 = 3 then ((blocks_whole.f a0_0 a0_1 a0_2 a0_3).bind fun t553 => (blocks_fault.j0 k (a0_3 != t553) a0_0 a0_1 a0_2 a0_3 a0_4 a0_5 a0_6 a0_7)) else (blocks_fault.j0 k false a0_0 a0_1 a0_2 a0_3 a0_4 a0_5 a0_6 a0_7)))) else (some 3))
def addr_number.f (a0 : Int) (a1 : Int) : Option (Int) := if a0 < a1 then (some (-1)) else (if a0 > a1 then (some 1) else (some 0))
def addr_Compare.j0 : Nat → Bool → Bool → Int → Int → Bool → Int → Int → Option (Int)
 | 0,_,_,_,_,_,_,_ => none
 | k + 1,x5,x557000,x557001,x557002,x558000,x558001,x558002 => if x5 = true then (some (-1)) else (if (x557000 != x558000) = true then (some 1) else (if x557001 = x558001 then ((addr_number.f x557002 x558002).bind fun t559 => (some t559)) else ((addr_number.f x557001 x558001).bind fun t558 => (some t558))))
def addr_Compare.f (k : Nat) (a0_0 : Bool) (a0_1 : Int) (a0_2 : Int) (a1_0 : Bool) (a1_1 : Int) (a1_2 : Int) : Option (Int) := if (a0_0 != a1_0) = true then (addr_Compare.j0 k a1_0 a0_0 a0_1 a0_2 a1_0 a1_1 a1_2) else (addr_Compare.j0 k false a0_0 a0_1 a0_2 a1_0 a1_1 a1_2)
def prefix_Compare.f (k : Nat) (a0_0 : Bool) (a0_1 : Int) (a0_2 : Int) (a0_3 : Int) (a1_0 : Bool) (a1_1 : Int) (a1_2 : Int) (a1_3 : Int) : Option (Int) := (addr_Compare.f k a0_0 a0_1 a0_2 a1_0 a1_1 a1_2).bind fun t562 => (if t562 = 0 then (if a0_3 < a1_3 then (some (-1)) else (if a0_3 > a1_3 then (some 1) else (some 0))) else (some t562))
def blocks_lies.f (k : Nat) (a0_0 : Bool) (a0_1 : Int) (a0_2 : Int) (a0_3 : Int) (a1_0 : Bool) (a1_1 : Int) (a1_2 : Int) (a1_3 : Int) : Option (Bool) := if a0_3 > a1_3 then ((prefix_Within.f k a0_0 a0_1 a0_2 a0_3 a1_0 a1_1 a1_2 a1_3).bind fun t565 => (some t565)) else (some false)
def blocks_admits.f (a0_0 : Bool) (a0_1 : Int) (a0_2 : Int) (a0_3 : Int) (a0_4 : Int) (a0_5 : ByteArray) (a0_6 : ByteArray) (a0_7 : Int) (a1_0 : Bool) (a1_1 : Int) (a1_2 : Int) (a1_3 : Int) (a1_4 : Int) (a1_5 : ByteArray) (a1_6 : ByteArray) (a1_7 : Int) : Option (Bool) := if a0_4 = 1 then (some true) else (if a0_4 = 2 then (some (a1_4 == 3)) else (some false))
def blocks_misplaced_1.f (k : Nat) (a0_0 : Bool) (a0_1 : Int) (a0_2 : Int) (a0_3 : Int) (a0_4 : Int) (a0_5 : ByteArray) (a0_6 : ByteArray) (a0_7 : Int) (a1_0 : Bool) (a1_1 : Int) (a1_2 : Int) (a1_3 : Int) (a1_4 : Int) (a1_5 : ByteArray) (a1_6 : ByteArray) (a1_7 : Int) : Option (Bool) := (blocks_lies.f k a1_0 a1_1 a1_2 a1_3 a0_0 a0_1 a0_2 a0_3).bind fun t569 => (if t569 = true then ((blocks_admits.f a0_0 a0_1 a0_2 a0_3 a0_4 a0_5 a0_6 a0_7 a1_0 a1_1 a1_2 a1_3 a1_4 a1_5 a1_6 a1_7).bind fun t570 => (some (!t570))) else (some false))
def slices_IndexFunc_64.l0 : Nat → List (S60) → Int → Int → Bool → Int → Int → Int → Int → ByteArray → ByteArray → Int → Option (Int)
 | 0,_,_,_,_,_,_,_,_,_,_,_ => none
 | k + 1,x0,x7,x8,x700101000,x700101001,x700101002,x700101003,x700101004,x700101005,x700101006,x700101007 => if x8 < x7 then (if 0 ≤ x8 then (if x8 < (x0.length : Int) then ((blocks_misplaced_1.f k ((rd_T60 x0 x8).f0.f0.f0) ((rd_T60 x0 x8).f0.f0.f1) ((rd_T60 x0 x8).f0.f0.f2) ((rd_T60 x0 x8).f0.f1) ((rd_T60 x0 x8).f1) ((rd_T60 x0 x8).f2) ((rd_T60 x0 x8).f3) ((rd_T60 x0 x8).f4) x700101000 x700101001 x700101002 x700101003 x700101004 x700101005 x700101006 x700101007).bind fun t572 => (if t572 = true then (some x8) else (slices_IndexFunc_64.l0 k x0 x7 (wrap64 (x8 + 1)) x700101000 x700101001 x700101002 x700101003 x700101004 x700101005 x700101006 x700101007))) else (none)) else (none)) else (some (-1))
def slices_IndexFunc_64.f (k : Nat) (l0 : List (S60)) (a1_0 : Bool) (a1_1 : Int) (a1_2 : Int) (a1_3 : Int) (a1_4 : Int) (a1_5 : ByteArray) (a1_6 : ByteArray) (a1_7 : Int) : Option (Int) := slices_IndexFunc_64.l0 k l0 (l0.length : Int) 0 a1_0 a1_1 a1_2 a1_3 a1_4 a1_5 a1_6 a1_7
def slices_ContainsFunc_64.f (k : Nat) (l0 : List (S60)) (a1_0 : Bool) (a1_1 : Int) (a1_2 : Int) (a1_3 : Int) (a1_4 : Int) (a1_5 : ByteArray) (a1_6 : ByteArray) (a1_7 : Int) : Option (Bool) := (slices_IndexFunc_64.f k l0 a1_0 a1_1 a1_2 a1_3 a1_4 a1_5 a1_6 a1_7).bind fun t573 => (some (decide (t573 ≥ 0)))
def blocks_misplaced.f (k : Nat) (l0 : List (S60)) (a1_0 : Bool) (a1_1 : Int) (a1_2 : Int) (a1_3 : Int) (a1_4 : Int) (a1_5 : ByteArray) (a1_6 : ByteArray) (a1_7 : Int) : Option (Bool) := (slices_ContainsFunc_64.f k l0 a1_0 a1_1 a1_2 a1_3 a1_4 a1_5 a1_6 a1_7).bind fun t575 => (some t575)
mutual
def blocks_Check.l0 : Nat → List (S60) → List (S60) → Int → Int → Option (Int)
 | 0,_,_,_,_ => none
 | k + 1,x0,x10,x11,x12 => if x12 < x11 then (if 0 ≤ x12 then (if x12 < (x10.length : Int) then ((blocks_fault.f k ((rd_T60 x10 x12).f0.f0.f0) ((rd_T60 x10 x12).f0.f0.f1) ((rd_T60 x10 x12).f0.f0.f2) ((rd_T60 x10 x12).f0.f1) ((rd_T60 x10 x12).f1) ((rd_T60 x10 x12).f2) ((rd_T60 x10 x12).f3) ((rd_T60 x10 x12).f4)).bind fun t578 => (if t578 = 0 then (if x12 > 0 then (if 0 ≤ (wrap64 (x12 - 1)) then (if (wrap64 (x12 - 1)) < (x0.length : Int) then ((prefix_Compare.f k ((rd_T60 x10 x12).f0.f0.f0) ((rd_T60 x10 x12).f0.f0.f1) ((rd_T60 x10 x12).f0.f0.f2) ((rd_T60 x10 x12).f0.f1) ((rd_T60 x0 (wrap64 (x12 - 1))).f0.f0.f0) ((rd_T60 x0 (wrap64 (x12 - 1))).f0.f0.f1) ((rd_T60 x0 (wrap64 (x12 - 1))).f0.f0.f2) ((rd_T60 x0 (wrap64 (x12 - 1))).f0.f1)).bind fun t580 => (if t580 < 0 then (some 7) else (if t580 = 0 then (some 12) else (blocks_Check.j1 k x0 x12 x10 x11 x12 ((rd_T60 x10 x12).f0.f0.f0) ((rd_T60 x10 x12).f0.f0.f1) ((rd_T60 x10 x12).f0.f0.f2) ((rd_T60 x10 x12).f0.f1) ((rd_T60 x10 x12).f1) ((rd_T60 x10 x12).f2) ((rd_T60 x10 x12).f3) ((rd_T60 x10 x12).f4))))) else (none)) else (none)) else (blocks_Check.j1 k x0 x12 x10 x11 x12 ((rd_T60 x10 x12).f0.f0.f0) ((rd_T60 x10 x12).f0.f0.f1) ((rd_T60 x10 x12).f0.f0.f2) ((rd_T60 x10 x12).f0.f1) ((rd_T60 x10 x12).f1) ((rd_T60 x10 x12).f2) ((rd_T60 x10 x12).f3) ((rd_T60 x10 x12).f4))) else (some t578))) else (none)) else (none)) else (some 0)
def blocks_Check.j1 : Nat → List (S60) → Int → List (S60) → Int → Int → Bool → Int → Int → Int → Int → ByteArray → ByteArray → Int → Option (Int)
 | 0,_,_,_,_,_,_,_,_,_,_,_,_,_ => none
 | k + 1,x0,x3,x10,x11,x12,x578000,x578001,x578002,x578003,x578004,x578005,x578006,x578007 => if 0 ≤ x3 then (if x3 ≤ (x0.length : Int) then ((blocks_misplaced.f k (x0.take (x3 : Int).toNat) x578000 x578001 x578002 x578003 x578004 x578005 x578006 x578007).bind fun t585 => (if t585 = true then (some 24) else (blocks_Check.l0 k x0 x10 x11 (wrap64 (x12 + 1))))) else (none)) else (none)
end
def blocks_Check.f (k : Nat) (l0 : List (S60)) : Option (Int) := if (l0.length : Int) > 512 then (some 9) else (blocks_Check.l0 k l0 l0 (l0.length : Int) 0)
end Go.Proofs.Ytjifdgicamlikaa.QA
