import Derived.Test.YtpcjablkjaiapaaDoorQAd1
namespace Go.Proofs.YtpcjablkjaiapaaDoor.QA
open Go.RowKit Go.Proofs.YtpcjablkjaiapaaDoorW.PrintWords Go.Proofs.YtpcjablkjaiapaaDoorW.PrintLast Go.Proofs.YtpcjablkjaiapaaDoorW.PrintMore
set_option linter.unusedVariables false
def failover_state.j0 : Nat → Bool → Bool → Int → Int → Int → Option (Int)
 | 0,_,_,_,_,_ => none
 | k + 1,x10,x257000,x257001,x257002,x257003 => if x10 = true then (some 0) else (some x257001)
def failover_state.f (k : Nat) (a0_0 : Bool) (a0_1 : Int) (a0_2 : Int) (a0_3 : Int) : Option (Int) := if a0_1 < 0 then (failover_state.j0 k true a0_0 a0_1 a0_2 a0_3) else (failover_state.j0 k (decide (a0_1 > 4)) a0_0 a0_1 a0_2 a0_3)
mutual
def digest_Sum.l0 : Nat → ByteArray → Int → Int → Option (Int)
 | 0,_,_,_ => none
 | k + 1,x0,x3,x4 => if x4 < (x0.size : Int) then (if 0 ≤ x4 then (digest_Sum.l0 k x0 (IntKind.u64.wrap ((Go.bits .xor .u64 x3 (IntKind.u64.wrap (bt x0 x4))) * 1099511628211)) (wrap64 (x4 + 1))) else (none)) else (digest_Sum.l1 k x3 0)
def digest_Sum.l1 : Nat → Int → Int → Option (Int)
 | 0,_,_ => none
 | k + 1,x3,x18 => if x18 < 3 then (digest_Sum.l1 k (IntKind.u64.wrap ((Go.bits .xor .u64 x3 (x3 / 4294967296)) * 11400714819323198485)) (wrap64 (x18 + 1))) else (some x3)
end
def digest_Sum.f (k : Nat) (a0 : ByteArray) : Option (Int) := digest_Sum.l0 k a0 14695981039346656037 0
def failover_Serves.j0 : Nat → Bool → Option (Bool)
 | 0,_ => none
 | k + 1,x18 => if x18 = true then (some true) else (some false)
def failover_Serves.f (k : Nat) (a0_0 : Bool) (a0_1 : Int) (a0_2 : Int) (a0_3 : Int) (a1 : ByteArray) (a2 : Int) : Option (Bool) := (failover_state.f k a0_0 a0_1 a0_2 a0_3).bind fun t258 => (if t258 = 1 then ((digest_Sum.f k a1).bind fun t259 => (some (((Int.tmod t259 2) == 0) == a0_0))) else (if t258 = 2 then (failover_Serves.j0 k (t258 == 2)) else (failover_Serves.j0 k (t258 == 3))))
mutual
def ddiref18_Sum.l0 : Nat → ByteArray → Int → Int → Option (Int)
 | 0,_,_,_ => none
 | k + 1,x0,x3,x4 => if x4 < (x0.size : Int) then (if 0 ≤ x4 then (ddiref18_Sum.l0 k x0 (IntKind.u64.wrap ((Go.bits .xor .u64 x3 (IntKind.u64.wrap (bt x0 x4))) * 1099511628211)) (wrap64 (x4 + 1))) else (none)) else (ddiref18_Sum.l1 k x3 0)
def ddiref18_Sum.l1 : Nat → Int → Int → Option (Int)
 | 0,_,_ => none
 | k + 1,x3,x5 => if x5 < 3 then (ddiref18_Sum.l1 k (IntKind.u64.wrap ((Go.bits .xor .u64 x3 (IntKind.u64.wrap (Int.tdiv x3 4294967296))) * 11400714819323198485)) (wrap64 (x5 + 1))) else (some x3)
end
def ddiref18_Sum.f (k : Nat) (a0 : ByteArray) : Option (Int) := ddiref18_Sum.l0 k a0 14695981039346656037 0
def ddiref44_Serves.f (k : Nat) (a0_0 : Bool) (a0_1 : Int) (a0_2 : Int) (a0_3 : Int) (a1 : ByteArray) (a2 : Int) : Option (Bool) := if a0_1 = 1 then ((ddiref18_Sum.f k a1).bind fun t261 => (some (((Int.tmod t261 2) == 0) == a0_0))) else (if a0_1 = 2 then (some true) else (some (a0_1 == 3)))
def ddiref02_Valid.f (a0_0 : Bool) (a0_1 : Int) (a0_2 : Int) : Option (Bool) := if a0_0 = true then (some true) else (if a0_1 = 0 then (some (decide (a0_2 < 4294967296))) else (some false))
def ddiref02_Compare.f (a0_0 : Bool) (a0_1 : Int) (a0_2 : Int) (a1_0 : Bool) (a1_1 : Int) (a1_2 : Int) : Option (Int) := if (a0_0 != a1_0) = true then (if a1_0 = true then (some (-1)) else (some 1)) else (if a0_1 = a1_1 then (if a0_2 < a1_2 then (some (-1)) else (if a0_2 > a1_2 then (some 1) else (some 0))) else (if a0_1 < a1_1 then (some (-1)) else (some 1)))
mutual
def ddiref38_Client.j0 : Nat → ByteArray → Bool → Option (Bool)
 | 0,_,_ => none
 | k + 1,x0,x11 => if x11 = true then (some false) else (ddiref38_Client.l0 k x0 0)
def ddiref38_Client.l0 : Nat → ByteArray → Int → Option (Bool)
 | 0,_,_ => none
 | k + 1,x0,x3 => if x3 < (x0.size : Int) then (if 0 ≤ x3 then (if (bt x0 x3) < 33 then (ddiref38_Client.j2 k x0 x3 true) else (ddiref38_Client.j2 k x0 x3 (decide ((bt x0 x3) > 126)))) else (none)) else (some true)
def ddiref38_Client.j2 : Nat → ByteArray → Int → Bool → Option (Bool)
 | 0,_,_,_ => none
 | k + 1,x0,x3,x27 => if x27 = true then (some false) else (ddiref38_Client.l0 k x0 (wrap64 (x3 + 1)))
end
def ddiref38_Client.f (k : Nat) (a0 : ByteArray) : Option (Bool) := if (a0.size : Int) < 1 then (ddiref38_Client.j0 k a0 true) else (ddiref38_Client.j0 k a0 (decide ((a0.size : Int) > 32)))
def ddiref38_Time.f (a0 : Int) : Option (Bool) := if a0 ≥ 0 then (some (decide (a0 ≤ 4294967295))) else (some false)
mutual
def ddiref01_isLabel.j0 : Nat → ByteArray → Bool → Option (Bool)
 | 0,_,_ => none
 | k + 1,x0,x14 => if x14 = true then (some false) else (ddiref01_isLabel.l0 k x0 0)
def ddiref01_isLabel.l0 : Nat → ByteArray → Int → Option (Bool)
 | 0,_,_ => none
 | k + 1,x0,x3 => if x3 < (x0.size : Int) then (if 0 ≤ x3 then (if (bt x0 x3) ≥ 97 then (if (bt x0 x3) ≤ 122 then (ddiref01_isLabel.j2 k x0 x3 (!true)) else (if (bt x0 x3) ≥ 48 then (if (bt x0 x3) ≤ 57 then (ddiref01_isLabel.j2 k x0 x3 (!true)) else (if (bt x0 x3) = 45 then (ddiref01_isLabel.j2 k x0 x3 (!true)) else (ddiref01_isLabel.j2 k x0 x3 (!((bt x0 x3) == 95))))) else (if (bt x0 x3) = 45 then (ddiref01_isLabel.j2 k x0 x3 (!true)) else (ddiref01_isLabel.j2 k x0 x3 (!((bt x0 x3) == 95)))))) else (if (bt x0 x3) ≥ 48 then (if (bt x0 x3) ≤ 57 then (ddiref01_isLabel.j2 k x0 x3 (!true)) else (if (bt x0 x3) = 45 then (ddiref01_isLabel.j2 k x0 x3 (!true)) else (ddiref01_isLabel.j2 k x0 x3 (!((bt x0 x3) == 95))))) else (if (bt x0 x3) = 45 then (ddiref01_isLabel.j2 k x0 x3 (!true)) else (ddiref01_isLabel.j2 k x0 x3 (!((bt x0 x3) == 95)))))) else (none)) else (some true)
def ddiref01_isLabel.j2 : Nat → ByteArray → Int → Bool → Option (Bool)
 | 0,_,_,_ => none
 | k + 1,x0,x3,x46 => if x46 = true then (some false) else (ddiref01_isLabel.l0 k x0 (wrap64 (x3 + 1)))
end
def ddiref01_isLabel.f (k : Nat) (a0 : ByteArray) : Option (Bool) := if a0.toList = ([42] : List UInt8) then (some true) else (if (a0.size : Int) < 1 then (ddiref01_isLabel.j0 k a0 true) else (ddiref01_isLabel.j0 k a0 (decide ((a0.size : Int) > 63))))
mutual
def ddiref01_split.j0 : Nat → ByteArray → Bool → Option (List ByteArray × Bool)
 | 0,_,_ => none
 | k + 1,x0,x25 => if x25 = true then (some (([] : List ByteArray),false)) else (ddiref01_split.l0 k x0 ([] : List ByteArray) 0 0)
def ddiref01_split.l0 : Nat → ByteArray → List ByteArray → Int → Int → Option (List ByteArray × Bool)
 | 0,_,_,_,_ => none
 | k + 1,x0,x4,x5,x6 => if x6 < (x0.size : Int) then (if 0 ≤ x6 then (if (bt x0 x6) = 46 then (if 0 ≤ x5 then (if x5 ≤ x6 then (if x6 ≤ (x0.size : Int) then ((ddiref01_isLabel.f k (x0.extract (x5 : Int).toNat (x6 : Int).toNat)).bind fun t265 => (if t265 = true then (if (x0.extract (x5 : Int).toNat (x6 : Int).toNat).toList = ([42] : List UInt8) then (ddiref01_split.j2 k x0 x4 x6 (x0.extract (x5 : Int).toNat (x6 : Int).toNat) (decide (x5 > 0))) else (ddiref01_split.j2 k x0 x4 x6 (x0.extract (x5 : Int).toNat (x6 : Int).toNat) false)) else (ddiref01_split.j2 k x0 x4 x6 (x0.extract (x5 : Int).toNat (x6 : Int).toNat) true))) else (none)) else (none)) else (none)) else (ddiref01_split.l0 k x0 x4 x5 (wrap64 (x6 + 1)))) else (none)) else (some (x4,true))
def ddiref01_split.j2 : Nat → ByteArray → List ByteArray → Int → ByteArray → Bool → Option (List ByteArray × Bool)
 | 0,_,_,_,_,_ => none
 | k + 1,x0,x4,x6,x7,x50 => if x50 = true then (some (([] : List ByteArray),false)) else (if x4.length < 8796093022208 then (ddiref01_split.l0 k x0 (x4 ++ [x7]) (wrap64 (x6 + 1)) (wrap64 (x6 + 1))) else (none))
end
def ddiref01_split.f (k : Nat) (a0 : ByteArray) : Option (List ByteArray × Bool) := if a0.toList = ([46] : List UInt8) then (some (([] : List ByteArray),true)) else (if (a0.size : Int) < 2 then (ddiref01_split.j0 k a0 true) else (if (a0.size : Int) > 254 then (ddiref01_split.j0 k a0 true) else (if 0 ≤ (wrap64 ((a0.size : Int) - 1)) then (if (wrap64 ((a0.size : Int) - 1)) < (a0.size : Int) then (ddiref01_split.j0 k a0 ((bt a0 (wrap64 ((a0.size : Int) - 1))) != 46)) else (none)) else (none))))
def ddiref01_Valid.f (k : Nat) (a0 : ByteArray) : Option (Bool) := (ddiref01_split.f k a0).bind fun bt269 => (some bt269.2)
mutual
def ddiref38_One.j0 : Nat → Bool → Bool → Int → Int → ByteArray → Int → Int → Int → ByteArray → Int → Option (Int)
 | 0,_,_,_,_,_,_,_,_,_,_ => none
 | k + 1,x45,x274000,x274001,x274002,x274003,x274004,x274005,x274006,x274007,x274008 => if x45 = true then (some 1) else (if x274007.toList = ([] : List UInt8) then (ddiref38_One.j1 k false) else ((ddiref01_Valid.f k x274007).bind fun t279 => (ddiref38_One.j1 k (!t279))))
def ddiref38_One.j1 : Nat → Bool → Option (Int)
 | 0,_ => none
 | k + 1,x54 => if x54 = true then (some 2) else (some 0)
end
def ddiref38_One.f (k : Nat) (a0_0 : Bool) (a0_1 : Int) (a0_2 : Int) (a0_3 : ByteArray) (a0_4 : Int) (a0_5 : Int) (a0_6 : Int) (a0_7 : ByteArray) (a0_8 : Int) : Option (Int) := (ddiref02_Valid.f a0_0 a0_1 a0_2).bind fun t274 => (if t274 = true then (if a0_4 < 1 then (ddiref38_One.j0 k true a0_0 a0_1 a0_2 a0_3 a0_4 a0_5 a0_6 a0_7 a0_8) else (if a0_4 > 5 then (ddiref38_One.j0 k true a0_0 a0_1 a0_2 a0_3 a0_4 a0_5 a0_6 a0_7 a0_8) else ((ddiref38_Client.f k a0_3).bind fun t275 => (if t275 = true then ((ddiref38_Time.f a0_5).bind fun t276 => (if t276 = true then ((ddiref38_Time.f a0_6).bind fun t277 => (if t277 = true then (if a0_5 > a0_6 then (ddiref38_One.j0 k true a0_0 a0_1 a0_2 a0_3 a0_4 a0_5 a0_6 a0_7 a0_8) else ((ddiref38_Time.f a0_8).bind fun t278 => (ddiref38_One.j0 k (!t278) a0_0 a0_1 a0_2 a0_3 a0_4 a0_5 a0_6 a0_7 a0_8))) else (ddiref38_One.j0 k true a0_0 a0_1 a0_2 a0_3 a0_4 a0_5 a0_6 a0_7 a0_8))) else (ddiref38_One.j0 k true a0_0 a0_1 a0_2 a0_3 a0_4 a0_5 a0_6 a0_7 a0_8))) else (ddiref38_One.j0 k true a0_0 a0_1 a0_2 a0_3 a0_4 a0_5 a0_6 a0_7 a0_8))))) else (some 3))
mutual
def ddiref38_Check.l0 : Nat → List (S27) → Int → Option (Int)
 | 0,_,_ => none
 | k + 1,x0,x3 => if x3 < (x0.length : Int) then (if 0 ≤ x3 then ((ddiref02_Valid.f ((rd_T27 x0 x3).f0.f0) ((rd_T27 x0 x3).f0.f1) ((rd_T27 x0 x3).f0.f2)).bind fun t281 => (if t281 = true then (if x3 > 0 then (if 0 ≤ (wrap64 (x3 - 1)) then (if (wrap64 (x3 - 1)) < (x0.length : Int) then ((ddiref02_Compare.f ((rd_T27 x0 (wrap64 (x3 - 1))).f0.f0) ((rd_T27 x0 (wrap64 (x3 - 1))).f0.f1) ((rd_T27 x0 (wrap64 (x3 - 1))).f0.f2) ((rd_T27 x0 x3).f0.f0) ((rd_T27 x0 x3).f0.f1) ((rd_T27 x0 x3).f0.f2)).bind fun t284 => (ddiref38_Check.j1 k x0 x3 (decide (t284 ≥ 0)))) else (none)) else (none)) else (ddiref38_Check.j1 k x0 x3 false)) else (some 3))) else (none)) else (some 0)
def ddiref38_Check.j1 : Nat → List (S27) → Int → Bool → Option (Int)
 | 0,_,_,_ => none
 | k + 1,x0,x3,x37 => if x37 = true then (some 7) else (if 0 ≤ x3 then (if x3 < (x0.length : Int) then ((ddiref38_One.f k ((rd_T27 x0 x3).f0.f0) ((rd_T27 x0 x3).f0.f1) ((rd_T27 x0 x3).f0.f2) ((rd_T27 x0 x3).f1) ((rd_T27 x0 x3).f2) ((rd_T27 x0 x3).f3) ((rd_T27 x0 x3).f4) ((rd_T27 x0 x3).f5) ((rd_T27 x0 x3).f6)).bind fun t286 => (if t286 = 0 then (ddiref38_Check.l0 k x0 (wrap64 (x3 + 1))) else (some t286))) else (none)) else (none))
end
def ddiref38_Check.f (k : Nat) (l0 : List (S27)) : Option (Int) := if (l0.length : Int) > 512 then (some 9) else (ddiref38_Check.l0 k l0 0)
def ddiref38_Find.l0 : Nat → List (S27) → Int → Bool → Int → Int → Option (Bool × Int × Int × ByteArray × Int × Int × Int × ByteArray × Int × Bool)
 | 0,_,_,_,_,_ => none
 | k + 1,x0,x6,x288000,x288001,x288002 => if x6 < (x0.length : Int) then (if 0 ≤ x6 then (if (((rd_T27 x0 x6).f0.f0) == x288000 && (((rd_T27 x0 x6).f0.f1) == x288001 && (((rd_T27 x0 x6).f0.f2) == x288002))) = true then (some ((rd_T27 x0 x6).f0.f0,(rd_T27 x0 x6).f0.f1,(rd_T27 x0 x6).f0.f2,(rd_T27 x0 x6).f1,(rd_T27 x0 x6).f2,(rd_T27 x0 x6).f3,(rd_T27 x0 x6).f4,(rd_T27 x0 x6).f5,(rd_T27 x0 x6).f6,true)) else (ddiref38_Find.l0 k x0 (wrap64 (x6 + 1)) x288000 x288001 x288002)) else (none)) else (some (false,0,0,(⟨#[]⟩ : ByteArray),0,0,0,(⟨#[]⟩ : ByteArray),0,false))
def ddiref38_Find.f (k : Nat) (l0 : List (S27)) (a1_0 : Bool) (a1_1 : Int) (a1_2 : Int) : Option (Bool × Int × Int × ByteArray × Int × Int × Int × ByteArray × Int × Bool) := ddiref38_Find.l0 k l0 0 a1_0 a1_1 a1_2
def ddiref44_newer.f (a0_0 : Bool) (a0_1 : Int) (a0_2 : Int) (a0_3 : ByteArray) (a0_4 : Int) (a0_5 : Int) (a0_6 : Int) (a0_7 : ByteArray) (a0_8 : Int) (a1_0 : Bool) (a1_1 : Int) (a1_2 : Int) (a1_3 : ByteArray) (a1_4 : Int) (a1_5 : Int) (a1_6 : Int) (a1_7 : ByteArray) (a1_8 : Int) : Option (Bool) := if a0_5 = a1_5 then (if a0_3.toList = a1_3.toList then (if a0_6 = a1_6 then (some (decide (a0_4 > a1_4))) else (some (decide (a0_6 > a1_6)))) else (some false)) else (some (decide (a0_5 > a1_5)))
mutual
def ddiref44_Merge.j0 : Nat → List (S27) → Bool → Bool → Bool → Int → Int → ByteArray → Int → Int → Int → ByteArray → Int → Bool → Int → Int → ByteArray → Int → Int → Int → ByteArray → Int → Option ((List (S27)) × Bool)
 | 0,_,_,_,_,_,_,_,_,_,_,_,_,_,_,_,_,_,_,_,_,_ => none
 | k + 1,x0,x7,x38,x294000,x294001,x294002,x294003,x294004,x294005,x294006,x294007,x294008,x309000,x309001,x309002,x309003,x309004,x309005,x309006,x309007,x309008 => if x38 = true then (some (x0,false)) else (if x7 = true then (if x309003.toList = x294003.toList then (ddiref44_Merge.j1 k x0 (decide (x309008 > x294008)) x294000 x294001 x294002 x294003 x294004 x294005 x294006 x294007 x294008 x309000 x309001 x309002 x309003 x309004 x309005 x309006 x309007 x309008) else (ddiref44_Merge.j1 k x0 false x294000 x294001 x294002 x294003 x294004 x294005 x294006 x294007 x294008 x309000 x309001 x309002 x309003 x309004 x309005 x309006 x309007 x309008)) else (ddiref44_Merge.j1 k x0 false x294000 x294001 x294002 x294003 x294004 x294005 x294006 x294007 x294008 x309000 x309001 x309002 x309003 x309004 x309005 x309006 x309007 x309008))
def ddiref44_Merge.j1 : Nat → List (S27) → Bool → Bool → Int → Int → ByteArray → Int → Int → Int → ByteArray → Int → Bool → Int → Int → ByteArray → Int → Int → Int → ByteArray → Int → Option ((List (S27)) × Bool)
 | 0,_,_,_,_,_,_,_,_,_,_,_,_,_,_,_,_,_,_,_,_ => none
 | k + 1,x0,x54,x294000,x294001,x294002,x294003,x294004,x294005,x294006,x294007,x294008,x309000,x309001,x309002,x309003,x309004,x309005,x309006,x309007,x309008 => if x54 = true then (ddiref44_Merge.j2 k x0 x294000 x294001 x294002 x294003 x294004 x294005 x294006 x294007 x309008) else (ddiref44_Merge.j2 k x0 x294000 x294001 x294002 x294003 x294004 x294005 x294006 x294007 x294008)
def ddiref44_Merge.j2 : Nat → List (S27) → Bool → Int → Int → ByteArray → Int → Int → Int → ByteArray → Int → Option ((List (S27)) × Bool)
 | 0,_,_,_,_,_,_,_,_,_,_ => none
 | k + 1,x0,x294000,x294001,x294002,x294003,x294004,x294005,x294006,x294007,x294008 => ddiref44_Merge.l0 k x0 ([] : List (S27)) false 0 x294000 x294001 x294002 x294003 x294004 x294005 x294006 x294007 x294008
def ddiref44_Merge.l0 : Nat → List (S27) → List (S27) → Bool → Int → Bool → Int → Int → ByteArray → Int → Int → Int → ByteArray → Int → Option ((List (S27)) × Bool)
 | 0,_,_,_,_,_,_,_,_,_,_,_,_,_ => none
 | k + 1,x0,x8,x9,x10,x294000,x294001,x294002,x294003,x294004,x294005,x294006,x294007,x294008 => if x10 < (x0.length : Int) then (if x9 = true then (ddiref44_Merge.j4 k x0 x8 x9 x10 false x294000 x294001 x294002 x294003 x294004 x294005 x294006 x294007 x294008) else (if 0 ≤ x10 then ((ddiref02_Compare.f x294000 x294001 x294002 ((rd_T27 x0 x10).f0.f0) ((rd_T27 x0 x10).f0.f1) ((rd_T27 x0 x10).f0.f2)).bind fun t311 => (ddiref44_Merge.j4 k x0 x8 x9 x10 (decide (t311 ≤ 0)) x294000 x294001 x294002 x294003 x294004 x294005 x294006 x294007 x294008)) else (none))) else (if x9 = true then (some (x8,true)) else (if x8.length < 1599289640401 then (some ((x8 ++ [(⟨(⟨x294000,x294001,x294002⟩ : S25),x294003,x294004,x294005,x294006,x294007,x294008⟩ : S27)]),true)) else (none)))
def ddiref44_Merge.j4 : Nat → List (S27) → List (S27) → Bool → Int → Bool → Bool → Int → Int → ByteArray → Int → Int → Int → ByteArray → Int → Option ((List (S27)) × Bool)
 | 0,_,_,_,_,_,_,_,_,_,_,_,_,_,_ => none
 | k + 1,x0,x8,x9,x10,x76,x294000,x294001,x294002,x294003,x294004,x294005,x294006,x294007,x294008 => if x76 = true then (if x8.length < 1599289640401 then (ddiref44_Merge.j5 k x0 (x8 ++ [(⟨(⟨x294000,x294001,x294002⟩ : S25),x294003,x294004,x294005,x294006,x294007,x294008⟩ : S27)]) true x10 x294000 x294001 x294002 x294003 x294004 x294005 x294006 x294007 x294008) else (none)) else (ddiref44_Merge.j5 k x0 x8 x9 x10 x294000 x294001 x294002 x294003 x294004 x294005 x294006 x294007 x294008)
def ddiref44_Merge.j5 : Nat → List (S27) → List (S27) → Bool → Int → Bool → Int → Int → ByteArray → Int → Int → Int → ByteArray → Int → Option ((List (S27)) × Bool)
 | 0,_,_,_,_,_,_,_,_,_,_,_,_,_ => none
 | k + 1,x0,x8,x9,x10,x294000,x294001,x294002,x294003,x294004,x294005,x294006,x294007,x294008 => if 0 ≤ x10 then (if x10 < (x0.length : Int) then (if (!(((rd_T27 x0 x10).f0.f0) == x294000) || (!(((rd_T27 x0 x10).f0.f1) == x294001) || (!(((rd_T27 x0 x10).f0.f2) == x294002)))) = true then (if x8.length < 1599289640401 then (ddiref44_Merge.l0 k x0 (x8 ++ [(⟨(⟨(rd_T27 x0 x10).f0.f0,(rd_T27 x0 x10).f0.f1,(rd_T27 x0 x10).f0.f2⟩ : S25),(rd_T27 x0 x10).f1,(rd_T27 x0 x10).f2,(rd_T27 x0 x10).f3,(rd_T27 x0 x10).f4,(rd_T27 x0 x10).f5,(rd_T27 x0 x10).f6⟩ : S27)]) x9 (wrap64 (x10 + 1)) x294000 x294001 x294002 x294003 x294004 x294005 x294006 x294007 x294008) else (none)) else (ddiref44_Merge.l0 k x0 x8 x9 (wrap64 (x10 + 1)) x294000 x294001 x294002 x294003 x294004 x294005 x294006 x294007 x294008)) else (none)) else (none)
end
def ddiref44_Merge.f (k : Nat) (l0 : List (S27)) (a1_0 : Bool) (a1_1 : Int) (a1_2 : Int) (a1_3 : ByteArray) (a1_4 : Int) (a1_5 : Int) (a1_6 : Int) (a1_7 : ByteArray) (a1_8 : Int) : Option ((List (S27)) × Bool) := (ddiref38_Check.f k (([(⟨(⟨a1_0,a1_1,a1_2⟩ : S25),a1_3,a1_4,a1_5,a1_6,a1_7,a1_8⟩ : S27)] : List (S27)))).bind fun t297 => (if t297 = 0 then ((ddiref38_Find.f k l0 a1_0 a1_1 a1_2).bind fun bt298 => (if bt298.2.2.2.2.2.2.2.2.2 = true then ((ddiref44_newer.f a1_0 a1_1 a1_2 a1_3 a1_4 a1_5 a1_6 a1_7 a1_8 bt298.1 bt298.2.1 bt298.2.2.1 bt298.2.2.2.1 bt298.2.2.2.2.1 bt298.2.2.2.2.2.1 bt298.2.2.2.2.2.2.1 bt298.2.2.2.2.2.2.2.1 bt298.2.2.2.2.2.2.2.2.1).bind fun t309 => (if t309 = true then (ddiref44_Merge.j0 k l0 bt298.2.2.2.2.2.2.2.2.2 false a1_0 a1_1 a1_2 a1_3 a1_4 a1_5 a1_6 a1_7 a1_8 bt298.1 bt298.2.1 bt298.2.2.1 bt298.2.2.2.1 bt298.2.2.2.2.1 bt298.2.2.2.2.2.1 bt298.2.2.2.2.2.2.1 bt298.2.2.2.2.2.2.2.1 bt298.2.2.2.2.2.2.2.2.1) else (ddiref44_Merge.j0 k l0 bt298.2.2.2.2.2.2.2.2.2 true a1_0 a1_1 a1_2 a1_3 a1_4 a1_5 a1_6 a1_7 a1_8 bt298.1 bt298.2.1 bt298.2.2.1 bt298.2.2.2.1 bt298.2.2.2.2.1 bt298.2.2.2.2.2.1 bt298.2.2.2.2.2.2.1 bt298.2.2.2.2.2.2.2.1 bt298.2.2.2.2.2.2.2.2.1))) else (ddiref44_Merge.j0 k l0 bt298.2.2.2.2.2.2.2.2.2 (decide ((l0.length : Int) ≥ 512)) a1_0 a1_1 a1_2 a1_3 a1_4 a1_5 a1_6 a1_7 a1_8 bt298.1 bt298.2.1 bt298.2.2.1 bt298.2.2.2.1 bt298.2.2.2.2.1 bt298.2.2.2.2.2.1 bt298.2.2.2.2.2.2.1 bt298.2.2.2.2.2.2.2.1 bt298.2.2.2.2.2.2.2.2.1))) else (some (l0,false)))
mutual
def ddilaw44_FailoverMerges.j0 : Nat → List (S27) → Bool → Bool → Int → Int → ByteArray → Int → Int → Int → ByteArray → Int → Bool → Int → Int → Int → Option (Bool)
 | 0,_,_,_,_,_,_,_,_,_,_,_,_,_,_,_ => none
 | k + 1,x0,x28,x324000,x324001,x324002,x324003,x324004,x324005,x324006,x324007,x324008,x325000,x325001,x325002,x325003 => if x28 = true then (some false) else (if (x324003.size : Int) ≤ 1000 then ((failover_Serves.f k x325000 x325001 x325002 x325003 x324003 x324006).bind fun t330 => ((ddiref44_Serves.f k x325000 x325001 x325002 x325003 x324003 x324006).bind fun t331 => (ddilaw44_FailoverMerges.j1 k x0 (t330 != t331) x324000 x324001 x324002 x324003 x324004 x324005 x324006 x324007 x324008))) else (ddilaw44_FailoverMerges.j1 k x0 false x324000 x324001 x324002 x324003 x324004 x324005 x324006 x324007 x324008))
def ddilaw44_FailoverMerges.j1 : Nat → List (S27) → Bool → Bool → Int → Int → ByteArray → Int → Int → Int → ByteArray → Int → Option (Bool)
 | 0,_,_,_,_,_,_,_,_,_,_,_ => none
 | k + 1,x0,x47,x324000,x324001,x324002,x324003,x324004,x324005,x324006,x324007,x324008 => if x47 = true then (some false) else (if (x0.length : Int) > 600 then (ddilaw44_FailoverMerges.j2 k x0 true x324000 x324001 x324002 x324003 x324004 x324005 x324006 x324007 x324008) else (if (x324003.size : Int) > 1000 then (ddilaw44_FailoverMerges.j2 k x0 true x324000 x324001 x324002 x324003 x324004 x324005 x324006 x324007 x324008) else (if (x324007.size : Int) > 1000 then (ddilaw44_FailoverMerges.j2 k x0 true x324000 x324001 x324002 x324003 x324004 x324005 x324006 x324007 x324008) else ((ddiref38_Check.f k x0).bind fun t332 => (ddilaw44_FailoverMerges.j2 k x0 (t332 != 0) x324000 x324001 x324002 x324003 x324004 x324005 x324006 x324007 x324008)))))
def ddilaw44_FailoverMerges.j2 : Nat → List (S27) → Bool → Bool → Int → Int → ByteArray → Int → Int → Int → ByteArray → Int → Option (Bool)
 | 0,_,_,_,_,_,_,_,_,_,_,_ => none
 | k + 1,x0,x67,x324000,x324001,x324002,x324003,x324004,x324005,x324006,x324007,x324008 => if x67 = true then (some true) else ((failover_Merge.f k x0 x324000 x324001 x324002 x324003 x324004 x324005 x324006 x324007 x324008).bind fun bt333 => ((ddiref44_Merge.f k x0 x324000 x324001 x324002 x324003 x324004 x324005 x324006 x324007 x324008).bind fun bt337 => (if (bt333.2 == bt337.2) = true then ((ddilaw44_tables.f k bt333.1 bt337.1).bind fun t341 => (some t341)) else (some false))))
end
def ddilaw44_FailoverMerges.f (k : Nat) (l0 : List (S27)) (a1_0 : Bool) (a1_1 : Int) (a1_2 : Int) (a1_3 : ByteArray) (a1_4 : Int) (a1_5 : Int) (a1_6 : Int) (a1_7 : ByteArray) (a1_8 : Int) (a2_0 : Bool) (a2_1 : Int) (a2_2 : Int) (a2_3 : Int) : Option (Bool) := (failover_Merge.f k ([] : List (S27)) false 0 1 (⟨#[99]⟩ : ByteArray) 2 0 5 (⟨#[]⟩ : ByteArray) 0).bind fun bt325 => (if (bt325.1.length : Int) = 1 then (if bt325.2 = true then ((failover_Serves.f k false 3 0 0 (⟨#[99]⟩ : ByteArray) 1).bind fun t329 => (ddilaw44_FailoverMerges.j0 k l0 (!t329) a1_0 a1_1 a1_2 a1_3 a1_4 a1_5 a1_6 a1_7 a1_8 a2_0 a2_1 a2_2 a2_3)) else (ddilaw44_FailoverMerges.j0 k l0 true a1_0 a1_1 a1_2 a1_3 a1_4 a1_5 a1_6 a1_7 a1_8 a2_0 a2_1 a2_2 a2_3)) else (ddilaw44_FailoverMerges.j0 k l0 true a1_0 a1_1 a1_2 a1_3 a1_4 a1_5 a1_6 a1_7 a1_8 a2_0 a2_1 a2_2 a2_3))
/-- THE ONE PURE STATEMENT of ddilaw44_FailoverMerges: ours. -/
def ddilaw44_FailoverMerges.Pure : Prop := ∀ (l0 : List (S27)) (a1_0 : Bool) (a1_1 : Int) (a1_2 : Int) (a1_3 : ByteArray) (a1_4 : Int) (a1_5 : Int) (a1_6 : Int) (a1_7 : ByteArray) (a1_8 : Int) (a2_0 : Bool) (a2_1 : Int) (a2_2 : Int) (a2_3 : Int),(l0.length * 88 ≤ 140737488351232 ∧ l0.length ≤ maxLen ∧ ∀ y0_ ∈ l0,okS27 y0_) → okS27 (⟨(⟨a1_0,a1_1,a1_2⟩ : S25),a1_3,a1_4,a1_5,a1_6,a1_7,a1_8⟩ : S27) → okS37 (⟨a2_0,a2_1,a2_2,a2_3⟩ : S37) → ∃ k,ddilaw44_FailoverMerges.f k l0 a1_0 a1_1 a1_2 a1_3 a1_4 a1_5 a1_6 a1_7 a1_8 a2_0 a2_1 a2_2 a2_3 = some true
end Go.Proofs.YtpcjablkjaiapaaDoor.QA
