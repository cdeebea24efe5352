-- Written by this session's own program (wip/xprint) out of the translation; Lean checks it.
import Derived.Test.YtioopjondjfchaaQAd1
namespace Go.Proofs.Ytioopjondjfchaa.QA
open Go.RowKit Go.Proofs.YtioopjondjfchaaW.PrintWords Go.Proofs.YtioopjondjfchaaW.PrintLast Go.Proofs.YtioopjondjfchaaW.PrintMore
set_option linter.unusedVariables false
def probe_Finish.l0 : Nat → Int → List (S33) → List (S33) → List (S33) → Int → Int → Option ((List (S33)) × (List (S33)))
 | 0,_,_,_,_,_,_ => none
 | k + 1,x1,x6,x7,x10,x11,x12 => if x12 < x11 then (if 0 ≤ x12 then (if x12 < (x10.length : Int) then (if ((rd_T33 x10 x12).f3) > x1 then (if x6.length < 733007751850 then (probe_Finish.l0 k x1 (x6 ++ [(⟨(⟨(rd_T33 x10 x12).f0.f0,(rd_T33 x10 x12).f0.f1,(rd_T33 x10 x12).f0.f2⟩ : S28),(rd_T33 x10 x12).f1,(⟨(rd_T33 x10 x12).f2.f0,(rd_T33 x10 x12).f2.f1,(rd_T33 x10 x12).f2.f2,(rd_T33 x10 x12).f2.f3,(⟨(rd_T33 x10 x12).f2.f4.f0,(rd_T33 x10 x12).f2.f4.f1,(rd_T33 x10 x12).f2.f4.f2⟩ : S28),(⟨(rd_T33 x10 x12).f2.f5.f0,(rd_T33 x10 x12).f2.f5.f1,(rd_T33 x10 x12).f2.f5.f2⟩ : S28),(⟨(rd_T33 x10 x12).f2.f6.f0,(rd_T33 x10 x12).f2.f6.f1,(rd_T33 x10 x12).f2.f6.f2⟩ : S28),(rd_T33 x10 x12).f2.f7,(rd_T33 x10 x12).f2.f8⟩ : S31),(rd_T33 x10 x12).f3⟩ : S33)]) x7 x10 x11 (wrap64 (x12 + 1))) else (none)) else (if x7.length < 733007751850 then (probe_Finish.l0 k x1 x6 (x7 ++ [(⟨(⟨(rd_T33 x10 x12).f0.f0,(rd_T33 x10 x12).f0.f1,(rd_T33 x10 x12).f0.f2⟩ : S28),(rd_T33 x10 x12).f1,(⟨(rd_T33 x10 x12).f2.f0,(rd_T33 x10 x12).f2.f1,(rd_T33 x10 x12).f2.f2,(rd_T33 x10 x12).f2.f3,(⟨(rd_T33 x10 x12).f2.f4.f0,(rd_T33 x10 x12).f2.f4.f1,(rd_T33 x10 x12).f2.f4.f2⟩ : S28),(⟨(rd_T33 x10 x12).f2.f5.f0,(rd_T33 x10 x12).f2.f5.f1,(rd_T33 x10 x12).f2.f5.f2⟩ : S28),(⟨(rd_T33 x10 x12).f2.f6.f0,(rd_T33 x10 x12).f2.f6.f1,(rd_T33 x10 x12).f2.f6.f2⟩ : S28),(rd_T33 x10 x12).f2.f7,(rd_T33 x10 x12).f2.f8⟩ : S31),(rd_T33 x10 x12).f3⟩ : S33)]) x10 x11 (wrap64 (x12 + 1))) else (none))) else (none)) else (none)) else (some (x6,x7))
def probe_Finish.f (k : Nat) (l0 : List (S33)) (a1 : Int) : Option ((List (S33)) × (List (S33))) := probe_Finish.l0 k a1 ([] : List (S33)) ([] : List (S33)) l0 (l0.length : Int) 0
theorem probe_Finish.mono_l : ∀ k,(∀ y0 y1 y2 y3 y4 y5,LeO (probe_Finish.l0 k y0 y1 y2 y3 y4 y5) (probe_Finish.l0 (k + 1) y0 y1 y2 y3 y4 y5))
 | 0 => fun _ _ _ _ _ _ r h => by simp [probe_Finish.l0] at h
 | k + 1 => by
  have ih0 := probe_Finish.mono_l k
  ·intro y0 y1 y2 y3 y4 y5
   unfold probe_Finish.l0
   repeat' first
   | (with_reducible exact ih0 _ _ _ _ _ _)
   | (with_reducible exact LeO.refl _)
   | (with_reducible exact LeO.none _)
   | (with_reducible refine LeO.ite ?_ ?_)
   | (with_reducible refine LeO.bind ?_ (fun _ => ?_))
theorem probe_Finish.mono : ∀ a0 a1 k,LeO (probe_Finish.f k a0 a1) (probe_Finish.f (k + 1) a0 a1) := by
 intro a0 a1 k
 have ih0 := probe_Finish.mono_l k
 unfold probe_Finish.f
 repeat' first
   | (with_reducible exact ih0 _ _ _ _ _ _)
   | (with_reducible exact LeO.refl _)
   | (with_reducible exact LeO.none _)
   | (with_reducible refine LeO.ite ?_ ?_)
   | (with_reducible refine LeO.bind ?_ (fun _ => ?_))
mutual
def ddilaw40_packets.j0 : Nat → Bool → Int → Int → Int → ByteArray → Bool → Int → Int → Bool → Int → Int → Bool → Int → Int → Bool → List (S70) → Int → Int → Int → ByteArray → Bool → Int → Int → Bool → Int → Int → Bool → Int → Int → Bool → List (S70) → Option (Bool)
 | 0,_,_,_,_,_,_,_,_,_,_,_,_,_,_,_,_,_,_,_,_,_,_,_,_,_,_,_,_,_,_,_ => none
 | k + 1,x68,x211000,x211001,x211002,x211003,x211004,x211005,x211006,x211007,x211008,x211009,x211010,x211011,x211012,x211013,x211014,x212000,x212001,x212002,x212003,x212004,x212005,x212006,x212007,x212008,x212009,x212010,x212011,x212012,x212013,x212014 => if x68 = true then (some false) else (ddilaw40_packets.l0 k 0 x211000 x211001 x211002 x211003 x211004 x211005 x211006 x211007 x211008 x211009 x211010 x211011 x211012 x211013 x211014 x212000 x212001 x212002 x212003 x212004 x212005 x212006 x212007 x212008 x212009 x212010 x212011 x212012 x212013 x212014)
def ddilaw40_packets.l0 : Nat → Int → Int → Int → Int → ByteArray → Bool → Int → Int → Bool → Int → Int → Bool → Int → Int → Bool → List (S70) → Int → Int → Int → ByteArray → Bool → Int → Int → Bool → Int → Int → Bool → Int → Int → Bool → List (S70) → Option (Bool)
 | 0,_,_,_,_,_,_,_,_,_,_,_,_,_,_,_,_,_,_,_,_,_,_,_,_,_,_,_,_,_,_,_ => none
 | k + 1,x5,x211000,x211001,x211002,x211003,x211004,x211005,x211006,x211007,x211008,x211009,x211010,x211011,x211012,x211013,x211014,x212000,x212001,x212002,x212003,x212004,x212005,x212006,x212007,x212008,x212009,x212010,x212011,x212012,x212013,x212014 => if x5 < (x211014.length : Int) then (if 0 ≤ x5 then (if x5 < (x212014.length : Int) then (if (!(((rd_T70 x211014 x5).f0) == ((rd_T70 x212014 x5).f0)) || (!((((rd_T70 x211014 x5).f1).toList) == (((rd_T70 x212014 x5).f1).toList)))) = true then (some false) else (ddilaw40_packets.l0 k (wrap64 (x5 + 1)) x211000 x211001 x211002 x211003 x211004 x211005 x211006 x211007 x211008 x211009 x211010 x211011 x211012 x211013 x211014 x212000 x212001 x212002 x212003 x212004 x212005 x212006 x212007 x212008 x212009 x212010 x212011 x212012 x212013 x212014)) else (none)) else (none)) else (some true)
end
def ddilaw40_packets.f (k : Nat) (a0_0 : Int) (a0_1 : Int) (a0_2 : Int) (a0_3 : ByteArray) (a0_4 : Bool) (a0_5 : Int) (a0_6 : Int) (a0_7 : Bool) (a0_8 : Int) (a0_9 : Int) (a0_10 : Bool) (a0_11 : Int) (a0_12 : Int) (a0_13 : Bool) (l0_14 : List (S70)) (a1_0 : Int) (a1_1 : Int) (a1_2 : Int) (a1_3 : ByteArray) (a1_4 : Bool) (a1_5 : Int) (a1_6 : Int) (a1_7 : Bool) (a1_8 : Int) (a1_9 : Int) (a1_10 : Bool) (a1_11 : Int) (a1_12 : Int) (a1_13 : Bool) (l1_14 : List (S70)) : Option (Bool) := if a0_0 = a1_0 then (if a0_1 = a1_1 then (if a0_2 = a1_2 then (if a0_3.toList = a1_3.toList then (if (!(a0_4 == a1_4) || (!(a0_5 == a1_5) || (!(a0_6 == a1_6)))) = true then (ddilaw40_packets.j0 k true a0_0 a0_1 a0_2 a0_3 a0_4 a0_5 a0_6 a0_7 a0_8 a0_9 a0_10 a0_11 a0_12 a0_13 l0_14 a1_0 a1_1 a1_2 a1_3 a1_4 a1_5 a1_6 a1_7 a1_8 a1_9 a1_10 a1_11 a1_12 a1_13 l1_14) else (if (!(a0_7 == a1_7) || (!(a0_8 == a1_8) || (!(a0_9 == a1_9)))) = true then (ddilaw40_packets.j0 k true a0_0 a0_1 a0_2 a0_3 a0_4 a0_5 a0_6 a0_7 a0_8 a0_9 a0_10 a0_11 a0_12 a0_13 l0_14 a1_0 a1_1 a1_2 a1_3 a1_4 a1_5 a1_6 a1_7 a1_8 a1_9 a1_10 a1_11 a1_12 a1_13 l1_14) else (if (!(a0_10 == a1_10) || (!(a0_11 == a1_11) || (!(a0_12 == a1_12)))) = true then (ddilaw40_packets.j0 k true a0_0 a0_1 a0_2 a0_3 a0_4 a0_5 a0_6 a0_7 a0_8 a0_9 a0_10 a0_11 a0_12 a0_13 l0_14 a1_0 a1_1 a1_2 a1_3 a1_4 a1_5 a1_6 a1_7 a1_8 a1_9 a1_10 a1_11 a1_12 a1_13 l1_14) else (if (a0_13 != a1_13) = true then (ddilaw40_packets.j0 k true a0_0 a0_1 a0_2 a0_3 a0_4 a0_5 a0_6 a0_7 a0_8 a0_9 a0_10 a0_11 a0_12 a0_13 l0_14 a1_0 a1_1 a1_2 a1_3 a1_4 a1_5 a1_6 a1_7 a1_8 a1_9 a1_10 a1_11 a1_12 a1_13 l1_14) else (ddilaw40_packets.j0 k ((l0_14.length : Int) != (l1_14.length : Int)) a0_0 a0_1 a0_2 a0_3 a0_4 a0_5 a0_6 a0_7 a0_8 a0_9 a0_10 a0_11 a0_12 a0_13 l0_14 a1_0 a1_1 a1_2 a1_3 a1_4 a1_5 a1_6 a1_7 a1_8 a1_9 a1_10 a1_11 a1_12 a1_13 l1_14))))) else (ddilaw40_packets.j0 k true a0_0 a0_1 a0_2 a0_3 a0_4 a0_5 a0_6 a0_7 a0_8 a0_9 a0_10 a0_11 a0_12 a0_13 l0_14 a1_0 a1_1 a1_2 a1_3 a1_4 a1_5 a1_6 a1_7 a1_8 a1_9 a1_10 a1_11 a1_12 a1_13 l1_14)) else (ddilaw40_packets.j0 k true a0_0 a0_1 a0_2 a0_3 a0_4 a0_5 a0_6 a0_7 a0_8 a0_9 a0_10 a0_11 a0_12 a0_13 l0_14 a1_0 a1_1 a1_2 a1_3 a1_4 a1_5 a1_6 a1_7 a1_8 a1_9 a1_10 a1_11 a1_12 a1_13 l1_14)) else (ddilaw40_packets.j0 k true a0_0 a0_1 a0_2 a0_3 a0_4 a0_5 a0_6 a0_7 a0_8 a0_9 a0_10 a0_11 a0_12 a0_13 l0_14 a1_0 a1_1 a1_2 a1_3 a1_4 a1_5 a1_6 a1_7 a1_8 a1_9 a1_10 a1_11 a1_12 a1_13 l1_14)) else (ddilaw40_packets.j0 k true a0_0 a0_1 a0_2 a0_3 a0_4 a0_5 a0_6 a0_7 a0_8 a0_9 a0_10 a0_11 a0_12 a0_13 l0_14 a1_0 a1_1 a1_2 a1_3 a1_4 a1_5 a1_6 a1_7 a1_8 a1_9 a1_10 a1_11 a1_12 a1_13 l1_14)
theorem ddilaw40_packets.mono_l : ∀ k,(∀ y0 y1 y2 y3 y4 y5 y6 y7 y8 y9 y10 y11 y12 y13 y14 y15 y16 y17 y18 y19 y20 y21 y22 y23 y24 y25 y26 y27 y28 y29 y30,LeO (ddilaw40_packets.j0 k y0 y1 y2 y3 y4 y5 y6 y7 y8 y9 y10 y11 y12 y13 y14 y15 y16 y17 y18 y19 y20 y21 y22 y23 y24 y25 y26 y27 y28 y29 y30) (ddilaw40_packets.j0 (k + 1) y0 y1 y2 y3 y4 y5 y6 y7 y8 y9 y10 y11 y12 y13 y14 y15 y16 y17 y18 y19 y20 y21 y22 y23 y24 y25 y26 y27 y28 y29 y30)) ∧ (∀ y0 y1 y2 y3 y4 y5 y6 y7 y8 y9 y10 y11 y12 y13 y14 y15 y16 y17 y18 y19 y20 y21 y22 y23 y24 y25 y26 y27 y28 y29 y30,LeO (ddilaw40_packets.l0 k y0 y1 y2 y3 y4 y5 y6 y7 y8 y9 y10 y11 y12 y13 y14 y15 y16 y17 y18 y19 y20 y21 y22 y23 y24 y25 y26 y27 y28 y29 y30) (ddilaw40_packets.l0 (k + 1) y0 y1 y2 y3 y4 y5 y6 y7 y8 y9 y10 y11 y12 y13 y14 y15 y16 y17 y18 y19 y20 y21 y22 y23 y24 y25 y26 y27 y28 y29 y30))
 | 0 => ⟨fun _ _ _ _ _ _ _ _ _ _ _ _ _ _ _ _ _ _ _ _ _ _ _ _ _ _ _ _ _ _ _ r h => by simp [ddilaw40_packets.j0] at h,fun _ _ _ _ _ _ _ _ _ _ _ _ _ _ _ _ _ _ _ _ _ _ _ _ _ _ _ _ _ _ _ r h => by simp [ddilaw40_packets.l0] at h⟩
 | k + 1 => by
  obtain ⟨ih0,ih1⟩ := ddilaw40_packets.mono_l k
  refine ⟨?_,?_⟩
  ·intro y0 y1 y2 y3 y4 y5 y6 y7 y8 y9 y10 y11 y12 y13 y14 y15 y16 y17 y18 y19 y20 y21 y22 y23 y24 y25 y26 y27 y28 y29 y30
   unfold ddilaw40_packets.j0
   repeat' first
   | (with_reducible exact ih0 _ _ _ _ _ _ _ _ _ _ _ _ _ _ _ _ _ _ _ _ _ _ _ _ _ _ _ _ _ _ _)
   | (with_reducible exact ih1 _ _ _ _ _ _ _ _ _ _ _ _ _ _ _ _ _ _ _ _ _ _ _ _ _ _ _ _ _ _ _)
   | (with_reducible exact LeO.refl _)
   | (with_reducible exact LeO.none _)
   | (with_reducible refine LeO.ite ?_ ?_)
   | (with_reducible refine LeO.bind ?_ (fun _ => ?_))
  ·intro y0 y1 y2 y3 y4 y5 y6 y7 y8 y9 y10 y11 y12 y13 y14 y15 y16 y17 y18 y19 y20 y21 y22 y23 y24 y25 y26 y27 y28 y29 y30
   unfold ddilaw40_packets.l0
   repeat' first
   | (with_reducible exact ih0 _ _ _ _ _ _ _ _ _ _ _ _ _ _ _ _ _ _ _ _ _ _ _ _ _ _ _ _ _ _ _)
   | (with_reducible exact ih1 _ _ _ _ _ _ _ _ _ _ _ _ _ _ _ _ _ _ _ _ _ _ _ _ _ _ _ _ _ _ _)
   | (with_reducible exact LeO.refl _)
   | (with_reducible exact LeO.none _)
   | (with_reducible refine LeO.ite ?_ ?_)
   | (with_reducible refine LeO.bind ?_ (fun _ => ?_))
theorem ddilaw40_packets.mono : ∀ a0 a1 a2 a3 a4 a5 a6 a7 a8 a9 a10 a11 a12 a13 a14 a15 a16 a17 a18 a19 a20 a21 a22 a23 a24 a25 a26 a27 a28 a29 k,LeO (ddilaw40_packets.f k a0 a1 a2 a3 a4 a5 a6 a7 a8 a9 a10 a11 a12 a13 a14 a15 a16 a17 a18 a19 a20 a21 a22 a23 a24 a25 a26 a27 a28 a29) (ddilaw40_packets.f (k + 1) a0 a1 a2 a3 a4 a5 a6 a7 a8 a9 a10 a11 a12 a13 a14 a15 a16 a17 a18 a19 a20 a21 a22 a23 a24 a25 a26 a27 a28 a29) := by
 intro a0 a1 a2 a3 a4 a5 a6 a7 a8 a9 a10 a11 a12 a13 a14 a15 a16 a17 a18 a19 a20 a21 a22 a23 a24 a25 a26 a27 a28 a29 k
 obtain ⟨ih0,ih1⟩ := ddilaw40_packets.mono_l k
 unfold ddilaw40_packets.f
 repeat' first
   | (with_reducible exact ih0 _ _ _ _ _ _ _ _ _ _ _ _ _ _ _ _ _ _ _ _ _ _ _ _ _ _ _ _ _ _ _)
   | (with_reducible exact ih1 _ _ _ _ _ _ _ _ _ _ _ _ _ _ _ _ _ _ _ _ _ _ _ _ _ _ _ _ _ _ _)
   | (with_reducible exact LeO.refl _)
   | (with_reducible exact LeO.none _)
   | (with_reducible refine LeO.ite ?_ ?_)
   | (with_reducible refine LeO.bind ?_ (fun _ => ?_))
def ddilaw40_same.f (k : Nat) (a0_0 : Bool) (a0_1 : Int) (a0_2 : Int) (a0_3 : ByteArray) (a0_4 : Int) (a0_5 : Int) (a0_6 : Int) (a0_7 : ByteArray) (a0_8 : Bool) (a0_9 : Int) (a0_10 : Int) (a0_11 : Bool) (a0_12 : Int) (a0_13 : Int) (a0_14 : Bool) (a0_15 : Int) (a0_16 : Int) (a0_17 : Bool) (l0_18 : List (S70)) (a0_19 : Int) (a1_0 : Bool) (a1_1 : Int) (a1_2 : Int) (a1_3 : ByteArray) (a1_4 : Int) (a1_5 : Int) (a1_6 : Int) (a1_7 : ByteArray) (a1_8 : Bool) (a1_9 : Int) (a1_10 : Int) (a1_11 : Bool) (a1_12 : Int) (a1_13 : Int) (a1_14 : Bool) (a1_15 : Int) (a1_16 : Int) (a1_17 : Bool) (l1_18 : List (S70)) (a1_19 : Int) : Option (Bool) := if (a0_0 == a1_0 && (a0_1 == a1_1 && (a0_2 == a1_2))) = true then (if a0_3.toList = a1_3.toList then (if a0_19 = a1_19 then ((ddilaw40_packets.f k a0_4 a0_5 a0_6 a0_7 a0_8 a0_9 a0_10 a0_11 a0_12 a0_13 a0_14 a0_15 a0_16 a0_17 l0_18 a1_4 a1_5 a1_6 a1_7 a1_8 a1_9 a1_10 a1_11 a1_12 a1_13 a1_14 a1_15 a1_16 a1_17 l1_18).bind fun t216 => (some t216)) else (some false)) else (some false)) else (some false)
theorem ddilaw40_same.mono : ∀ a0 a1 a2 a3 a4 a5 a6 a7 a8 a9 a10 a11 a12 a13 a14 a15 a16 a17 a18 a19 a20 a21 a22 a23 a24 a25 a26 a27 a28 a29 a30 a31 a32 a33 a34 a35 a36 a37 a38 a39 k,LeO (ddilaw40_same.f k a0 a1 a2 a3 a4 a5 a6 a7 a8 a9 a10 a11 a12 a13 a14 a15 a16 a17 a18 a19 a20 a21 a22 a23 a24 a25 a26 a27 a28 a29 a30 a31 a32 a33 a34 a35 a36 a37 a38 a39) (ddilaw40_same.f (k + 1) a0 a1 a2 a3 a4 a5 a6 a7 a8 a9 a10 a11 a12 a13 a14 a15 a16 a17 a18 a19 a20 a21 a22 a23 a24 a25 a26 a27 a28 a29 a30 a31 a32 a33 a34 a35 a36 a37 a38 a39) := by
 intro a0 a1 a2 a3 a4 a5 a6 a7 a8 a9 a10 a11 a12 a13 a14 a15 a16 a17 a18 a19 a20 a21 a22 a23 a24 a25 a26 a27 a28 a29 a30 a31 a32 a33 a34 a35 a36 a37 a38 a39 k
 unfold ddilaw40_same.f
 repeat' first
   | (with_reducible exact ddilaw40_packets.mono _ _ _ _ _ _ _ _ _ _ _ _ _ _ _ _ _ _ _ _ _ _ _ _ _ _ _ _ _ _ _)
   | (with_reducible exact LeO.refl _)
   | (with_reducible exact LeO.none _)
   | (with_reducible refine LeO.ite ?_ ?_)
   | (with_reducible refine LeO.bind ?_ (fun _ => ?_))
mutual
def ddilaw40_ProbeParts.j0 : Nat → List (S33) → Int → Bool → Option (Bool)
 | 0,_,_,_ => none
 | k + 1,x0,x1,x19 => if x19 = true then (some true) else ((probe_Finish.f k x0 x1).bind fun bt219 => (ddilaw40_ProbeParts.l0 k x0 x1 bt219.1 bt219.2 0 0 0))
def ddilaw40_ProbeParts.l0 : Nat → List (S33) → Int → List (S33) → List (S33) → Int → Int → Int → Option (Bool)
 | 0,_,_,_,_,_,_,_ => none
 | k + 1,x0,x1,x5,x6,x7,x8,x9 => if x9 < (x0.length : Int) then (if 0 ≤ x9 then (if ((rd_T33 x0 x9).f3) > x1 then (if x7 ≥ (x5.length : Int) then (ddilaw40_ProbeParts.j2 k x0 x1 x5 x6 x7 x8 x9 true) else (if 0 ≤ x7 then (if x7 < (x5.length : Int) then ((ddilaw40_same.f k ((rd_T33 x5 x7).f0.f0) ((rd_T33 x5 x7).f0.f1) ((rd_T33 x5 x7).f0.f2) ((rd_T33 x5 x7).f1) ((rd_T33 x5 x7).f2.f0) ((rd_T33 x5 x7).f2.f1) ((rd_T33 x5 x7).f2.f2) ((rd_T33 x5 x7).f2.f3) ((rd_T33 x5 x7).f2.f4.f0) ((rd_T33 x5 x7).f2.f4.f1) ((rd_T33 x5 x7).f2.f4.f2) ((rd_T33 x5 x7).f2.f5.f0) ((rd_T33 x5 x7).f2.f5.f1) ((rd_T33 x5 x7).f2.f5.f2) ((rd_T33 x5 x7).f2.f6.f0) ((rd_T33 x5 x7).f2.f6.f1) ((rd_T33 x5 x7).f2.f6.f2) ((rd_T33 x5 x7).f2.f7) ((rd_T33 x5 x7).f2.f8) ((rd_T33 x5 x7).f3) ((rd_T33 x0 x9).f0.f0) ((rd_T33 x0 x9).f0.f1) ((rd_T33 x0 x9).f0.f2) ((rd_T33 x0 x9).f1) ((rd_T33 x0 x9).f2.f0) ((rd_T33 x0 x9).f2.f1) ((rd_T33 x0 x9).f2.f2) ((rd_T33 x0 x9).f2.f3) ((rd_T33 x0 x9).f2.f4.f0) ((rd_T33 x0 x9).f2.f4.f1) ((rd_T33 x0 x9).f2.f4.f2) ((rd_T33 x0 x9).f2.f5.f0) ((rd_T33 x0 x9).f2.f5.f1) ((rd_T33 x0 x9).f2.f5.f2) ((rd_T33 x0 x9).f2.f6.f0) ((rd_T33 x0 x9).f2.f6.f1) ((rd_T33 x0 x9).f2.f6.f2) ((rd_T33 x0 x9).f2.f7) ((rd_T33 x0 x9).f2.f8) ((rd_T33 x0 x9).f3)).bind fun t228 => (ddilaw40_ProbeParts.j2 k x0 x1 x5 x6 x7 x8 x9 (!t228))) else (none)) else (none))) else (if x8 ≥ (x6.length : Int) then (ddilaw40_ProbeParts.j3 k x0 x1 x5 x6 x7 x8 x9 true) else (if 0 ≤ x8 then (if x8 < (x6.length : Int) then ((ddilaw40_same.f k ((rd_T33 x6 x8).f0.f0) ((rd_T33 x6 x8).f0.f1) ((rd_T33 x6 x8).f0.f2) ((rd_T33 x6 x8).f1) ((rd_T33 x6 x8).f2.f0) ((rd_T33 x6 x8).f2.f1) ((rd_T33 x6 x8).f2.f2) ((rd_T33 x6 x8).f2.f3) ((rd_T33 x6 x8).f2.f4.f0) ((rd_T33 x6 x8).f2.f4.f1) ((rd_T33 x6 x8).f2.f4.f2) ((rd_T33 x6 x8).f2.f5.f0) ((rd_T33 x6 x8).f2.f5.f1) ((rd_T33 x6 x8).f2.f5.f2) ((rd_T33 x6 x8).f2.f6.f0) ((rd_T33 x6 x8).f2.f6.f1) ((rd_T33 x6 x8).f2.f6.f2) ((rd_T33 x6 x8).f2.f7) ((rd_T33 x6 x8).f2.f8) ((rd_T33 x6 x8).f3) ((rd_T33 x0 x9).f0.f0) ((rd_T33 x0 x9).f0.f1) ((rd_T33 x0 x9).f0.f2) ((rd_T33 x0 x9).f1) ((rd_T33 x0 x9).f2.f0) ((rd_T33 x0 x9).f2.f1) ((rd_T33 x0 x9).f2.f2) ((rd_T33 x0 x9).f2.f3) ((rd_T33 x0 x9).f2.f4.f0) ((rd_T33 x0 x9).f2.f4.f1) ((rd_T33 x0 x9).f2.f4.f2) ((rd_T33 x0 x9).f2.f5.f0) ((rd_T33 x0 x9).f2.f5.f1) ((rd_T33 x0 x9).f2.f5.f2) ((rd_T33 x0 x9).f2.f6.f0) ((rd_T33 x0 x9).f2.f6.f1) ((rd_T33 x0 x9).f2.f6.f2) ((rd_T33 x0 x9).f2.f7) ((rd_T33 x0 x9).f2.f8) ((rd_T33 x0 x9).f3)).bind fun t231 => (ddilaw40_ProbeParts.j3 k x0 x1 x5 x6 x7 x8 x9 (!t231))) else (none)) else (none)))) else (none)) else (if x7 = (x5.length : Int) then (if x8 = (x6.length : Int) then ((probe_Check.f k x5).bind fun t232 => (some (t232 == 0))) else (some false)) else (some false))
def ddilaw40_ProbeParts.j2 : Nat → List (S33) → Int → List (S33) → List (S33) → Int → Int → Int → Bool → Option (Bool)
 | 0,_,_,_,_,_,_,_,_ => none
 | k + 1,x0,x1,x5,x6,x7,x8,x9,x54 => if x54 = true then (some false) else (ddilaw40_ProbeParts.l0 k x0 x1 x5 x6 (wrap64 (x7 + 1)) x8 (wrap64 (x9 + 1)))
def ddilaw40_ProbeParts.j3 : Nat → List (S33) → Int → List (S33) → List (S33) → Int → Int → Int → Bool → Option (Bool)
 | 0,_,_,_,_,_,_,_,_ => none
 | k + 1,x0,x1,x5,x6,x7,x8,x9,x72 => if x72 = true then (some false) else (ddilaw40_ProbeParts.l0 k x0 x1 x5 x6 x7 (wrap64 (x8 + 1)) (wrap64 (x9 + 1)))
end
def ddilaw40_ProbeParts.f (k : Nat) (l0 : List (S33)) (a1 : Int) : Option (Bool) := (ddilaw40_awake.f k).bind fun t217 => (if t217 = true then (if (l0.length : Int) > 600 then (ddilaw40_ProbeParts.j0 k l0 a1 true) else ((probe_Check.f k l0).bind fun t218 => (ddilaw40_ProbeParts.j0 k l0 a1 (t218 != 0)))) else (some false))
theorem ddilaw40_ProbeParts.mono_l : ∀ k,(∀ y0 y1 y2,LeO (ddilaw40_ProbeParts.j0 k y0 y1 y2) (ddilaw40_ProbeParts.j0 (k + 1) y0 y1 y2)) ∧ (∀ y0 y1 y2 y3 y4 y5 y6,LeO (ddilaw40_ProbeParts.l0 k y0 y1 y2 y3 y4 y5 y6) (ddilaw40_ProbeParts.l0 (k + 1) y0 y1 y2 y3 y4 y5 y6)) ∧ (∀ y0 y1 y2 y3 y4 y5 y6 y7,LeO (ddilaw40_ProbeParts.j2 k y0 y1 y2 y3 y4 y5 y6 y7) (ddilaw40_ProbeParts.j2 (k + 1) y0 y1 y2 y3 y4 y5 y6 y7)) ∧ (∀ y0 y1 y2 y3 y4 y5 y6 y7,LeO (ddilaw40_ProbeParts.j3 k y0 y1 y2 y3 y4 y5 y6 y7) (ddilaw40_ProbeParts.j3 (k + 1) y0 y1 y2 y3 y4 y5 y6 y7))
 | 0 => ⟨fun _ _ _ r h => by simp [ddilaw40_ProbeParts.j0] at h,fun _ _ _ _ _ _ _ r h => by simp [ddilaw40_ProbeParts.l0] at h,fun _ _ _ _ _ _ _ _ r h => by simp [ddilaw40_ProbeParts.j2] at h,fun _ _ _ _ _ _ _ _ r h => by simp [ddilaw40_ProbeParts.j3] at h⟩
 | k + 1 => by
  obtain ⟨ih0,ih1,ih2,ih3⟩ := ddilaw40_ProbeParts.mono_l k
  refine ⟨?_,?_,?_,?_⟩
  ·intro y0 y1 y2
   unfold ddilaw40_ProbeParts.j0
   repeat' first
   | (with_reducible exact ih0 _ _ _)
   | (with_reducible exact ih1 _ _ _ _ _ _ _)
   | (with_reducible exact ih2 _ _ _ _ _ _ _ _)
   | (with_reducible exact ih3 _ _ _ _ _ _ _ _)
   | (with_reducible exact ddilaw40_awake.mono _)
   | (with_reducible exact ddilaw40_same.mono _ _ _ _ _ _ _ _ _ _ _ _ _ _ _ _ _ _ _ _ _ _ _ _ _ _ _ _ _ _ _ _ _ _ _ _ _ _ _ _ _)
   | (with_reducible exact probe_Check.mono _ _)
   | (with_reducible exact probe_Finish.mono _ _ _)
   | (with_reducible exact LeO.refl _)
   | (with_reducible exact LeO.none _)
   | (with_reducible refine LeO.ite ?_ ?_)
   | (with_reducible refine LeO.bind ?_ (fun _ => ?_))
  ·intro y0 y1 y2 y3 y4 y5 y6
   unfold ddilaw40_ProbeParts.l0
   repeat' first
   | (with_reducible exact ih0 _ _ _)
   | (with_reducible exact ih1 _ _ _ _ _ _ _)
   | (with_reducible exact ih2 _ _ _ _ _ _ _ _)
   | (with_reducible exact ih3 _ _ _ _ _ _ _ _)
   | (with_reducible exact ddilaw40_awake.mono _)
   | (with_reducible exact ddilaw40_same.mono _ _ _ _ _ _ _ _ _ _ _ _ _ _ _ _ _ _ _ _ _ _ _ _ _ _ _ _ _ _ _ _ _ _ _ _ _ _ _ _ _)
   | (with_reducible exact probe_Check.mono _ _)
   | (with_reducible exact probe_Finish.mono _ _ _)
   | (with_reducible exact LeO.refl _)
   | (with_reducible exact LeO.none _)
   | (with_reducible refine LeO.ite ?_ ?_)
   | (with_reducible refine LeO.bind ?_ (fun _ => ?_))
  ·intro y0 y1 y2 y3 y4 y5 y6 y7
   unfold ddilaw40_ProbeParts.j2
   repeat' first
   | (with_reducible exact ih0 _ _ _)
   | (with_reducible exact ih1 _ _ _ _ _ _ _)
   | (with_reducible exact ih2 _ _ _ _ _ _ _ _)
   | (with_reducible exact ih3 _ _ _ _ _ _ _ _)
   | (with_reducible exact ddilaw40_awake.mono _)
   | (with_reducible exact ddilaw40_same.mono _ _ _ _ _ _ _ _ _ _ _ _ _ _ _ _ _ _ _ _ _ _ _ _ _ _ _ _ _ _ _ _ _ _ _ _ _ _ _ _ _)
   | (with_reducible exact probe_Check.mono _ _)
   | (with_reducible exact probe_Finish.mono _ _ _)
   | (with_reducible exact LeO.refl _)
   | (with_reducible exact LeO.none _)
   | (with_reducible refine LeO.ite ?_ ?_)
   | (with_reducible refine LeO.bind ?_ (fun _ => ?_))
  ·intro y0 y1 y2 y3 y4 y5 y6 y7
   unfold ddilaw40_ProbeParts.j3
   repeat' first
   | (with_reducible exact ih0 _ _ _)
   | (with_reducible exact ih1 _ _ _ _ _ _ _)
   | (with_reducible exact ih2 _ _ _ _ _ _ _ _)
   | (with_reducible exact ih3 _ _ _ _ _ _ _ _)
   | (with_reducible exact ddilaw40_awake.mono _)
   | (with_reducible exact ddilaw40_same.mono _ _ _ _ _ _ _ _ _ _ _ _ _ _ _ _ _ _ _ _ _ _ _ _ _ _ _ _ _ _ _ _ _ _ _ _ _ _ _ _ _)
   | (with_reducible exact probe_Check.mono _ _)
   | (with_reducible exact probe_Finish.mono _ _ _)
   | (with_reducible exact LeO.refl _)
   | (with_reducible exact LeO.none _)
   | (with_reducible refine LeO.ite ?_ ?_)
   | (with_reducible refine LeO.bind ?_ (fun _ => ?_))
theorem ddilaw40_ProbeParts.mono : ∀ a0 a1 k,LeO (ddilaw40_ProbeParts.f k a0 a1) (ddilaw40_ProbeParts.f (k + 1) a0 a1) := by
 intro a0 a1 k
 obtain ⟨ih0,ih1,ih2,ih3⟩ := ddilaw40_ProbeParts.mono_l k
 unfold ddilaw40_ProbeParts.f
 repeat' first
   | (with_reducible exact ih0 _ _ _)
   | (with_reducible exact ih1 _ _ _ _ _ _ _)
   | (with_reducible exact ih2 _ _ _ _ _ _ _ _)
   | (with_reducible exact ih3 _ _ _ _ _ _ _ _)
   | (with_reducible exact ddilaw40_awake.mono _)
   | (with_reducible exact ddilaw40_same.mono _ _ _ _ _ _ _ _ _ _ _ _ _ _ _ _ _ _ _ _ _ _ _ _ _ _ _ _ _ _ _ _ _ _ _ _ _ _ _ _ _)
   | (with_reducible exact probe_Check.mono _ _)
   | (with_reducible exact probe_Finish.mono _ _ _)
   | (with_reducible exact LeO.refl _)
   | (with_reducible exact LeO.none _)
   | (with_reducible refine LeO.ite ?_ ?_)
   | (with_reducible refine LeO.bind ?_ (fun _ => ?_))
/-- THE ONE PURE STATEMENT of ddilaw40_ProbeParts: ours. -/
def ddilaw40_ProbeParts.Pure : Prop := ∀ (l0 : List (S33)) (a1 : Int),(l0.length * 192 ≤ 140737488351232 ∧ l0.length ≤ maxLen ∧ ∀ y0_ ∈ l0,okS33 y0_) → (Lit.int .i64 a1).wf = true → ∃ k,ddilaw40_ProbeParts.f k l0 a1 = some true
end Go.Proofs.Ytioopjondjfchaa.QA
