-- Written by this session's own program (wip/xprint) out of the translation; Lean checks it.
import Derived.Test.YtioopjondjfchaaQAd2
namespace Go.Proofs.Ytioopjondjfchaa.QA
open Go.RowKit Go.Proofs.YtioopjondjfchaaW.PrintWords Go.Proofs.YtioopjondjfchaaW.PrintLast Go.Proofs.YtioopjondjfchaaW.PrintMore
set_option linter.unusedVariables false
def slices_Delete_raw.f (l0 : List (List Value)) (a1 a2 : Int) : Option (List (List Value)) :=
 if 0 ≤ a1 then (if a1 ≤ a2 then (if a2 ≤ (l0.length : Int) then some (l0.take a1.toNat ++ l0.drop a2.toNat) else none) else none) else none
def slices_Delete.f (l0 : List (S33)) (a1 a2 : Int) : Option (List (S33)) :=
 if 0 ≤ a1 then (if a1 ≤ a2 then (if a2 ≤ (l0.length : Int) then some (l0.take a1.toNat ++ l0.drop a2.toNat) else none) else none) else none
def probe_Seen.f (k : Nat) (l0 : List (S33)) (a1_0 : Bool) (a1_1 : Int) (a1_2 : Int) : Option ((List (S33)) × Bool × Int × Int × ByteArray × Int × Int × Int × ByteArray × Bool × Int × Int × Bool × Int × Int × Bool × Int × Int × Bool × (List (S70)) × Int × Bool) := (probe_find.f k l0 a1_0 a1_1 a1_2).bind fun bt235 => (if bt235.2 = true then ((slices_Clone_29.f l0).bind fun t240 => ((slices_Delete.f t240 bt235.1 (wrap64 (bt235.1 + 1))).bind fun t243 => (if 0 ≤ bt235.1 then (if bt235.1 < (l0.length : Int) then (some (t243,(rd_T33 l0 bt235.1).f0.f0,(rd_T33 l0 bt235.1).f0.f1,(rd_T33 l0 bt235.1).f0.f2,(rd_T33 l0 bt235.1).f1,(rd_T33 l0 bt235.1).f2.f0,(rd_T33 l0 bt235.1).f2.f1,(rd_T33 l0 bt235.1).f2.f2,(rd_T33 l0 bt235.1).f2.f3,(rd_T33 l0 bt235.1).f2.f4.f0,(rd_T33 l0 bt235.1).f2.f4.f1,(rd_T33 l0 bt235.1).f2.f4.f2,(rd_T33 l0 bt235.1).f2.f5.f0,(rd_T33 l0 bt235.1).f2.f5.f1,(rd_T33 l0 bt235.1).f2.f5.f2,(rd_T33 l0 bt235.1).f2.f6.f0,(rd_T33 l0 bt235.1).f2.f6.f1,(rd_T33 l0 bt235.1).f2.f6.f2,(rd_T33 l0 bt235.1).f2.f7,(rd_T33 l0 bt235.1).f2.f8,(rd_T33 l0 bt235.1).f3,true)) else (none)) else (none)))) else ((slices_Clone_29.f l0).bind fun t237 => (some (t237,false,0,0,(⟨#[]⟩ : ByteArray),0,0,0,(⟨#[]⟩ : ByteArray),false,0,0,false,0,0,false,0,0,false,([] : List (S70)),0,false))))
theorem probe_Seen.mono : ∀ a0 a1 a2 a3 k,LeO (probe_Seen.f k a0 a1 a2 a3) (probe_Seen.f (k + 1) a0 a1 a2 a3) := by
 intro a0 a1 a2 a3 k
 unfold probe_Seen.f
 repeat' first
   | (with_reducible exact probe_find.mono _ _ _ _ _)
   | (with_reducible exact LeO.refl _)
   | (with_reducible exact LeO.none _)
   | (with_reducible refine LeO.ite ?_ ?_)
   | (with_reducible refine LeO.bind ?_ (fun _ => ?_))
def ddilaw40_tables.l0 : Nat → List (S33) → List (S54) → Int → Option (Bool)
 | 0,_,_,_ => none
 | k + 1,x0,x1,x5 => if x5 < (x0.length : Int) then (if 0 ≤ x5 then (if x5 < (x1.length : Int) then ((ddilaw40_same.f k ((rd_T33 x0 x5).f0.f0) ((rd_T33 x0 x5).f0.f1) ((rd_T33 x0 x5).f0.f2) ((rd_T33 x0 x5).f1) ((rd_T33 x0 x5).f2.f0) ((rd_T33 x0 x5).f2.f1) ((rd_T33 x0 x5).f2.f2) ((rd_T33 x0 x5).f2.f3) ((rd_T33 x0 x5).f2.f4.f0) ((rd_T33 x0 x5).f2.f4.f1) ((rd_T33 x0 x5).f2.f4.f2) ((rd_T33 x0 x5).f2.f5.f0) ((rd_T33 x0 x5).f2.f5.f1) ((rd_T33 x0 x5).f2.f5.f2) ((rd_T33 x0 x5).f2.f6.f0) ((rd_T33 x0 x5).f2.f6.f1) ((rd_T33 x0 x5).f2.f6.f2) ((rd_T33 x0 x5).f2.f7) ((rd_T33 x0 x5).f2.f8) ((rd_T33 x0 x5).f3) ((rd_T54 x1 x5).f0.f0) ((rd_T54 x1 x5).f0.f1) ((rd_T54 x1 x5).f0.f2) ((rd_T54 x1 x5).f1) ((rd_T54 x1 x5).f2.f0) ((rd_T54 x1 x5).f2.f1) ((rd_T54 x1 x5).f2.f2) ((rd_T54 x1 x5).f2.f3) ((rd_T54 x1 x5).f2.f4.f0) ((rd_T54 x1 x5).f2.f4.f1) ((rd_T54 x1 x5).f2.f4.f2) ((rd_T54 x1 x5).f2.f5.f0) ((rd_T54 x1 x5).f2.f5.f1) ((rd_T54 x1 x5).f2.f5.f2) ((rd_T54 x1 x5).f2.f6.f0) ((rd_T54 x1 x5).f2.f6.f1) ((rd_T54 x1 x5).f2.f6.f2) ((rd_T54 x1 x5).f2.f7) ((rd_T54 x1 x5).f2.f8) ((rd_T54 x1 x5).f3)).bind fun t249 => (if t249 = true then (ddilaw40_tables.l0 k x0 x1 (wrap64 (x5 + 1))) else (some false))) else (none)) else (none)) else (some true)
def ddilaw40_tables.f (k : Nat) (l0 : List (S33)) (l1 : List (S54)) : Option (Bool) := if (l0.length : Int) = (l1.length : Int) then (ddilaw40_tables.l0 k l0 l1 0) else (some false)
theorem ddilaw40_tables.mono_l : ∀ k,(∀ y0 y1 y2,LeO (ddilaw40_tables.l0 k y0 y1 y2) (ddilaw40_tables.l0 (k + 1) y0 y1 y2))
 | 0 => fun _ _ _ r h => by simp [ddilaw40_tables.l0] at h
 | k + 1 => by
  have ih0 := ddilaw40_tables.mono_l k
  ·intro y0 y1 y2
   unfold ddilaw40_tables.l0
   repeat' first
   | (with_reducible exact ih0 _ _ _)
   | (with_reducible exact ddilaw40_same.mono _ _ _ _ _ _ _ _ _ _ _ _ _ _ _ _ _ _ _ _ _ _ _ _ _ _ _ _ _ _ _ _ _ _ _ _ _ _ _ _ _)
   | (with_reducible exact LeO.refl _)
   | (with_reducible exact LeO.none _)
   | (with_reducible refine LeO.ite ?_ ?_)
   | (with_reducible refine LeO.bind ?_ (fun _ => ?_))
theorem ddilaw40_tables.mono : ∀ a0 a1 k,LeO (ddilaw40_tables.f k a0 a1) (ddilaw40_tables.f (k + 1) a0 a1) := by
 intro a0 a1 k
 have ih0 := ddilaw40_tables.mono_l k
 unfold ddilaw40_tables.f
 repeat' first
   | (with_reducible exact ih0 _ _ _)
   | (with_reducible exact ddilaw40_same.mono _ _ _ _ _ _ _ _ _ _ _ _ _ _ _ _ _ _ _ _ _ _ _ _ _ _ _ _ _ _ _ _ _ _ _ _ _ _ _ _ _)
   | (with_reducible exact LeO.refl _)
   | (with_reducible exact LeO.none _)
   | (with_reducible refine LeO.ite ?_ ?_)
   | (with_reducible refine LeO.bind ?_ (fun _ => ?_))
mutual
def ddilaw40_ProbeStarts.j0 : Nat → List (S33) → Bool → Int → Bool → Int → Int → Int → Int → Int → ByteArray → Bool → Int → Int → Bool → Int → Int → Bool → Int → Int → Bool → List (S70) → Int → Int → Bool → Int → Int → Option (Bool)
 | 0,_,_,_,_,_,_,_,_,_,_,_,_,_,_,_,_,_,_,_,_,_,_,_,_,_,_ => none
 | k + 1,x0,x28,x251000,x251001,x251002,x251003,x251004,x251005,x251006,x251007,x251008,x251009,x251010,x251011,x251012,x251013,x251014,x251015,x251016,x251017,x251018,x251019,x251020,x252000,x252001,x252002 => if x28 = true then (some true) else ((probe_Pending.f k x0 x251001 x251002 x251003).bind fun bt254 => ((probe_Start.f k x0 x251001 x251002 x251003 x251004 x251005 x251006 x251007 x251008 x251009 x251010 x251011 x251012 x251013 x251014 x251015 x251016 x251017 x251018 x251019 x251020).bind fun bt278 => (if bt278.2 = 0 then ((probe_Pending.f k bt278.1 x251001 x251002 x251003).bind fun bt282 => (if bt254.2.2.2.2.2.2.2.2.2.2.2.2.2.2.2.2.2.2.2.2 = true then (ddilaw40_ProbeStarts.j1 k x0 bt278.1 true x251000 x251001 x251002 x251003 x251004 x251005 x251006 x251007 x251008 x251009 x251010 x251011 x251012 x251013 x251014 x251015 x251016 x251017 x251018 x251019 x251020 x252000 x252001 x252002) else (if bt282.2.2.2.2.2.2.2.2.2.2.2.2.2.2.2.2.2.2.2.2 = true then ((ddilaw40_packets.f k bt282.2.2.2.2.1 bt282.2.2.2.2.2.1 bt282.2.2.2.2.2.2.1 bt282.2.2.2.2.2.2.2.1 bt282.2.2.2.2.2.2.2.2.1 bt282.2.2.2.2.2.2.2.2.2.1 bt282.2.2.2.2.2.2.2.2.2.2.1 bt282.2.2.2.2.2.2.2.2.2.2.2.1 bt282.2.2.2.2.2.2.2.2.2.2.2.2.1 bt282.2.2.2.2.2.2.2.2.2.2.2.2.2.1 bt282.2.2.2.2.2.2.2.2.2.2.2.2.2.2.1 bt282.2.2.2.2.2.2.2.2.2.2.2.2.2.2.2.1 bt282.2.2.2.2.2.2.2.2.2.2.2.2.2.2.2.2.1 bt282.2.2.2.2.2.2.2.2.2.2.2.2.2.2.2.2.2.1 bt282.2.2.2.2.2.2.2.2.2.2.2.2.2.2.2.2.2.2.1 x251004 x251005 x251006 x251007 x251008 x251009 x251010 x251011 x251012 x251013 x251014 x251015 x251016 x251017 x251018).bind fun t306 => (if t306 = true then (if bt282.2.2.2.1.toList = x251007.toList then (if bt282.2.2.2.2.2.2.2.2.2.2.2.2.2.2.2.2.2.2.2.1 < x251019 then (ddilaw40_ProbeStarts.j1 k x0 bt278.1 true x251000 x251001 x251002 x251003 x251004 x251005 x251006 x251007 x251008 x251009 x251010 x251011 x251012 x251013 x251014 x251015 x251016 x251017 x251018 x251019 x251020 x252000 x252001 x252002) else (if bt282.2.2.2.2.2.2.2.2.2.2.2.2.2.2.2.2.2.2.2.1 > 4294967295 then (ddilaw40_ProbeStarts.j1 k x0 bt278.1 true x251000 x251001 x251002 x251003 x251004 x251005 x251006 x251007 x251008 x251009 x251010 x251011 x251012 x251013 x251014 x251015 x251016 x251017 x251018 x251019 x251020 x252000 x252001 x252002) else ((probe_Check.f k bt278.1).bind fun t307 => (if t307 = 0 then (ddilaw40_ProbeStarts.j1 k x0 bt278.1 ((bt278.1.length : Int) != (wrap64 ((x0.length : Int) + 1))) x251000 x251001 x251002 x251003 x251004 x251005 x251006 x251007 x251008 x251009 x251010 x251011 x251012 x251013 x251014 x251015 x251016 x251017 x251018 x251019 x251020 x252000 x252001 x252002) else (ddilaw40_ProbeStarts.j1 k x0 bt278.1 true x251000 x251001 x251002 x251003 x251004 x251005 x251006 x251007 x251008 x251009 x251010 x251011 x251012 x251013 x251014 x251015 x251016 x251017 x251018 x251019 x251020 x252000 x252001 x252002))))) else (ddilaw40_ProbeStarts.j1 k x0 bt278.1 true x251000 x251001 x251002 x251003 x251004 x251005 x251006 x251007 x251008 x251009 x251010 x251011 x251012 x251013 x251014 x251015 x251016 x251017 x251018 x251019 x251020 x252000 x252001 x252002)) else (ddilaw40_ProbeStarts.j1 k x0 bt278.1 true x251000 x251001 x251002 x251003 x251004 x251005 x251006 x251007 x251008 x251009 x251010 x251011 x251012 x251013 x251014 x251015 x251016 x251017 x251018 x251019 x251020 x252000 x252001 x252002))) else (ddilaw40_ProbeStarts.j1 k x0 bt278.1 true x251000 x251001 x251002 x251003 x251004 x251005 x251006 x251007 x251008 x251009 x251010 x251011 x251012 x251013 x251014 x251015 x251016 x251017 x251018 x251019 x251020 x252000 x252001 x252002)))) else (if (bt278.1.length : Int) = 0 then (if bt254.2.2.2.2.2.2.2.2.2.2.2.2.2.2.2.2.2.2.2.2 = true then (if bt278.2 = 23 then (some true) else (some (bt278.2 == 3))) else (some true)) else (some false)))))
def ddilaw40_ProbeStarts.j1 : Nat → List (S33) → List (S33) → Bool → Int → Bool → Int → Int → Int → Int → Int → ByteArray → Bool → Int → Int → Bool → Int → Int → Bool → Int → Int → Bool → List (S70) → Int → Int → Bool → Int → Int → Option (Bool)
 | 0,_,_,_,_,_,_,_,_,_,_,_,_,_,_,_,_,_,_,_,_,_,_,_,_,_,_,_ => none
 | k + 1,x0,x9,x118,x251000,x251001,x251002,x251003,x251004,x251005,x251006,x251007,x251008,x251009,x251010,x251011,x251012,x251013,x251014,x251015,x251016,x251017,x251018,x251019,x251020,x252000,x252001,x252002 => if x118 = true then (some false) else (if (!(x252000 == x251001) || (!(x252001 == x251002) || (!(x252002 == x251003)))) = true then ((probe_Pending.f k x0 x252000 x252001 x252002).bind fun bt308 => ((probe_Pending.f k x9 x252000 x252001 x252002).bind fun bt332 => (if (bt308.2.2.2.2.2.2.2.2.2.2.2.2.2.2.2.2.2.2.2.2 != bt332.2.2.2.2.2.2.2.2.2.2.2.2.2.2.2.2.2.2.2.2) = true then (ddilaw40_ProbeStarts.j2 k x0 x9 true x251000 x251001 x251002 x251003 x251004 x251005 x251006 x251007 x251008 x251009 x251010 x251011 x251012 x251013 x251014 x251015 x251016 x251017 x251018 x251019 x251020) else ((ddilaw40_same.f k bt308.1 bt308.2.1 bt308.2.2.1 bt308.2.2.2.1 bt308.2.2.2.2.1 bt308.2.2.2.2.2.1 bt308.2.2.2.2.2.2.1 bt308.2.2.2.2.2.2.2.1 bt308.2.2.2.2.2.2.2.2.1 bt308.2.2.2.2.2.2.2.2.2.1 bt308.2.2.2.2.2.2.2.2.2.2.1 bt308.2.2.2.2.2.2.2.2.2.2.2.1 bt308.2.2.2.2.2.2.2.2.2.2.2.2.1 bt308.2.2.2.2.2.2.2.2.2.2.2.2.2.1 bt308.2.2.2.2.2.2.2.2.2.2.2.2.2.2.1 bt308.2.2.2.2.2.2.2.2.2.2.2.2.2.2.2.1 bt308.2.2.2.2.2.2.2.2.2.2.2.2.2.2.2.2.1 bt308.2.2.2.2.2.2.2.2.2.2.2.2.2.2.2.2.2.1 bt308.2.2.2.2.2.2.2.2.2.2.2.2.2.2.2.2.2.2.1 bt308.2.2.2.2.2.2.2.2.2.2.2.2.2.2.2.2.2.2.2.1 bt332.1 bt332.2.1 bt332.2.2.1 bt332.2.2.2.1 bt332.2.2.2.2.1 bt332.2.2.2.2.2.1 bt332.2.2.2.2.2.2.1 bt332.2.2.2.2.2.2.2.1 bt332.2.2.2.2.2.2.2.2.1 bt332.2.2.2.2.2.2.2.2.2.1 bt332.2.2.2.2.2.2.2.2.2.2.1 bt332.2.2.2.2.2.2.2.2.2.2.2.1 bt332.2.2.2.2.2.2.2.2.2.2.2.2.1 bt332.2.2.2.2.2.2.2.2.2.2.2.2.2.1 bt332.2.2.2.2.2.2.2.2.2.2.2.2.2.2.1 bt332.2.2.2.2.2.2.2.2.2.2.2.2.2.2.2.1 bt332.2.2.2.2.2.2.2.2.2.2.2.2.2.2.2.2.1 bt332.2.2.2.2.2.2.2.2.2.2.2.2.2.2.2.2.2.1 bt332.2.2.2.2.2.2.2.2.2.2.2.2.2.2.2.2.2.2.1 bt332.2.2.2.2.2.2.2.2.2.2.2.2.2.2.2.2.2.2.2.1).bind fun t356 => (ddilaw40_ProbeStarts.j2 k x0 x9 (!t356) x251000 x251001 x251002 x251003 x251004 x251005 x251006 x251007 x251008 x251009 x251010 x251011 x251012 x251013 x251014 x251015 x251016 x251017 x251018 x251019 x251020))))) else (ddilaw40_ProbeStarts.j3 k x0 x9 x251000 x251001 x251002 x251003 x251004 x251005 x251006 x251007 x251008 x251009 x251010 x251011 x251012 x251013 x251014 x251015 x251016 x251017 x251018 x251019 x251020))
def ddilaw40_ProbeStarts.j3 : Nat → List (S33) → List (S33) → Int → Bool → Int → Int → Int → Int → Int → ByteArray → Bool → Int → Int → Bool → Int → Int → Bool → Int → Int → Bool → List (S70) → Int → Int → Option (Bool)
 | 0,_,_,_,_,_,_,_,_,_,_,_,_,_,_,_,_,_,_,_,_,_,_,_ => none
 | k + 1,x0,x9,x251000,x251001,x251002,x251003,x251004,x251005,x251006,x251007,x251008,x251009,x251010,x251011,x251012,x251013,x251014,x251015,x251016,x251017,x251018,x251019,x251020 => (probe_Seen.f k x9 x251001 x251002 x251003).bind fun bt357 => (if bt357.2.2.2.2.2.2.2.2.2.2.2.2.2.2.2.2.2.2.2.2.2 = true then ((ddilaw40_model.f k x0).bind fun t384 => ((ddilaw40_tables.f k bt357.1 t384).bind fun t387 => (some t387))) else (some false))
def ddilaw40_ProbeStarts.j2 : Nat → List (S33) → List (S33) → Bool → Int → Bool → Int → Int → Int → Int → Int → ByteArray → Bool → Int → Int → Bool → Int → Int → Bool → Int → Int → Bool → List (S70) → Int → Int → Option (Bool)
 | 0,_,_,_,_,_,_,_,_,_,_,_,_,_,_,_,_,_,_,_,_,_,_,_,_ => none
 | k + 1,x0,x9,x143,x251000,x251001,x251002,x251003,x251004,x251005,x251006,x251007,x251008,x251009,x251010,x251011,x251012,x251013,x251014,x251015,x251016,x251017,x251018,x251019,x251020 => if x143 = true then (some false) else (ddilaw40_ProbeStarts.j3 k x0 x9 x251000 x251001 x251002 x251003 x251004 x251005 x251006 x251007 x251008 x251009 x251010 x251011 x251012 x251013 x251014 x251015 x251016 x251017 x251018 x251019 x251020)
end
def ddilaw40_ProbeStarts.f (k : Nat) (l0 : List (S33)) (a1_0 : Int) (a1_1 : Bool) (a1_2 : Int) (a1_3 : Int) (a1_4 : Int) (a1_5 : Int) (a1_6 : Int) (a1_7 : ByteArray) (a1_8 : Bool) (a1_9 : Int) (a1_10 : Int) (a1_11 : Bool) (a1_12 : Int) (a1_13 : Int) (a1_14 : Bool) (a1_15 : Int) (a1_16 : Int) (a1_17 : Bool) (l1_18 : List (S70)) (a1_19 : Int) (a1_20 : Int) (a2_0 : Bool) (a2_1 : Int) (a2_2 : Int) : Option (Bool) := (ddilaw40_awake.f k).bind fun t252 => (if t252 = true then (if (l0.length : Int) > 600 then (ddilaw40_ProbeStarts.j0 k l0 true a1_0 a1_1 a1_2 a1_3 a1_4 a1_5 a1_6 a1_7 a1_8 a1_9 a1_10 a1_11 a1_12 a1_13 a1_14 a1_15 a1_16 a1_17 l1_18 a1_19 a1_20 a2_0 a2_1 a2_2) else ((probe_Check.f k l0).bind fun t253 => (ddilaw40_ProbeStarts.j0 k l0 (t253 != 0) a1_0 a1_1 a1_2 a1_3 a1_4 a1_5 a1_6 a1_7 a1_8 a1_9 a1_10 a1_11 a1_12 a1_13 a1_14 a1_15 a1_16 a1_17 l1_18 a1_19 a1_20 a2_0 a2_1 a2_2))) else (some false))
theorem ddilaw40_ProbeStarts.mono_l : ∀ k,(∀ y0 y1 y2 y3 y4 y5 y6 y7 y8 y9 y10 y11 y12 y13 y14 y15 y16 y17 y18 y19 y20 y21 y22 y23 y24 y25,LeO (ddilaw40_ProbeStarts.j0 k y0 y1 y2 y3 y4 y5 y6 y7 y8 y9 y10 y11 y12 y13 y14 y15 y16 y17 y18 y19 y20 y21 y22 y23 y24 y25) (ddilaw40_ProbeStarts.j0 (k + 1) y0 y1 y2 y3 y4 y5 y6 y7 y8 y9 y10 y11 y12 y13 y14 y15 y16 y17 y18 y19 y20 y21 y22 y23 y24 y25)) ∧ (∀ y0 y1 y2 y3 y4 y5 y6 y7 y8 y9 y10 y11 y12 y13 y14 y15 y16 y17 y18 y19 y20 y21 y22 y23 y24 y25 y26,LeO (ddilaw40_ProbeStarts.j1 k y0 y1 y2 y3 y4 y5 y6 y7 y8 y9 y10 y11 y12 y13 y14 y15 y16 y17 y18 y19 y20 y21 y22 y23 y24 y25 y26) (ddilaw40_ProbeStarts.j1 (k + 1) y0 y1 y2 y3 y4 y5 y6 y7 y8 y9 y10 y11 y12 y13 y14 y15 y16 y17 y18 y19 y20 y21 y22 y23 y24 y25 y26)) ∧ (∀ y0 y1 y2 y3 y4 y5 y6 y7 y8 y9 y10 y11 y12 y13 y14 y15 y16 y17 y18 y19 y20 y21 y22,LeO (ddilaw40_ProbeStarts.j3 k y0 y1 y2 y3 y4 y5 y6 y7 y8 y9 y10 y11 y12 y13 y14 y15 y16 y17 y18 y19 y20 y21 y22) (ddilaw40_ProbeStarts.j3 (k + 1) y0 y1 y2 y3 y4 y5 y6 y7 y8 y9 y10 y11 y12 y13 y14 y15 y16 y17 y18 y19 y20 y21 y22)) ∧ (∀ y0 y1 y2 y3 y4 y5 y6 y7 y8 y9 y10 y11 y12 y13 y14 y15 y16 y17 y18 y19 y20 y21 y22 y23,LeO (ddilaw40_ProbeStarts.j2 k y0 y1 y2 y3 y4 y5 y6 y7 y8 y9 y10 y11 y12 y13 y14 y15 y16 y17 y18 y19 y20 y21 y22 y23) (ddilaw40_ProbeStarts.j2 (k + 1) y0 y1 y2 y3 y4 y5 y6 y7 y8 y9 y10 y11 y12 y13 y14 y15 y16 y17 y18 y19 y20 y21 y22 y23))
 | 0 => ⟨fun _ _ _ _ _ _ _ _ _ _ _ _ _ _ _ _ _ _ _ _ _ _ _ _ _ _ r h => by simp [ddilaw40_ProbeStarts.j0] at h,fun _ _ _ _ _ _ _ _ _ _ _ _ _ _ _ _ _ _ _ _ _ _ _ _ _ _ _ r h => by simp [ddilaw40_ProbeStarts.j1] at h,fun _ _ _ _ _ _ _ _ _ _ _ _ _ _ _ _ _ _ _ _ _ _ _ r h => by simp [ddilaw40_ProbeStarts.j3] at h,fun _ _ _ _ _ _ _ _ _ _ _ _ _ _ _ _ _ _ _ _ _ _ _ _ r h => by simp [ddilaw40_ProbeStarts.j2] at h⟩
 | k + 1 => by
  obtain ⟨ih0,ih1,ih2,ih3⟩ := ddilaw40_ProbeStarts.mono_l k
  refine ⟨?_,?_,?_,?_⟩
  ·intro y0 y1 y2 y3 y4 y5 y6 y7 y8 y9 y10 y11 y12 y13 y14 y15 y16 y17 y18 y19 y20 y21 y22 y23 y24 y25
   unfold ddilaw40_ProbeStarts.j0
   repeat' first
   | (with_reducible exact ih0 _ _ _ _ _ _ _ _ _ _ _ _ _ _ _ _ _ _ _ _ _ _ _ _ _ _)
   | (with_reducible exact ih1 _ _ _ _ _ _ _ _ _ _ _ _ _ _ _ _ _ _ _ _ _ _ _ _ _ _ _)
   | (with_reducible exact ih2 _ _ _ _ _ _ _ _ _ _ _ _ _ _ _ _ _ _ _ _ _ _ _)
   | (with_reducible exact ih3 _ _ _ _ _ _ _ _ _ _ _ _ _ _ _ _ _ _ _ _ _ _ _ _)
   | (with_reducible exact ddilaw40_awake.mono _)
   | (with_reducible exact ddilaw40_model.mono _ _)
   | (with_reducible exact ddilaw40_packets.mono _ _ _ _ _ _ _ _ _ _ _ _ _ _ _ _ _ _ _ _ _ _ _ _ _ _ _ _ _ _ _)
   | (with_reducible exact ddilaw40_same.mono _ _ _ _ _ _ _ _ _ _ _ _ _ _ _ _ _ _ _ _ _ _ _ _ _ _ _ _ _ _ _ _ _ _ _ _ _ _ _ _ _)
   | (with_reducible exact ddilaw40_tables.mono _ _ _)
   | (with_reducible exact probe_Check.mono _ _)
   | (with_reducible exact probe_Pending.mono _ _ _ _ _)
   | (with_reducible exact probe_Seen.mono _ _ _ _ _)
   | (with_reducible exact probe_Start.mono _ _ _ _ _ _ _ _ _ _ _ _ _ _ _ _ _ _ _ _ _ _)
   | (with_reducible exact LeO.refl _)
   | (with_reducible exact LeO.none _)
   | (with_reducible refine LeO.ite ?_ ?_)
   | (with_reducible refine LeO.bind ?_ (fun _ => ?_))
  ·intro y0 y1 y2 y3 y4 y5 y6 y7 y8 y9 y10 y11 y12 y13 y14 y15 y16 y17 y18 y19 y20 y21 y22 y23 y24 y25 y26
   unfold ddilaw40_ProbeStarts.j1
   repeat' first
   | (with_reducible exact ih0 _ _ _ _ _ _ _ _ _ _ _ _ _ _ _ _ _ _ _ _ _ _ _ _ _ _)
   | (with_reducible exact ih1 _ _ _ _ _ _ _ _ _ _ _ _ _ _ _ _ _ _ _ _ _ _ _ _ _ _ _)
   | (with_reducible exact ih2 _ _ _ _ _ _ _ _ _ _ _ _ _ _ _ _ _ _ _ _ _ _ _)
   | (with_reducible exact ih3 _ _ _ _ _ _ _ _ _ _ _ _ _ _ _ _ _ _ _ _ _ _ _ _)
   | (with_reducible exact ddilaw40_awake.mono _)
   | (with_reducible exact ddilaw40_model.mono _ _)
   | (with_reducible exact ddilaw40_packets.mono _ _ _ _ _ _ _ _ _ _ _ _ _ _ _ _ _ _ _ _ _ _ _ _ _ _ _ _ _ _ _)
   | (with_reducible exact ddilaw40_same.mono _ _ _ _ _ _ _ _ _ _ _ _ _ _ _ _ _ _ _ _ _ _ _ _ _ _ _ _ _ _ _ _ _ _ _ _ _ _ _ _ _)
   | (with_reducible exact ddilaw40_tables.mono _ _ _)
   | (with_reducible exact probe_Check.mono _ _)
   | (with_reducible exact probe_Pending.mono _ _ _ _ _)
   | (with_reducible exact probe_Seen.mono _ _ _ _ _)
   | (with_reducible exact probe_Start.mono _ _ _ _ _ _ _ _ _ _ _ _ _ _ _ _ _ _ _ _ _ _)
   | (with_reducible exact LeO.refl _)
   | (with_reducible exact LeO.none _)
   | (with_reducible refine LeO.ite ?_ ?_)
   | (with_reducible refine LeO.bind ?_ (fun _ => ?_))
  ·intro y0 y1 y2 y3 y4 y5 y6 y7 y8 y9 y10 y11 y12 y13 y14 y15 y16 y17 y18 y19 y20 y21 y22
   unfold ddilaw40_ProbeStarts.j3
   repeat' first
   | (with_reducible exact ih0 _ _ _ _ _ _ _ _ _ _ _ _ _ _ _ _ _ _ _ _ _ _ _ _ _ _)
   | (with_reducible exact ih1 _ _ _ _ _ _ _ _ _ _ _ _ _ _ _ _ _ _ _ _ _ _ _ _ _ _ _)
   | (with_reducible exact ih2 _ _ _ _ _ _ _ _ _ _ _ _ _ _ _ _ _ _ _ _ _ _ _)
   | (with_reducible exact ih3 _ _ _ _ _ _ _ _ _ _ _ _ _ _ _ _ _ _ _ _ _ _ _ _)
   | (with_reducible exact ddilaw40_awake.mono _)
   | (with_reducible exact ddilaw40_model.mono _ _)
   | (with_reducible exact ddilaw40_packets.mono _ _ _ _ _ _ _ _ _ _ _ _ _ _ _ _ _ _ _ _ _ _ _ _ _ _ _ _ _ _ _)
   | (with_reducible exact ddilaw40_same.mono _ _ _ _ _ _ _ _ _ _ _ _ _ _ _ _ _ _ _ _ _ _ _ _ _ _ _ _ _ _ _ _ _ _ _ _ _ _ _ _ _)
   | (with_reducible exact ddilaw40_tables.mono _ _ _)
   | (with_reducible exact probe_Check.mono _ _)
   | (with_reducible exact probe_Pending.mono _ _ _ _ _)
   | (with_reducible exact probe_Seen.mono _ _ _ _ _)
   | (with_reducible exact probe_Start.mono _ _ _ _ _ _ _ _ _ _ _ _ _ _ _ _ _ _ _ _ _ _)
   | (with_reducible exact LeO.refl _)
   | (with_reducible exact LeO.none _)
   | (with_reducible refine LeO.ite ?_ ?_)
   | (with_reducible refine LeO.bind ?_ (fun _ => ?_))
  ·intro y0 y1 y2 y3 y4 y5 y6 y7 y8 y9 y10 y11 y12 y13 y14 y15 y16 y17 y18 y19 y20 y21 y22 y23
   unfold ddilaw40_ProbeStarts.j2
   repeat' first
   | (with_reducible exact ih0 _ _ _ _ _ _ _ _ _ _ _ _ _ _ _ _ _ _ _ _ _ _ _ _ _ _)
   | (with_reducible exact ih1 _ _ _ _ _ _ _ _ _ _ _ _ _ _ _ _ _ _ _ _ _ _ _ _ _ _ _)
   | (with_reducible exact ih2 _ _ _ _ _ _ _ _ _ _ _ _ _ _ _ _ _ _ _ _ _ _ _)
   | (with_reducible exact ih3 _ _ _ _ _ _ _ _ _ _ _ _ _ _ _ _ _ _ _ _ _ _ _ _)
   | (with_reducible exact ddilaw40_awake.mono _)
   | (with_reducible exact ddilaw40_model.mono _ _)
   | (with_reducible exact ddilaw40_packets.mono _ _ _ _ _ _ _ _ _ _ _ _ _ _ _ _ _ _ _ _ _ _ _ _ _ _ _ _ _ _ _)
   | (with_reducible exact ddilaw40_same.mono _ _ _ _ _ _ _ _ _ _ _ _ _ _ _ _ _ _ _ _ _ _ _ _ _ _ _ _ _ _ _ _ _ _ _ _ _ _ _ _ _)
   | (with_reducible exact ddilaw40_tables.mono _ _ _)
   | (with_reducible exact probe_Check.mono _ _)
   | (with_reducible exact probe_Pending.mono _ _ _ _ _)
   | (with_reducible exact probe_Seen.mono _ _ _ _ _)
   | (with_reducible exact probe_Start.mono _ _ _ _ _ _ _ _ _ _ _ _ _ _ _ _ _ _ _ _ _ _)
   | (with_reducible exact LeO.refl _)
   | (with_reducible exact LeO.none _)
   | (with_reducible refine LeO.ite ?_ ?_)
   | (with_reducible refine LeO.bind ?_ (fun _ => ?_))
theorem ddilaw40_ProbeStarts.mono : ∀ a0 a1 a2 a3 a4 a5 a6 a7 a8 a9 a10 a11 a12 a13 a14 a15 a16 a17 a18 a19 a20 a21 a22 a23 a24 k,LeO (ddilaw40_ProbeStarts.f k a0 a1 a2 a3 a4 a5 a6 a7 a8 a9 a10 a11 a12 a13 a14 a15 a16 a17 a18 a19 a20 a21 a22 a23 a24) (ddilaw40_ProbeStarts.f (k + 1) a0 a1 a2 a3 a4 a5 a6 a7 a8 a9 a10 a11 a12 a13 a14 a15 a16 a17 a18 a19 a20 a21 a22 a23 a24) := by
 intro a0 a1 a2 a3 a4 a5 a6 a7 a8 a9 a10 a11 a12 a13 a14 a15 a16 a17 a18 a19 a20 a21 a22 a23 a24 k
 obtain ⟨ih0,ih1,ih2,ih3⟩ := ddilaw40_ProbeStarts.mono_l k
 unfold ddilaw40_ProbeStarts.f
 repeat' first
   | (with_reducible exact ih0 _ _ _ _ _ _ _ _ _ _ _ _ _ _ _ _ _ _ _ _ _ _ _ _ _ _)
   | (with_reducible exact ih1 _ _ _ _ _ _ _ _ _ _ _ _ _ _ _ _ _ _ _ _ _ _ _ _ _ _ _)
   | (with_reducible exact ih2 _ _ _ _ _ _ _ _ _ _ _ _ _ _ _ _ _ _ _ _ _ _ _)
   | (with_reducible exact ih3 _ _ _ _ _ _ _ _ _ _ _ _ _ _ _ _ _ _ _ _ _ _ _ _)
   | (with_reducible exact ddilaw40_awake.mono _)
   | (with_reducible exact ddilaw40_model.mono _ _)
   | (with_reducible exact ddilaw40_packets.mono _ _ _ _ _ _ _ _ _ _ _ _ _ _ _ _ _ _ _ _ _ _ _ _ _ _ _ _ _ _ _)
   | (with_reducible exact ddilaw40_same.mono _ _ _ _ _ _ _ _ _ _ _ _ _ _ _ _ _ _ _ _ _ _ _ _ _ _ _ _ _ _ _ _ _ _ _ _ _ _ _ _ _)
   | (with_reducible exact ddilaw40_tables.mono _ _ _)
   | (with_reducible exact probe_Check.mono _ _)
   | (with_reducible exact probe_Pending.mono _ _ _ _ _)
   | (with_reducible exact probe_Seen.mono _ _ _ _ _)
   | (with_reducible exact probe_Start.mono _ _ _ _ _ _ _ _ _ _ _ _ _ _ _ _ _ _ _ _ _ _)
   | (with_reducible exact LeO.refl _)
   | (with_reducible exact LeO.none _)
   | (with_reducible refine LeO.ite ?_ ?_)
   | (with_reducible refine LeO.bind ?_ (fun _ => ?_))
/-- THE ONE PURE STATEMENT of ddilaw40_ProbeStarts: ours. -/
def ddilaw40_ProbeStarts.Pure : Prop := ∀ (l0 : List (S33)) (a1_0 : Int) (a1_1 : Bool) (a1_2 : Int) (a1_3 : Int) (a1_4 : Int) (a1_5 : Int) (a1_6 : Int) (a1_7 : ByteArray) (a1_8 : Bool) (a1_9 : Int) (a1_10 : Int) (a1_11 : Bool) (a1_12 : Int) (a1_13 : Int) (a1_14 : Bool) (a1_15 : Int) (a1_16 : Int) (a1_17 : Bool) (l1_18 : List (S70)) (a1_19 : Int) (a1_20 : Int) (a2_0 : Bool) (a2_1 : Int) (a2_2 : Int),(l0.length * 192 ≤ 140737488351232 ∧ l0.length ≤ maxLen ∧ ∀ y0_ ∈ l0,okS33 y0_) → okS43 (⟨a1_0,(⟨a1_1,a1_2,a1_3⟩ : S28),(⟨a1_4,a1_5,a1_6,a1_7,(⟨a1_8,a1_9,a1_10⟩ : S28),(⟨a1_11,a1_12,a1_13⟩ : S28),(⟨a1_14,a1_15,a1_16⟩ : S28),a1_17,l1_18⟩ : S31),a1_19,a1_20⟩ : S43) → okS28 (⟨a2_0,a2_1,a2_2⟩ : S28) → ∃ k,ddilaw40_ProbeStarts.f k l0 a1_0 a1_1 a1_2 a1_3 a1_4 a1_5 a1_6 a1_7 a1_8 a1_9 a1_10 a1_11 a1_12 a1_13 a1_14 a1_15 a1_16 a1_17 l1_18 a1_19 a1_20 a2_0 a2_1 a2_2 = some true
end Go.Proofs.Ytioopjondjfchaa.QA
