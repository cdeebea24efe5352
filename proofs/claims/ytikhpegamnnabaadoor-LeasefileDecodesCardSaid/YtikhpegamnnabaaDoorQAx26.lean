import Derived.Test.YtikhpegamnnabaaDoorQAd1
import Derived.Test.YtikhpegamnnabaaDoorQAx0
namespace Go.Proofs.YtikhpegamnnabaaDoor.QA
open Go.RowKit Go.Proofs.YtikhpegamnnabaaDoorW.PrintWords Go.Proofs.YtikhpegamnnabaaDoorW.PrintLast Go.Proofs.YtikhpegamnnabaaDoorW.PrintMore
attribute [local go_sem] max2_int min2_int max_two min_two max_three min_three max_four min_four
attribute [local go_sem high] Go.Proofs.YtikhpegamnnabaaDoor.XW.cell_setCell_lit
set_option linter.unusedVariables false
set_option linter.unusedSimpArgs false
set_option maxHeartbeats 8000000 in
set_option maxRecDepth 100000 in
theorem wal_checksum.calls (k : Nat) (A0 : Option Addr) (c0 : Nat) (l0 : List ByteArray) (r : Int) (w : World) (hr0 : Kd.C Kd.string w A0 l0.length l0) (hc0 : l0.length ≤ c0) (h : wal_checksum.f k l0 = some r) :
  Calls Tryd.prog 79 #[.slice A0 l0.length c0] w fun e w' => e = .returned (.int .u32 r) ∧ Drawn0 w w' := by
 have HR0 := Aside0.mk hr0;have HC0 := Aside0.mk hc0;clear hr0 hc0;have H : (wal_checksum.l0 k 4294967295 l0 (l0.length : Int) 0) = some r := h;clear h;have H' := Aside0.mk H;clear H;go_enter Tryd.func79,Tryd.ntmps79;go_wp2;go_loopg [3,10] k (fun kq v3 v10 w' => ∃ (x3_1 : Int) (x10_1 : Int),v3 = .int .u32 x3_1 ∧ v10 = .int .i64 x10_1 ∧ Aside0 (wal_checksum.l0 kq x3_1 l0 (l0.length : Int) x10_1 = some r) ∧ Aside0 (kq ≤ k) ∧ Drawn0 w w')
 case atStart => exact ⟨(4294967295),(0),XR.rf,XR.rf,H',⟨Nat.le_refl _⟩,by repeat (first | exact Drawn0.refl _ | apply Drawn0.step)⟩
 case round =>
  clear H';obtain ⟨x3_1,x10_1,rfl,rfl,HA,HK1,⟨m1,rfl⟩⟩ := hrel
  cases gk with
  | zero => exact absurd HA.out (by simp [wal_checksum.l0])
  | succ k1 =>
   have H := HA.out;clear HA;simp only [wal_checksum.l0] at H;by_cases c2 : x10_1 < (l0.length : Int)
   ·rw [if_pos c2] at H;have c2b0 := decide_eq_true c2;clear c2;by_cases c3 : 0 ≤ x10_1
    ·rw [if_pos c3] at H;have c3b0 := decide_eq_true c3;clear c3;by_cases c4 : x10_1 < (l0.length : Int)
     ·rw [if_pos c4] at H;have c4b0 := decide_eq_true c4;clear c4;have H' := Aside0.mk H;clear H;have p270 : 0 ≤ (x10_1 : Int) := XR.od;have q270 : x10_1 < (l0.length : Int) := XR.od;obtain ⟨ad270,e270,hx270_0⟩ := Kd.at_string HR0.out x10_1 p270 q270
      cases e270
      replace p270 := eq_true p270;replace q270 := eq_true q270;go_wp2;go_loopg [3,16] k1 (fun kq v3 v16 w' => ∃ (x3_2 : Int) (x16_2 : Int),v3 = .int .u32 x3_2 ∧ v16 = .int .i64 x16_2 ∧ Aside0 (wal_checksum.l1 kq x3_2 (rdOf ByteArray.empty l0 x10_1) l0 (l0.length : Int) x10_1 ((rdOf ByteArray.empty l0 x10_1).size : Int) x16_2 = some r) ∧ Aside0 (kq ≤ k1) ∧ Drawn0 w w')
      case atStart => exact ⟨(x3_1),(0),XR.rf,XR.rf,H',⟨Nat.le_refl _⟩,by repeat (first | exact Drawn0.refl _ | apply Drawn0.step)⟩
      case round =>
       clear H';(try clear c2);(try clear c2b0);(try clear p2);(try clear q2);(try clear hx2);(try clear c3);(try clear c3b0);(try clear c4);(try clear c4b0);(try clear hx270_0);(try clear p270);(try clear q270);obtain ⟨x3_2,x16_2,rfl,rfl,HA,HK2,⟨m2,rfl⟩⟩ := hrel
       cases gk with
       | zero => exact absurd HA.out (by simp [wal_checksum.l1])
       | succ k2 =>
        have H := HA.out;clear HA;simp only [wal_checksum.l1] at H;by_cases c5 : x16_2 < ((rdOf ByteArray.empty l0 x10_1).size : Int)
        ·rw [if_pos c5] at H;have c5b0 := decide_eq_true c5;clear c5;by_cases c6 : 0 ≤ x16_2
         ·rw [if_pos c6] at H;have c6b0 := decide_eq_true c6;clear c6;by_cases c7 : x16_2 < ((rdOf ByteArray.empty l0 x10_1).size : Int)
          ·rw [if_pos c7] at H;have c7b0 := decide_eq_true c7;clear c7;have H' := Aside0.mk H;clear H;have p8 : 0 ≤ (x16_2 : Int) := XR.od;have q8 : x16_2 < ((rdOf ByteArray.empty l0 x10_1).size : Int) := XR.od;have hx8 := bt_at (rdOf ByteArray.empty l0 x10_1) x16_2;replace p8 := eq_true p8;replace q8 := eq_true q8;go_wp2;go_loopg [3,25] k2 (fun kq v3 v25 w' => ∃ (x3_3 : Int) (x25_3 : Int),v3 = .int .u32 x3_3 ∧ v25 = .int .i64 x25_3 ∧ Aside0 (wal_checksum.l2 kq x3_3 (rdOf ByteArray.empty l0 x10_1) l0 (l0.length : Int) x10_1 ((rdOf ByteArray.empty l0 x10_1).size : Int) x16_2 x25_3 = some r) ∧ Aside0 (kq ≤ k2) ∧ Drawn0 w w')
           case atStart => exact ⟨(Go.bits .xor .u32 x3_2 ((bt (rdOf ByteArray.empty l0 x10_1) x16_2) % 4294967296)),(0),XR.rf,XR.rf,H',⟨Nat.le_refl _⟩,by repeat (first | exact Drawn0.refl _ | apply Drawn0.step)⟩
           case round =>
            clear H';(try clear c2);(try clear c2b0);(try clear p2);(try clear q2);(try clear hx2);(try clear c3);(try clear c3b0);(try clear c4);(try clear c4b0);(try clear c5);(try clear c5b0);(try clear c6);(try clear c6b0);(try clear c7);(try clear c7b0);(try clear p8);(try clear q8);(try clear hx8);(try clear hx270_0);(try clear p2);(try clear p270);(try clear p8);(try clear q2);(try clear q270);(try clear q8);obtain ⟨x3_3,x25_3,rfl,rfl,HA,HK3,⟨m3,rfl⟩⟩ := hrel
            cases gk with
            | zero => exact absurd HA.out (by simp [wal_checksum.l2])
            | succ k3 =>
             have H := HA.out;clear HA;simp only [wal_checksum.l2] at H;by_cases c9 : x25_3 < 8
             ·rw [if_pos c9] at H;have c9b0 := decide_eq_true c9;clear c9;by_cases c10 : (Go.bits .and .u32 x3_3 1) = 1
              ·rw [if_pos c10] at H;have c10b0 := beq_iff_eq.mpr c10;have c10b1 := bne_eq_false_iff_eq.mpr c10;clear c10;have H' := Aside0.mk H;clear H;go_wp2;go_roundg k3
               case measure => have := HK1.out;have := HK2.out;have := HK3.out;omega
               case rel => exact ⟨(Go.bits .xor .u32 (x3_3 / 2) 2197175160),(wrap64 (x25_3 + 1)),XR.rf,XR.rf,H',⟨by have := HK1.out;have := HK2.out;have := HK3.out;omega⟩,by repeat (first | exact Drawn0.refl _ | apply Drawn0.step)⟩
              ·rw [if_neg c10] at H;have c10b0 := beq_eq_false_iff_ne.mpr c10;have c10b1 := bne_iff_ne.mpr c10;have H' := Aside0.mk H;clear H;go_wp2;go_roundg k3
               case measure => have := HK1.out;have := HK2.out;have := HK3.out;omega
               case rel => exact ⟨(x3_3 / 2),(wrap64 (x25_3 + 1)),XR.rf,XR.rf,H',⟨by have := HK1.out;have := HK2.out;have := HK3.out;omega⟩,by repeat (first | exact Drawn0.refl _ | apply Drawn0.step)⟩
             ·rw [if_neg c9] at H;have c9b0 := decide_eq_false c9;clear c9;have H' := Aside0.mk H;clear H;go_wp2;go_roundg k3
              case measure => have := HK1.out;have := HK2.out;have := HK3.out;omega
              case rel => exact ⟨(x3_3),(wrap64 (x16_2 + 1)),XR.rf,XR.rf,H',⟨by have := HK1.out;have := HK2.out;have := HK3.out;omega⟩,by repeat (first | exact Drawn0.refl _ | apply Drawn0.step)⟩
          ·rw [if_neg c7] at H;exact absurd H (by simp)
         ·rw [if_neg c6] at H;exact absurd H (by simp)
        ·rw [if_neg c5] at H;have c5b0 := decide_eq_false c5;clear c5;have H' := Aside0.mk H;clear H;go_wp2;go_roundg k2
         case measure => have := HK1.out;have := HK2.out;omega
         case rel => exact ⟨(x3_2),(wrap64 (x10_1 + 1)),XR.rf,XR.rf,H',⟨by have := HK1.out;have := HK2.out;omega⟩,by repeat (first | exact Drawn0.refl _ | apply Drawn0.step)⟩
     ·rw [if_neg c4] at H;exact absurd H (by simp)
    ·rw [if_neg c3] at H;exact absurd H (by simp)
   ·rw [if_neg c2] at H;have c2b0 := decide_eq_false c2;clear c2;obtain rfl := Option.some.inj H;go_wp2;go_ret;exact ⟨by first | rfl | (simp;done) | (simp [*];done),by repeat (first | exact Drawn0.refl _ | apply Drawn0.step)⟩
set_option maxHeartbeats 8000000 in
set_option maxRecDepth 100000 in
theorem wal_number4.calls (a0 : ByteArray) (r : Int) (w : World) (h : wal_number4.f a0 = some r) :
  Calls Tryd.prog 89 #[.string a0] w fun e w' => e = .returned (.int .u32 r) ∧ Drawn0 w w' := by
 have H : (if 0 < (a0.size : Int) then (if 1 < (a0.size : Int) then (if 2 < (a0.size : Int) then (if 3 < (a0.size : Int) then (some (Go.bits .or .u32 (Go.bits .or .u32 (Go.bits .or .u32 ((((bt a0 0) % 4294967296) * 16777216) % 4294967296) ((((bt a0 1) % 4294967296) * 65536) % 4294967296)) ((((bt a0 2) % 4294967296) * 256) % 4294967296)) ((bt a0 3) % 4294967296))) else (none)) else (none)) else (none)) else (none)) = some r := h;clear h;by_cases c2 : 0 < (a0.size : Int)
 ·rw [if_pos c2] at H;have c2b0 := decide_eq_true c2;have c2b1 : decide (0 < a0.size) = true := decide_eq_true (by omega);clear c2;by_cases c4 : 1 < (a0.size : Int)
  ·rw [if_pos c4] at H;have c4b0 := decide_eq_true c4;have c4b1 : decide (1 < a0.size) = true := decide_eq_true (by omega);clear c4;by_cases c6 : 2 < (a0.size : Int)
   ·rw [if_pos c6] at H;have c6b0 := decide_eq_true c6;have c6b1 : decide (2 < a0.size) = true := decide_eq_true (by omega);clear c6;by_cases c8 : 3 < (a0.size : Int)
    ·rw [if_pos c8] at H;have c8b0 := decide_eq_true c8;have c8b1 : decide (3 < a0.size) = true := decide_eq_true (by omega);clear c8;obtain rfl := Option.some.inj H;have p3 : 0 ≤ (0 : Int) := (by omega);have q3 : 0 < a0.size := (by have : (0 : Int) < (a0.size : Int) := XR.od;omega);have hx3 : ∀ h : 0 < a0.size,((a0[0]'h).toNat : Int) = bt a0 0 := bt_at a0 0;clear p3;have qi3 : (0 < (a0.size : Int)) = True := eq_true (of_decide_eq_true (by first | (with_reducible assumption) | assumption));replace q3 := eq_true q3;have p5 : 0 ≤ (1 : Int) := (by omega);have q5 : 1 < a0.size := (by have : (1 : Int) < (a0.size : Int) := XR.od;omega);have hx5 : ∀ h : 1 < a0.size,((a0[1]'h).toNat : Int) = bt a0 1 := bt_at a0 1;clear p5;have qi5 : (1 < (a0.size : Int)) = True := eq_true (of_decide_eq_true (by first | (with_reducible assumption) | assumption));replace q5 := eq_true q5;have p7 : 0 ≤ (2 : Int) := (by omega);have q7 : 2 < a0.size := (by have : (2 : Int) < (a0.size : Int) := XR.od;omega);have hx7 : ∀ h : 2 < a0.size,((a0[2]'h).toNat : Int) = bt a0 2 := bt_at a0 2;clear p7;have qi7 : (2 < (a0.size : Int)) = True := eq_true (of_decide_eq_true (by first | (with_reducible assumption) | assumption));replace q7 := eq_true q7;have p9 : 0 ≤ (3 : Int) := (by omega);have q9 : 3 < a0.size := (by have : (3 : Int) < (a0.size : Int) := XR.od;omega);have hx9 : ∀ h : 3 < a0.size,((a0[3]'h).toNat : Int) = bt a0 3 := bt_at a0 3;clear p9;have qi9 : (3 < (a0.size : Int)) = True := eq_true (of_decide_eq_true (by first | (with_reducible assumption) | assumption));replace q9 := eq_true q9;go_enter Tryd.func89,Tryd.ntmps89;go_wp2
     repeat (go_quiet (fail);try go_wp2)
     go_ret;exact ⟨by first | rfl | (simp;done) | (simp [*];done),by repeat (first | exact Drawn0.refl _ | apply Drawn0.step)⟩
    ·rw [if_neg c8] at H;exact absurd H (by simp)
   ·rw [if_neg c6] at H;exact absurd H (by simp)
  ·rw [if_neg c4] at H;exact absurd H (by simp)
 ·rw [if_neg c2] at H;exact absurd H (by simp)
end Go.Proofs.YtikhpegamnnabaaDoor.QA
