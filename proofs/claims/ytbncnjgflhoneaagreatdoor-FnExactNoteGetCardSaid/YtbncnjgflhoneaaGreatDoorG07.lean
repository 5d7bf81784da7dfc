/- Of this claim, merged by program: F23, F35, F37, F13, Q3. -/
import Derived.Test.YtbncnjgflhoneaaGreatDoorG02
import Derived.Test.YtbncnjgflhoneaaGreatDoorG03
import Derived.Test.YtbncnjgflhoneaaGreatDoorG04
import Derived.Test.YtbncnjgflhoneaaGreatDoorG05
import Derived.Test.YtbncnjgflhoneaaGreatDoorG06
namespace Go.Proofs.YtbncnjgflhoneaaGreatDoor.F
open Go.RowKit Go.Proofs.YtbncnjgflhoneaaGreatDoor.Hand Go.Proofs.YtbncnjgflhoneaaGreatDoorW.PrintWords Go.Proofs.YtbncnjgflhoneaaGreatDoorW.PrintLast Go.Proofs.YtbncnjgflhoneaaGreatDoorW.PrintMore
attribute [local go_sem] max2_int min2_int max_two min_two max_three min_three max_four min_four
set_option linter.unusedVariables false
set_option linter.unusedSimpArgs false
def spec_l6Ok.j0 : Nat → Bool → Int → Int → ByteArray → ByteArray → Int → ByteArray → ByteArray → List (S32) → List ByteArray → Option (Bool)
 | 0, _, _, _, _, _, _, _, _, _, _ => none
 | k + 1, x3, x102000, x102001, x102002, x102003, x102004, x102005, x102006, x102007, x102008 => if x102000 = 1 then (if x102001 = 0 then ((spec_l1Null.f x102002 x102003).bind fun t103 => (if t103 = true then ((spec_l2Ok.f k x102005 x102006 x102007 x102008).bind fun t104 => (if t104 = true then ((spec_l1In.f x102004 0 9999).bind fun t105 => (some t105)) else (some false))) else (some false))) else (some false)) else (if x102000 = 2 then (if x3 = true then ((spec_l1In.f x102001 1 999).bind fun t106 => (if t106 = true then ((spec_l1AddrOk.f k x102002 x102003).bind fun t107 => (if t107 = true then (some (x102004 == 0)) else (some false))) else (some false))) else (some false)) else (if x102000 = 3 then (if x3 = true then ((spec_l1In.f x102001 1 999).bind fun t108 => (if t108 = true then ((spec_l1AddrOk.f k x102002 x102003).bind fun t109 => (if t109 = true then ((spec_l1In.f x102004 0 9999).bind fun t110 => (some t110)) else (some false))) else (some false))) else (some false)) else (some false)))
def spec_l6Ok.f (k : Nat) (a0_0 : Int) (a0_1 : Int) (a0_2 : ByteArray) (a0_3 : ByteArray) (a0_4 : Int) (a0_5 : ByteArray) (a0_6 : ByteArray) (l0_7 : List (S32)) (l0_8 : List ByteArray) : Option (Bool) := (spec_l1Null.f a0_5 a0_6).bind fun t102 => (if t102 = true then (if (l0_7.length : Int) = 0 then (spec_l6Ok.j0 k ((l0_8.length : Int) == 0) a0_0 a0_1 a0_2 a0_3 a0_4 a0_5 a0_6 l0_7 l0_8) else (spec_l6Ok.j0 k false a0_0 a0_1 a0_2 a0_3 a0_4 a0_5 a0_6 l0_7 l0_8)) else (spec_l6Ok.j0 k false a0_0 a0_1 a0_2 a0_3 a0_4 a0_5 a0_6 l0_7 l0_8))
theorem spec_l6Ok.mono_l : ∀ k, (∀ y0 y1 y2 y3 y4 y5 y6 y7 y8 y9, LeO (spec_l6Ok.j0 k y0 y1 y2 y3 y4 y5 y6 y7 y8 y9) (spec_l6Ok.j0 (k + 1) y0 y1 y2 y3 y4 y5 y6 y7 y8 y9))
 | 0 => fun _ _ _ _ _ _ _ _ _ _ r h => by simp [spec_l6Ok.j0] at h
 | k + 1 => by
  have ih0 := spec_l6Ok.mono_l k
  ·intro y0 y1 y2 y3 y4 y5 y6 y7 y8 y9
   unfold spec_l6Ok.j0
   repeat' with_reducible first | apply ih0 | apply spec_l1AddrOk.mono | apply spec_l2Ok.mono | exact LeO.refl _ | exact LeO.none _ | apply LeO.ite | refine LeO.bind ?_ fun _ => ?_
theorem spec_l6Ok.mono : ∀ a0 a1 a2 a3 a4 a5 a6 a7 a8 k, LeO (spec_l6Ok.f k a0 a1 a2 a3 a4 a5 a6 a7 a8) (spec_l6Ok.f (k + 1) a0 a1 a2 a3 a4 a5 a6 a7 a8) := by
 intro a0 a1 a2 a3 a4 a5 a6 a7 a8 k
 have ih0 := spec_l6Ok.mono_l k
 unfold spec_l6Ok.f
 repeat' with_reducible first | apply ih0 | apply spec_l1AddrOk.mono | apply spec_l2Ok.mono | exact LeO.refl _ | exact LeO.none _ | apply LeO.ite | refine LeO.bind ?_ fun _ => ?_
set_option maxHeartbeats 8000000 in
set_option maxRecDepth 100000 in
theorem spec_l6Ok.calls (k : Nat) (a0_0 : Int) (a0_1 : Int) (a0_2 : ByteArray) (a0_3 : ByteArray) (a0_4 : Int) (a0_5 : ByteArray) (a0_6 : ByteArray) (A0_7 : Option Addr) (c0_7 : Nat) (l0_7 : List (S32)) (A0_8 : Option Addr) (c0_8 : Nat) (l0_8 : List ByteArray) (r : Bool) (w : World) (hr0_7 : Kd.C k32 w A0_7 l0_7.length l0_7) (hc0_7 : l0_7.length ≤ c0_7) (hr0_8 : Kd.C Kd.string w A0_8 l0_8.length l0_8) (hc0_8 : l0_8.length ≤ c0_8) (h : spec_l6Ok.f k a0_0 a0_1 a0_2 a0_3 a0_4 a0_5 a0_6 l0_7 l0_8 = some r) :
  Calls Tryz.prog 23 #[.agg #[.int .i64 a0_0, .int .i64 a0_1, .string a0_2, .string a0_3, .int .i64 a0_4, .string a0_5, .string a0_6, .slice A0_7 l0_7.length c0_7, .slice A0_8 l0_8.length c0_8]] w fun e w' => e = .returned (.bool r) ∧ Below w.heap.size w w' := by
 have hu37 := Tryz.underlying37
 have hu32 := Tryz.underlying32
 have hu35 := Tryz.underlying35
 have HR0_7 := Aside0.mk hr0_7
 have HC0_7 := Aside0.mk hc0_7
 clear hr0_7 hc0_7
 have HR0_8 := Aside0.mk hr0_8
 have HC0_8 := Aside0.mk hc0_8
 clear hr0_8 hc0_8
 have HB := Aside0.mk (Below.refl w.heap.size w)
 have H := h
 clear h
 unfold spec_l6Ok.f at H
 have HC2 := Aside0.mk H
 clear H
 go_enter Tryz.func23, Tryz.ntmps23
 go_upto_region 1 with (first | ((with_reducible refine gate_dst (N := 1) rfl ?_); (try (refine gate_guard (by rfl) ?_; dsimp only)); refine bx (cs := #[.int .i64 a0_0, .int .i64 a0_1, .string a0_2, .string a0_3, .int .i64 a0_4, .string a0_5, .string a0_6, .slice A0_7 l0_7.length c0_7, .slice A0_8 l0_8.length c0_8]) (t := 37) ?_; intro gb101 hg w3 hbox hb; have BK101 := Aside0.mk (hbox); have GW101 := gS hg; have GE101 := gS hg; replace HB := bS hb; clear hb hbox hg))
 (try simp only [Act.put, List.setIfInBounds_toArray, List.set_cons_zero, List.set_cons_succ])
 go_cut [3] (fun v3 wc => ∃ (kq : Nat) (x3_1 : Bool), v3 = .bool x3_1 ∧ Aside0 (spec_l6Ok.j0 kq x3_1 a0_0 a0_1 a0_2 a0_3 a0_4 a0_5 a0_6 l0_7 l0_8 = some r) ∧ Aside0 (kq ≤ k) ∧ Aside0 (wc.heap[gb101]? = some (.cells #[.int .i64 a0_0, .int .i64 a0_1, .string a0_2, .string a0_3, .int .i64 a0_4, .string a0_5, .string a0_6, (.slice A0_7 l0_7.length c0_7), (.slice A0_8 l0_8.length c0_8)] 37 (0, 0))) ∧ Aside0 (Below w.heap.size w wc))
 case first =>
  have H := HC2.out
  clear HC2
  replace H := bnd H; obtain ⟨t102, A4, H⟩ := H
  replace H := itb H; rcases H with ⟨rfl, H⟩ | ⟨rfl, H⟩
  ·replace H := its_qn_cqn H; rcases H with ⟨c6b0, c6b1, H⟩ | ⟨c6, c6b0, c6b1, H⟩
   ·(first | rw [c6b0] | (simp only [i64_w, i32_w]; rw [c6b0]) | skip)
    have H' := Aside0.mk H
    clear H
    obtain ⟨hcz7_0, hcz7_1, hcz7_2, hcz7_3, hcz7_4, hcz7_5, hcz7_6, hcz7_7, hcz7_8⟩ := cz9 BK101.out
    obtain ⟨hfz7_0, hfz7_1, hfz7_2, hfz7_3, hfz7_4, hfz7_5, hfz7_6, hfz7_7, hfz7_8⟩ := fz9 BK101.out
    go_wp2_with (first | ((with_reducible refine gate_callee (f := 55) rfl ?_); refine gv 7 Tryz.func55 _ (spec_l1Null.calls (w := _) (h := A4.out)) ?_; intro w8 hb; replace BK101 := kS BK101 hb; replace HB := bS hb; clear hb; obtain ⟨hcz9_0, hcz9_1, hcz9_2, hcz9_3, hcz9_4, hcz9_5, hcz9_6, hcz9_7, hcz9_8⟩ := cz9 BK101.out; obtain ⟨hfz9_0, hfz9_1, hfz9_2, hfz9_3, hfz9_4, hfz9_5, hfz9_6, hfz9_7, hfz9_8⟩ := fz9 BK101.out))
    go_meet
    case rel => exact ⟨_, (((l0_8.length : Int) == 0)), zs, H', ⟨by first | omega | exact Nat.le_refl _⟩, ⟨kQ BK101⟩, ⟨zB⟩⟩
   ·have c6b2 : ¬ (l0_7 = []) := fun h_ => c6 (by rw [h_]; rfl)
    (first | rw [c6b0] | (simp only [i64_w, i32_w]; rw [c6b0]) | skip)
    have H' := Aside0.mk H
    clear H
    obtain ⟨hcz10_0, hcz10_1, hcz10_2, hcz10_3, hcz10_4, hcz10_5, hcz10_6, hcz10_7, hcz10_8⟩ := cz9 BK101.out
    obtain ⟨hfz10_0, hfz10_1, hfz10_2, hfz10_3, hfz10_4, hfz10_5, hfz10_6, hfz10_7, hfz10_8⟩ := fz9 BK101.out
    go_wp2_with (first | ((with_reducible refine gate_callee (f := 55) rfl ?_); refine gv 7 Tryz.func55 _ (spec_l1Null.calls (w := _) (h := A4.out)) ?_; intro w11 hb; replace BK101 := kS BK101 hb; replace HB := bS hb; clear hb; obtain ⟨hcz12_0, hcz12_1, hcz12_2, hcz12_3, hcz12_4, hcz12_5, hcz12_6, hcz12_7, hcz12_8⟩ := cz9 BK101.out; obtain ⟨hfz12_0, hfz12_1, hfz12_2, hfz12_3, hfz12_4, hfz12_5, hfz12_6, hfz12_7, hfz12_8⟩ := fz9 BK101.out))
    go_meet
    case rel => exact ⟨_, (false), zs, H', ⟨by first | omega | exact Nat.le_refl _⟩, ⟨kQ BK101⟩, ⟨zB⟩⟩
  ·have H' := Aside0.mk H
   clear H
   obtain ⟨hcz13_0, hcz13_1, hcz13_2, hcz13_3, hcz13_4, hcz13_5, hcz13_6, hcz13_7, hcz13_8⟩ := cz9 BK101.out
   obtain ⟨hfz13_0, hfz13_1, hfz13_2, hfz13_3, hfz13_4, hfz13_5, hfz13_6, hfz13_7, hfz13_8⟩ := fz9 BK101.out
   go_wp2_with (first | ((with_reducible refine gate_callee (f := 55) rfl ?_); refine gv 7 Tryz.func55 _ (spec_l1Null.calls (w := _) (h := A4.out)) ?_; intro w14 hb; replace BK101 := kS BK101 hb; replace HB := bS hb; clear hb))
   go_meet
   case rel => exact ⟨_, (false), zs, H', ⟨by first | omega | exact Nat.le_refl _⟩, ⟨kQ BK101⟩, ⟨zB⟩⟩
 case rest =>
  clear HC2
  obtain ⟨kq, x3_1, rfl, HA, HJ1, BK101, HB⟩ := hcut
  cases kq with
  | zero => exact absurd HA.out (by simp [spec_l6Ok.j0])
  | succ kj1 =>
   have H := HA.out
   clear HA
   simp only [spec_l6Ok.j0] at H
   replace H := its_qn_qn H; rcases H with ⟨c15b0, c15b1, H⟩ | ⟨c15b0, c15b1, H⟩
   ·replace H := its_qn_qn H; rcases H with ⟨c16b0, c16b1, H⟩ | ⟨c16b0, c16b1, H⟩
    ·replace H := bnd H; obtain ⟨t103, A17, H⟩ := H
     replace H := itb H; rcases H with ⟨rfl, H⟩ | ⟨rfl, H⟩
     ·replace H := bnd H; obtain ⟨t104, A19, H⟩ := H
      replace H := itb H; rcases H with ⟨rfl, H⟩ | ⟨rfl, H⟩
      ·replace H := bnd H; obtain ⟨t105, A21, H⟩ := H
       obtain rfl := Option.some.inj H
       obtain ⟨hcz22_0, hcz22_1, hcz22_2, hcz22_3, hcz22_4, hcz22_5, hcz22_6, hcz22_7, hcz22_8⟩ := cz9 BK101.out
       obtain ⟨hfz22_0, hfz22_1, hfz22_2, hfz22_3, hfz22_4, hfz22_5, hfz22_6, hfz22_7, hfz22_8⟩ := fz9 BK101.out
       go_wp2_with (first | (go_at_call 55; with_reducible refine (spec_l1Null.calls (w := _) (h := A17.out)).mono ?_; rintro e w23 ⟨rfl, hb⟩; replace BK101 := kS BK101 hb; replace HB := bS hb; clear hb; obtain ⟨hcz24_0, hcz24_1, hcz24_2, hcz24_3, hcz24_4, hcz24_5, hcz24_6, hcz24_7, hcz24_8⟩ := cz9 BK101.out; obtain ⟨hfz24_0, hfz24_1, hfz24_2, hfz24_3, hfz24_4, hfz24_5, hfz24_6, hfz24_7, hfz24_8⟩ := fz9 BK101.out) | (go_at_call 56; refine (spec_l2Ok.calls (w := _) (hr0_2 := cB HR0_7) (hc0_2 := HC0_7.out) (hr0_3 := cB HR0_8) (hc0_3 := HC0_8.out) (h := A19.out)).mono ?_; rintro e w25 ⟨rfl, hb⟩; replace BK101 := kS BK101 hb; replace HB := bS hb; clear hb; obtain ⟨hcz26_0, hcz26_1, hcz26_2, hcz26_3, hcz26_4, hcz26_5, hcz26_6, hcz26_7, hcz26_8⟩ := cz9 BK101.out; obtain ⟨hfz26_0, hfz26_1, hfz26_2, hfz26_3, hfz26_4, hfz26_5, hfz26_6, hfz26_7, hfz26_8⟩ := fz9 BK101.out) | (go_at_call 57; with_reducible refine (spec_l1In.calls (w := _) (h := A21.out)).mono ?_; rintro e w' ⟨rfl, ⟨nd, rfl⟩⟩))
       go_ret
       exact ⟨zr, zB⟩
      ·obtain rfl := Option.some.inj H
       obtain ⟨hcz27_0, hcz27_1, hcz27_2, hcz27_3, hcz27_4, hcz27_5, hcz27_6, hcz27_7, hcz27_8⟩ := cz9 BK101.out
       obtain ⟨hfz27_0, hfz27_1, hfz27_2, hfz27_3, hfz27_4, hfz27_5, hfz27_6, hfz27_7, hfz27_8⟩ := fz9 BK101.out
       go_wp2_with (first | (go_at_call 55; with_reducible refine (spec_l1Null.calls (w := _) (h := A17.out)).mono ?_; rintro e w28 ⟨rfl, hb⟩; replace BK101 := kS BK101 hb; replace HB := bS hb; clear hb; obtain ⟨hcz29_0, hcz29_1, hcz29_2, hcz29_3, hcz29_4, hcz29_5, hcz29_6, hcz29_7, hcz29_8⟩ := cz9 BK101.out; obtain ⟨hfz29_0, hfz29_1, hfz29_2, hfz29_3, hfz29_4, hfz29_5, hfz29_6, hfz29_7, hfz29_8⟩ := fz9 BK101.out) | (go_at_call 56; refine (spec_l2Ok.calls (w := _) (hr0_2 := cB HR0_7) (hc0_2 := HC0_7.out) (hr0_3 := cB HR0_8) (hc0_3 := HC0_8.out) (h := A19.out)).mono ?_; rintro e w30 ⟨rfl, hb⟩; replace BK101 := kS BK101 hb; replace HB := bS hb; clear hb))
       go_ret
       exact ⟨zr, zB⟩
     ·obtain rfl := Option.some.inj H
      obtain ⟨hcz31_0, hcz31_1, hcz31_2, hcz31_3, hcz31_4, hcz31_5, hcz31_6, hcz31_7, hcz31_8⟩ := cz9 BK101.out
      obtain ⟨hfz31_0, hfz31_1, hfz31_2, hfz31_3, hfz31_4, hfz31_5, hfz31_6, hfz31_7, hfz31_8⟩ := fz9 BK101.out
      go_wp2_with (first | (go_at_call 55; with_reducible refine (spec_l1Null.calls (w := _) (h := A17.out)).mono ?_; rintro e w32 ⟨rfl, hb⟩; replace BK101 := kS BK101 hb; replace HB := bS hb; clear hb))
      go_ret
      exact ⟨zr, zB⟩
    ·obtain rfl := Option.some.inj H
     obtain ⟨hcz33_0, hcz33_1, hcz33_2, hcz33_3, hcz33_4, hcz33_5, hcz33_6, hcz33_7, hcz33_8⟩ := cz9 BK101.out
     obtain ⟨hfz33_0, hfz33_1, hfz33_2, hfz33_3, hfz33_4, hfz33_5, hfz33_6, hfz33_7, hfz33_8⟩ := fz9 BK101.out
     go_wp2
     go_ret
     exact ⟨zr, zB⟩
   ·replace H := its_qn_qn H; rcases H with ⟨c34b0, c34b1, H⟩ | ⟨c34b0, c34b1, H⟩
    ·replace H := itb H; rcases H with ⟨rfl, H⟩ | ⟨rfl, H⟩
     ·replace H := bnd H; obtain ⟨t106, A36, H⟩ := H
      replace H := itb H; rcases H with ⟨rfl, H⟩ | ⟨rfl, H⟩
      ·replace H := bnd H; obtain ⟨t107, A38, H⟩ := H
       replace H := itb H; rcases H with ⟨rfl, H⟩ | ⟨rfl, H⟩
       ·obtain rfl := Option.some.inj H
        obtain ⟨hcz40_0, hcz40_1, hcz40_2, hcz40_3, hcz40_4, hcz40_5, hcz40_6, hcz40_7, hcz40_8⟩ := cz9 BK101.out
        obtain ⟨hfz40_0, hfz40_1, hfz40_2, hfz40_3, hfz40_4, hfz40_5, hfz40_6, hfz40_7, hfz40_8⟩ := fz9 BK101.out
        go_wp2_with (first | (go_at_call 57; with_reducible refine (spec_l1In.calls (w := _) (h := A36.out)).mono ?_; rintro e w' ⟨rfl, ⟨nd, rfl⟩⟩) | (go_at_call 58; with_reducible refine (spec_l1AddrOk.calls (w := _) (h := A38.out)).mono ?_; rintro e w41 ⟨rfl, hb⟩; replace BK101 := kS BK101 hb; replace HB := bS hb; clear hb; obtain ⟨hcz42_0, hcz42_1, hcz42_2, hcz42_3, hcz42_4, hcz42_5, hcz42_6, hcz42_7, hcz42_8⟩ := cz9 BK101.out; obtain ⟨hfz42_0, hfz42_1, hfz42_2, hfz42_3, hfz42_4, hfz42_5, hfz42_6, hfz42_7, hfz42_8⟩ := fz9 BK101.out))
        go_ret
        exact ⟨zr, zB⟩
       ·obtain rfl := Option.some.inj H
        obtain ⟨hcz43_0, hcz43_1, hcz43_2, hcz43_3, hcz43_4, hcz43_5, hcz43_6, hcz43_7, hcz43_8⟩ := cz9 BK101.out
        obtain ⟨hfz43_0, hfz43_1, hfz43_2, hfz43_3, hfz43_4, hfz43_5, hfz43_6, hfz43_7, hfz43_8⟩ := fz9 BK101.out
        go_wp2_with (first | (go_at_call 57; with_reducible refine (spec_l1In.calls (w := _) (h := A36.out)).mono ?_; rintro e w' ⟨rfl, ⟨nd, rfl⟩⟩) | (go_at_call 58; with_reducible refine (spec_l1AddrOk.calls (w := _) (h := A38.out)).mono ?_; rintro e w44 ⟨rfl, hb⟩; replace BK101 := kS BK101 hb; replace HB := bS hb; clear hb))
        go_ret
        exact ⟨zr, zB⟩
      ·obtain rfl := Option.some.inj H
       obtain ⟨hcz45_0, hcz45_1, hcz45_2, hcz45_3, hcz45_4, hcz45_5, hcz45_6, hcz45_7, hcz45_8⟩ := cz9 BK101.out
       obtain ⟨hfz45_0, hfz45_1, hfz45_2, hfz45_3, hfz45_4, hfz45_5, hfz45_6, hfz45_7, hfz45_8⟩ := fz9 BK101.out
       go_wp2_with (first | (go_at_call 57; with_reducible refine (spec_l1In.calls (w := _) (h := A36.out)).mono ?_; rintro e w' ⟨rfl, ⟨nd, rfl⟩⟩))
       go_ret
       exact ⟨zr, zB⟩
     ·obtain rfl := Option.some.inj H
      obtain ⟨hcz46_0, hcz46_1, hcz46_2, hcz46_3, hcz46_4, hcz46_5, hcz46_6, hcz46_7, hcz46_8⟩ := cz9 BK101.out
      obtain ⟨hfz46_0, hfz46_1, hfz46_2, hfz46_3, hfz46_4, hfz46_5, hfz46_6, hfz46_7, hfz46_8⟩ := fz9 BK101.out
      go_wp2
      go_ret
      exact ⟨zr, zB⟩
    ·replace H := its_qn_qn H; rcases H with ⟨c47b0, c47b1, H⟩ | ⟨c47b0, c47b1, H⟩
     ·replace H := itb H; rcases H with ⟨rfl, H⟩ | ⟨rfl, H⟩
      ·replace H := bnd H; obtain ⟨t108, A49, H⟩ := H
       replace H := itb H; rcases H with ⟨rfl, H⟩ | ⟨rfl, H⟩
       ·replace H := bnd H; obtain ⟨t109, A51, H⟩ := H
        replace H := itb H; rcases H with ⟨rfl, H⟩ | ⟨rfl, H⟩
        ·replace H := bnd H; obtain ⟨t110, A53, H⟩ := H
         obtain rfl := Option.some.inj H
         obtain ⟨hcz54_0, hcz54_1, hcz54_2, hcz54_3, hcz54_4, hcz54_5, hcz54_6, hcz54_7, hcz54_8⟩ := cz9 BK101.out
         obtain ⟨hfz54_0, hfz54_1, hfz54_2, hfz54_3, hfz54_4, hfz54_5, hfz54_6, hfz54_7, hfz54_8⟩ := fz9 BK101.out
         go_wp2_with (first | (go_at_call 57; with_reducible refine (spec_l1In.calls (w := _) (h := A49.out)).mono ?_; rintro e w' ⟨rfl, ⟨nd, rfl⟩⟩) | (go_at_call 58; with_reducible refine (spec_l1AddrOk.calls (w := _) (h := A51.out)).mono ?_; rintro e w55 ⟨rfl, hb⟩; replace BK101 := kS BK101 hb; replace HB := bS hb; clear hb; obtain ⟨hcz56_0, hcz56_1, hcz56_2, hcz56_3, hcz56_4, hcz56_5, hcz56_6, hcz56_7, hcz56_8⟩ := cz9 BK101.out; obtain ⟨hfz56_0, hfz56_1, hfz56_2, hfz56_3, hfz56_4, hfz56_5, hfz56_6, hfz56_7, hfz56_8⟩ := fz9 BK101.out) | (go_at_call 57; with_reducible refine (spec_l1In.calls (w := _) (h := A53.out)).mono ?_; rintro e w' ⟨rfl, ⟨nd, rfl⟩⟩))
         go_ret
         exact ⟨zr, zB⟩
        ·obtain rfl := Option.some.inj H
         obtain ⟨hcz57_0, hcz57_1, hcz57_2, hcz57_3, hcz57_4, hcz57_5, hcz57_6, hcz57_7, hcz57_8⟩ := cz9 BK101.out
         obtain ⟨hfz57_0, hfz57_1, hfz57_2, hfz57_3, hfz57_4, hfz57_5, hfz57_6, hfz57_7, hfz57_8⟩ := fz9 BK101.out
         go_wp2_with (first | (go_at_call 57; with_reducible refine (spec_l1In.calls (w := _) (h := A49.out)).mono ?_; rintro e w' ⟨rfl, ⟨nd, rfl⟩⟩) | (go_at_call 58; with_reducible refine (spec_l1AddrOk.calls (w := _) (h := A51.out)).mono ?_; rintro e w58 ⟨rfl, hb⟩; replace BK101 := kS BK101 hb; replace HB := bS hb; clear hb))
         go_ret
         exact ⟨zr, zB⟩
       ·obtain rfl := Option.some.inj H
        obtain ⟨hcz59_0, hcz59_1, hcz59_2, hcz59_3, hcz59_4, hcz59_5, hcz59_6, hcz59_7, hcz59_8⟩ := cz9 BK101.out
        obtain ⟨hfz59_0, hfz59_1, hfz59_2, hfz59_3, hfz59_4, hfz59_5, hfz59_6, hfz59_7, hfz59_8⟩ := fz9 BK101.out
        go_wp2_with (first | (go_at_call 57; with_reducible refine (spec_l1In.calls (w := _) (h := A49.out)).mono ?_; rintro e w' ⟨rfl, ⟨nd, rfl⟩⟩))
        go_ret
        exact ⟨zr, zB⟩
      ·obtain rfl := Option.some.inj H
       obtain ⟨hcz60_0, hcz60_1, hcz60_2, hcz60_3, hcz60_4, hcz60_5, hcz60_6, hcz60_7, hcz60_8⟩ := cz9 BK101.out
       obtain ⟨hfz60_0, hfz60_1, hfz60_2, hfz60_3, hfz60_4, hfz60_5, hfz60_6, hfz60_7, hfz60_8⟩ := fz9 BK101.out
       go_wp2
       go_ret
       exact ⟨zr, zB⟩
     ·obtain rfl := Option.some.inj H
      obtain ⟨hcz61_0, hcz61_1, hcz61_2, hcz61_3, hcz61_4, hcz61_5, hcz61_6, hcz61_7, hcz61_8⟩ := cz9 BK101.out
      obtain ⟨hfz61_0, hfz61_1, hfz61_2, hfz61_3, hfz61_4, hfz61_5, hfz61_6, hfz61_7, hfz61_8⟩ := fz9 BK101.out
      go_wp2
      go_ret
      exact ⟨zr, zB⟩
def impl_Mail_empty.f (a0_0 : ByteArray) (a0_1 : ByteArray) (l0_2 : List (S32)) (l0_3 : List ByteArray) : Option (Bool) := (impl_Addr_null.f a0_0 a0_1).bind fun t102 => (if t102 = true then (if (l0_2.length : Int) = 0 then (some ((l0_3.length : Int) == 0)) else (some false)) else (some false))
set_option maxHeartbeats 8000000 in
set_option maxRecDepth 100000 in
theorem impl_Mail_empty.calls (a0_0 : ByteArray) (a0_1 : ByteArray) (A0_2 : Option Addr) (c0_2 : Nat) (l0_2 : List (S32)) (A0_3 : Option Addr) (c0_3 : Nat) (l0_3 : List ByteArray) (r : Bool) (w : World) (hr0_2 : Kd.C k32 w A0_2 l0_2.length l0_2) (hc0_2 : l0_2.length ≤ c0_2) (hr0_3 : Kd.C Kd.string w A0_3 l0_3.length l0_3) (hc0_3 : l0_3.length ≤ c0_3) (h : impl_Mail_empty.f a0_0 a0_1 l0_2 l0_3 = some r) :
  Calls Tryz.prog 35 #[.agg #[.string a0_0, .string a0_1, .slice A0_2 l0_2.length c0_2, .slice A0_3 l0_3.length c0_3]] w fun e w' => e = .returned (.bool r) ∧ Below w.heap.size w w' := by
 have hu35 := Tryz.underlying35
 have hu32 := Tryz.underlying32
 have HR0_2 := Aside0.mk hr0_2
 have HC0_2 := Aside0.mk hc0_2
 clear hr0_2 hc0_2
 have HR0_3 := Aside0.mk hr0_3
 have HC0_3 := Aside0.mk hc0_3
 clear hr0_3 hc0_3
 have HB := Aside0.mk (Below.refl w.heap.size w)
 have H := h
 clear h
 unfold impl_Mail_empty.f at H
 replace H := bnd H; obtain ⟨t102, A2, H⟩ := H
 replace H := itb H; rcases H with ⟨rfl, H⟩ | ⟨rfl, H⟩
 ·replace H := its_qn_cqn H; rcases H with ⟨c4b0, c4b1, H⟩ | ⟨c4, c4b0, c4b1, H⟩
  ·obtain rfl := Option.some.inj H
   go_enter Tryz.func35, Tryz.ntmps35
   go_wp2_with (first | ((with_reducible refine gate_dst (N := 1) rfl ?_); (try (refine gate_guard (by rfl) ?_; dsimp only)); refine bx (cs := #[.string a0_0, .string a0_1, .slice A0_2 l0_2.length c0_2, .slice A0_3 l0_3.length c0_3]) (t := 35) ?_; intro gb101 hg w5 hbox hb; have BK101 := Aside0.mk (hbox); have GW101 := gS hg; have GE101 := gS hg; replace HB := bS hb; clear hb hbox hg; obtain ⟨hcz6_0, hcz6_1, hcz6_2, hcz6_3⟩ := cz4 BK101.out; obtain ⟨hfz6_0, hfz6_1, hfz6_2, hfz6_3⟩ := fz4 BK101.out) | ((with_reducible refine gate_callee (f := 38) rfl ?_); refine gv 5 Tryz.func38 _ (impl_Addr_null.calls (w := _) (h := A2.out)) ?_; intro w7 hb; replace BK101 := kS BK101 hb; replace HB := bS hb; clear hb; obtain ⟨hcz8_0, hcz8_1, hcz8_2, hcz8_3⟩ := cz4 BK101.out; obtain ⟨hfz8_0, hfz8_1, hfz8_2, hfz8_3⟩ := fz4 BK101.out))
   go_ret
   exact ⟨zr, zB⟩
  ·have c4b2 : ¬ (l0_2 = []) := fun h_ => c4 (by rw [h_]; rfl)
   obtain rfl := Option.some.inj H
   go_enter Tryz.func35, Tryz.ntmps35
   go_wp2_with (first | ((with_reducible refine gate_dst (N := 1) rfl ?_); (try (refine gate_guard (by rfl) ?_; dsimp only)); refine bx (cs := #[.string a0_0, .string a0_1, .slice A0_2 l0_2.length c0_2, .slice A0_3 l0_3.length c0_3]) (t := 35) ?_; intro gb101 hg w9 hbox hb; have BK101 := Aside0.mk (hbox); have GW101 := gS hg; have GE101 := gS hg; replace HB := bS hb; clear hb hbox hg; obtain ⟨hcz10_0, hcz10_1, hcz10_2, hcz10_3⟩ := cz4 BK101.out; obtain ⟨hfz10_0, hfz10_1, hfz10_2, hfz10_3⟩ := fz4 BK101.out) | ((with_reducible refine gate_callee (f := 38) rfl ?_); refine gv 5 Tryz.func38 _ (impl_Addr_null.calls (w := _) (h := A2.out)) ?_; intro w11 hb; replace BK101 := kS BK101 hb; replace HB := bS hb; clear hb; obtain ⟨hcz12_0, hcz12_1, hcz12_2, hcz12_3⟩ := cz4 BK101.out; obtain ⟨hfz12_0, hfz12_1, hfz12_2, hfz12_3⟩ := fz4 BK101.out))
   go_ret
   exact ⟨zr, zB⟩
 ·obtain rfl := Option.some.inj H
  go_enter Tryz.func35, Tryz.ntmps35
  go_wp2_with (first | ((with_reducible refine gate_dst (N := 1) rfl ?_); (try (refine gate_guard (by rfl) ?_; dsimp only)); refine bx (cs := #[.string a0_0, .string a0_1, .slice A0_2 l0_2.length c0_2, .slice A0_3 l0_3.length c0_3]) (t := 35) ?_; intro gb101 hg w13 hbox hb; have BK101 := Aside0.mk (hbox); have GW101 := gS hg; have GE101 := gS hg; replace HB := bS hb; clear hb hbox hg; obtain ⟨hcz14_0, hcz14_1, hcz14_2, hcz14_3⟩ := cz4 BK101.out; obtain ⟨hfz14_0, hfz14_1, hfz14_2, hfz14_3⟩ := fz4 BK101.out) | ((with_reducible refine gate_callee (f := 38) rfl ?_); refine gv 5 Tryz.func38 _ (impl_Addr_null.calls (w := _) (h := A2.out)) ?_; intro w15 hb; replace BK101 := kS BK101 hb; replace HB := bS hb; clear hb))
  go_ret
  exact ⟨zr, zB⟩
end Go.Proofs.YtbncnjgflhoneaaGreatDoor.F
namespace Go.Proofs.YtbncnjgflhoneaaGreatDoor.F
open Go.RowKit Go.Proofs.YtbncnjgflhoneaaGreatDoor.Hand Go.Proofs.YtbncnjgflhoneaaGreatDoorW.PrintWords Go.Proofs.YtbncnjgflhoneaaGreatDoorW.PrintLast Go.Proofs.YtbncnjgflhoneaaGreatDoorW.PrintMore
attribute [local go_sem] max2_int min2_int max_two min_two max_three min_three max_four min_four
set_option linter.unusedVariables false
set_option linter.unusedSimpArgs false
def impl_isTime.f (a0 : Int) : Option (Bool) := (impl_within.f a0 0 9999).bind fun t101 => (some t101)
set_option maxHeartbeats 8000000 in
set_option maxRecDepth 100000 in
theorem impl_isTime.calls (a0 : Int) (r : Bool) (w : World) (h : impl_isTime.f a0 = some r) :
  Calls Tryz.prog 37 #[.int .i64 a0] w fun e w' => e = .returned (.bool r) ∧ Drawn0 w w' := by
 have H := h
 clear h
 unfold impl_isTime.f at H
 replace H := bnd H; obtain ⟨t101, A2, H⟩ := H
 obtain rfl := Option.some.inj H
 go_enter Tryz.func37, Tryz.ntmps37
 go_wp2_with (first | ((with_reducible refine gate_callee (f := 33) rfl ?_); refine gv 4 Tryz.func33 _ (impl_within.calls (w := _) (h := A2.out)) ?_; rintro w' ⟨nd, rfl⟩))
 go_ret
 exact ⟨zs, zD⟩
def impl_NoteOk.j0 : Nat → Bool → Int → Int → ByteArray → ByteArray → Int → ByteArray → ByteArray → List (S32) → List ByteArray → Option (Bool)
 | 0, _, _, _, _, _, _, _, _, _, _ => none
 | k + 1, x3, x102000, x102001, x102002, x102003, x102004, x102005, x102006, x102007, x102008 => if x102000 = 1 then ((impl_MailOk.f x102005 x102006 x102007 x102008).bind fun t105 => (if t105 = true then ((impl_isTime.f x102004).bind fun t106 => (if t106 = true then (if x102001 = 0 then ((impl_Addr_null.f x102002 x102003).bind fun t107 => (some t107)) else (some false)) else (some false))) else (some false))) else (if x102000 = 2 then (if x3 = true then (some (x102004 == 0)) else (some false)) else (if x102000 = 3 then (if x3 = true then ((impl_isTime.f x102004).bind fun t108 => (some t108)) else (some false)) else (some false)))
def impl_NoteOk.f (k : Nat) (a0_0 : Int) (a0_1 : Int) (a0_2 : ByteArray) (a0_3 : ByteArray) (a0_4 : Int) (a0_5 : ByteArray) (a0_6 : ByteArray) (l0_7 : List (S32)) (l0_8 : List ByteArray) : Option (Bool) := (impl_within.f a0_1 1 999).bind fun t102 => (if t102 = true then ((impl_AddrOk.f k a0_2 a0_3).bind fun t103 => (if t103 = true then ((impl_Mail_empty.f a0_5 a0_6 l0_7 l0_8).bind fun t104 => (impl_NoteOk.j0 k t104 a0_0 a0_1 a0_2 a0_3 a0_4 a0_5 a0_6 l0_7 l0_8)) else (impl_NoteOk.j0 k false a0_0 a0_1 a0_2 a0_3 a0_4 a0_5 a0_6 l0_7 l0_8))) else (impl_NoteOk.j0 k false a0_0 a0_1 a0_2 a0_3 a0_4 a0_5 a0_6 l0_7 l0_8))
theorem impl_NoteOk.mono_l : ∀ k, (∀ y0 y1 y2 y3 y4 y5 y6 y7 y8 y9, LeO (impl_NoteOk.j0 k y0 y1 y2 y3 y4 y5 y6 y7 y8 y9) (impl_NoteOk.j0 (k + 1) y0 y1 y2 y3 y4 y5 y6 y7 y8 y9))
 | 0 => fun _ _ _ _ _ _ _ _ _ _ r h => by simp [impl_NoteOk.j0] at h
 | k + 1 => by
  have ih0 := impl_NoteOk.mono_l k
  ·intro y0 y1 y2 y3 y4 y5 y6 y7 y8 y9
   unfold impl_NoteOk.j0
   repeat' with_reducible first | apply ih0 | apply impl_AddrOk.mono | exact LeO.refl _ | exact LeO.none _ | apply LeO.ite | refine LeO.bind ?_ fun _ => ?_
theorem impl_NoteOk.mono : ∀ a0 a1 a2 a3 a4 a5 a6 a7 a8 k, LeO (impl_NoteOk.f k a0 a1 a2 a3 a4 a5 a6 a7 a8) (impl_NoteOk.f (k + 1) a0 a1 a2 a3 a4 a5 a6 a7 a8) := by
 intro a0 a1 a2 a3 a4 a5 a6 a7 a8 k
 have ih0 := impl_NoteOk.mono_l k
 unfold impl_NoteOk.f
 repeat' with_reducible first | apply ih0 | apply impl_AddrOk.mono | exact LeO.refl _ | exact LeO.none _ | apply LeO.ite | refine LeO.bind ?_ fun _ => ?_
set_option maxHeartbeats 8000000 in
set_option maxRecDepth 100000 in
theorem impl_NoteOk.calls (k : Nat) (a0_0 : Int) (a0_1 : Int) (a0_2 : ByteArray) (a0_3 : ByteArray) (a0_4 : Int) (a0_5 : ByteArray) (a0_6 : ByteArray) (A0_7 : Option Addr) (c0_7 : Nat) (l0_7 : List (S32)) (A0_8 : Option Addr) (c0_8 : Nat) (l0_8 : List ByteArray) (r : Bool) (w : World) (hG : Laid w) (hr0_7 : Kd.C k32 w A0_7 l0_7.length l0_7) (hc0_7 : l0_7.length ≤ c0_7) (hr0_8 : Kd.C Kd.string w A0_8 l0_8.length l0_8) (hc0_8 : l0_8.length ≤ c0_8) (h : impl_NoteOk.f k a0_0 a0_1 a0_2 a0_3 a0_4 a0_5 a0_6 l0_7 l0_8 = some r) :
  Calls Tryz.prog 13 #[.agg #[.int .i64 a0_0, .int .i64 a0_1, .string a0_2, .string a0_3, .int .i64 a0_4, .string a0_5, .string a0_6, .slice A0_7 l0_7.length c0_7, .slice A0_8 l0_8.length c0_8]] w fun e w' => e = .returned (.bool r) ∧ Below w.heap.size w w' := by
 have hu37 := Tryz.underlying37
 have hu32 := Tryz.underlying32
 have hu35 := Tryz.underlying35
 have HG := Aside0.mk hG
 clear hG
 have HR0_7 := Aside0.mk hr0_7
 have HC0_7 := Aside0.mk hc0_7
 clear hr0_7 hc0_7
 have HR0_8 := Aside0.mk hr0_8
 have HC0_8 := Aside0.mk hc0_8
 clear hr0_8 hc0_8
 have HB := Aside0.mk (Below.refl w.heap.size w)
 have H := h
 clear h
 unfold impl_NoteOk.f at H
 have HC2 := Aside0.mk H
 clear H
 go_enter Tryz.func13, Tryz.ntmps13
 go_upto_region 1 with (first | ((with_reducible refine gate_dst (N := 1) rfl ?_); refine bx (cs := #[.int .i64 a0_0, .int .i64 a0_1, .string a0_2, .string a0_3, .int .i64 a0_4, .string a0_5, .string a0_6, .slice A0_7 l0_7.length c0_7, .slice A0_8 l0_8.length c0_8]) (t := 37) ?_; intro gb101 hg w3 hbox hb; have BK101 := Aside0.mk (hbox); have GW101 := gS hg; have GE101 := gS hg; replace HB := bS hb; clear hb hbox hg))
 (try simp only [Act.put, List.setIfInBounds_toArray, List.set_cons_zero, List.set_cons_succ])
 go_cut [3] (fun v3 wc => ∃ (kq : Nat) (x3_1 : Bool), v3 = .bool x3_1 ∧ Aside0 (impl_NoteOk.j0 kq x3_1 a0_0 a0_1 a0_2 a0_3 a0_4 a0_5 a0_6 l0_7 l0_8 = some r) ∧ Aside0 (kq ≤ k) ∧ Aside0 (wc.heap[gb101]? = some (.cells #[.int .i64 a0_0, .int .i64 a0_1, .string a0_2, .string a0_3, .int .i64 a0_4, .string a0_5, .string a0_6, (.slice A0_7 l0_7.length c0_7), (.slice A0_8 l0_8.length c0_8)] 37 (0, 0))) ∧ Aside0 (Below w.heap.size w wc))
 case first =>
  have H := HC2.out
  clear HC2
  replace H := bnd H; obtain ⟨t102, A4, H⟩ := H
  replace H := itb H; rcases H with ⟨rfl, H⟩ | ⟨rfl, H⟩
  ·replace H := bnd H; obtain ⟨t103, A6, H⟩ := H
   replace H := itb H; rcases H with ⟨rfl, H⟩ | ⟨rfl, H⟩
   ·replace H := bnd H; obtain ⟨t104, A8, H⟩ := H
    have H' := Aside0.mk H
    clear H
    obtain ⟨hcz9_0, hcz9_1, hcz9_2, hcz9_3, hcz9_4, hcz9_5, hcz9_6, hcz9_7, hcz9_8⟩ := cz9 BK101.out
    obtain ⟨hfz9_0, hfz9_1, hfz9_2, hfz9_3, hfz9_4, hfz9_5, hfz9_6, hfz9_7, hfz9_8⟩ := fz9 BK101.out
    go_wp2_with (first | ((with_reducible refine gate_callee (f := 33) rfl ?_); refine gv 6 Tryz.func33 _ (impl_within.calls (w := _) (h := A4.out)) ?_; rintro w' ⟨nd, rfl⟩) | (go_at_call 34; refine (impl_AddrOk.calls (w := _) (hG := gB) (h := A6.out)).mono ?_; rintro e w10 ⟨rfl, hb⟩; replace BK101 := kS BK101 hb; replace HB := bS hb; clear hb; obtain ⟨hcz11_0, hcz11_1, hcz11_2, hcz11_3, hcz11_4, hcz11_5, hcz11_6, hcz11_7, hcz11_8⟩ := cz9 BK101.out; obtain ⟨hfz11_0, hfz11_1, hfz11_2, hfz11_3, hfz11_4, hfz11_5, hfz11_6, hfz11_7, hfz11_8⟩ := fz9 BK101.out) | (go_at_call 35; refine (impl_Mail_empty.calls (w := _) (hr0_2 := cB HR0_7) (hc0_2 := HC0_7.out) (hr0_3 := cB HR0_8) (hc0_3 := HC0_8.out) (h := A8.out)).mono ?_; rintro e w12 ⟨rfl, hb⟩; replace BK101 := kS BK101 hb; replace HB := bS hb; clear hb))
    go_meet
    case rel => exact ⟨_, (t104), zs, H', ⟨by first | omega | exact Nat.le_refl _⟩, ⟨kQ BK101⟩, ⟨zB⟩⟩
   ·have H' := Aside0.mk H
    clear H
    obtain ⟨hcz13_0, hcz13_1, hcz13_2, hcz13_3, hcz13_4, hcz13_5, hcz13_6, hcz13_7, hcz13_8⟩ := cz9 BK101.out
    obtain ⟨hfz13_0, hfz13_1, hfz13_2, hfz13_3, hfz13_4, hfz13_5, hfz13_6, hfz13_7, hfz13_8⟩ := fz9 BK101.out
    go_wp2_with (first | ((with_reducible refine gate_callee (f := 33) rfl ?_); refine gv 6 Tryz.func33 _ (impl_within.calls (w := _) (h := A4.out)) ?_; rintro w' ⟨nd, rfl⟩) | (go_at_call 34; refine (impl_AddrOk.calls (w := _) (hG := gB) (h := A6.out)).mono ?_; rintro e w14 ⟨rfl, hb⟩; replace BK101 := kS BK101 hb; replace HB := bS hb; clear hb))
    go_meet
    case rel => exact ⟨_, (false), zs, H', ⟨by first | omega | exact Nat.le_refl _⟩, ⟨kQ BK101⟩, ⟨zB⟩⟩
  ·have H' := Aside0.mk H
   clear H
   obtain ⟨hcz15_0, hcz15_1, hcz15_2, hcz15_3, hcz15_4, hcz15_5, hcz15_6, hcz15_7, hcz15_8⟩ := cz9 BK101.out
   obtain ⟨hfz15_0, hfz15_1, hfz15_2, hfz15_3, hfz15_4, hfz15_5, hfz15_6, hfz15_7, hfz15_8⟩ := fz9 BK101.out
   go_wp2_with (first | ((with_reducible refine gate_callee (f := 33) rfl ?_); refine gv 6 Tryz.func33 _ (impl_within.calls (w := _) (h := A4.out)) ?_; rintro w' ⟨nd, rfl⟩))
   go_meet
   case rel => exact ⟨_, (false), zs, H', ⟨by first | omega | exact Nat.le_refl _⟩, ⟨kQ BK101⟩, ⟨zB⟩⟩
 case rest =>
  clear HC2
  obtain ⟨kq, x3_1, rfl, HA, HJ1, BK101, HB⟩ := hcut
  cases kq with
  | zero => exact absurd HA.out (by simp [impl_NoteOk.j0])
  | succ kj1 =>
   have H := HA.out
   clear HA
   simp only [impl_NoteOk.j0] at H
   replace H := its_qn_qn H; rcases H with ⟨c16b0, c16b1, H⟩ | ⟨c16b0, c16b1, H⟩
   ·replace H := bnd H; obtain ⟨t105, A17, H⟩ := H
    replace H := itb H; rcases H with ⟨rfl, H⟩ | ⟨rfl, H⟩
    ·replace H := bnd H; obtain ⟨t106, A19, H⟩ := H
     replace H := itb H; rcases H with ⟨rfl, H⟩ | ⟨rfl, H⟩
     ·replace H := its_qn_qn H; rcases H with ⟨c21b0, c21b1, H⟩ | ⟨c21b0, c21b1, H⟩
      ·replace H := bnd H; obtain ⟨t107, A22, H⟩ := H
       obtain rfl := Option.some.inj H
       obtain ⟨hcz23_0, hcz23_1, hcz23_2, hcz23_3, hcz23_4, hcz23_5, hcz23_6, hcz23_7, hcz23_8⟩ := cz9 BK101.out
       obtain ⟨hfz23_0, hfz23_1, hfz23_2, hfz23_3, hfz23_4, hfz23_5, hfz23_6, hfz23_7, hfz23_8⟩ := fz9 BK101.out
       go_wp2_with (first | ((with_reducible refine gate_callee (f := 36) rfl ?_); refine gv 23 Tryz.func36 #[.agg #[.string a0_5, .string a0_6, .slice A0_7 l0_7.length c0_7, .slice A0_8 l0_8.length c0_8]] (impl_MailOk.calls (w := _) (hG := gB) (hr0_2 := cB HR0_7) (_hc0_2 := HC0_7.out) (hr0_3 := cB HR0_8) (hc0_3 := HC0_8.out) (h := A17.out)) ?_; intro w24 hb; replace BK101 := kS BK101 hb; replace HB := bS hb; clear hb; obtain ⟨hcz25_0, hcz25_1, hcz25_2, hcz25_3, hcz25_4, hcz25_5, hcz25_6, hcz25_7, hcz25_8⟩ := cz9 BK101.out; obtain ⟨hfz25_0, hfz25_1, hfz25_2, hfz25_3, hfz25_4, hfz25_5, hfz25_6, hfz25_7, hfz25_8⟩ := fz9 BK101.out) | (go_at_call 37; with_reducible refine (impl_isTime.calls (w := _) (h := A19.out)).mono ?_; rintro e w' ⟨rfl, ⟨nd, rfl⟩⟩) | (go_at_call 38; with_reducible refine (impl_Addr_null.calls (w := _) (h := A22.out)).mono ?_; rintro e w26 ⟨rfl, hb⟩; replace BK101 := kS BK101 hb; replace HB := bS hb; clear hb))
       go_ret
       exact ⟨zr, zB⟩
      ·obtain rfl := Option.some.inj H
       obtain ⟨hcz27_0, hcz27_1, hcz27_2, hcz27_3, hcz27_4, hcz27_5, hcz27_6, hcz27_7, hcz27_8⟩ := cz9 BK101.out
       obtain ⟨hfz27_0, hfz27_1, hfz27_2, hfz27_3, hfz27_4, hfz27_5, hfz27_6, hfz27_7, hfz27_8⟩ := fz9 BK101.out
       go_wp2_with (first | ((with_reducible refine gate_callee (f := 36) rfl ?_); refine gv 23 Tryz.func36 #[.agg #[.string a0_5, .string a0_6, .slice A0_7 l0_7.length c0_7, .slice A0_8 l0_8.length c0_8]] (impl_MailOk.calls (w := _) (hG := gB) (hr0_2 := cB HR0_7) (_hc0_2 := HC0_7.out) (hr0_3 := cB HR0_8) (hc0_3 := HC0_8.out) (h := A17.out)) ?_; intro w28 hb; replace BK101 := kS BK101 hb; replace HB := bS hb; clear hb; obtain ⟨hcz29_0, hcz29_1, hcz29_2, hcz29_3, hcz29_4, hcz29_5, hcz29_6, hcz29_7, hcz29_8⟩ := cz9 BK101.out; obtain ⟨hfz29_0, hfz29_1, hfz29_2, hfz29_3, hfz29_4, hfz29_5, hfz29_6, hfz29_7, hfz29_8⟩ := fz9 BK101.out) | (go_at_call 37; with_reducible refine (impl_isTime.calls (w := _) (h := A19.out)).mono ?_; rintro e w' ⟨rfl, ⟨nd, rfl⟩⟩))
       go_ret
       exact ⟨zr, zB⟩
     ·obtain rfl := Option.some.inj H
      obtain ⟨hcz30_0, hcz30_1, hcz30_2, hcz30_3, hcz30_4, hcz30_5, hcz30_6, hcz30_7, hcz30_8⟩ := cz9 BK101.out
      obtain ⟨hfz30_0, hfz30_1, hfz30_2, hfz30_3, hfz30_4, hfz30_5, hfz30_6, hfz30_7, hfz30_8⟩ := fz9 BK101.out
      go_wp2_with (first | ((with_reducible refine gate_callee (f := 36) rfl ?_); refine gv 23 Tryz.func36 #[.agg #[.string a0_5, .string a0_6, .slice A0_7 l0_7.length c0_7, .slice A0_8 l0_8.length c0_8]] (impl_MailOk.calls (w := _) (hG := gB) (hr0_2 := cB HR0_7) (_hc0_2 := HC0_7.out) (hr0_3 := cB HR0_8) (hc0_3 := HC0_8.out) (h := A17.out)) ?_; intro w31 hb; replace BK101 := kS BK101 hb; replace HB := bS hb; clear hb; obtain ⟨hcz32_0, hcz32_1, hcz32_2, hcz32_3, hcz32_4, hcz32_5, hcz32_6, hcz32_7, hcz32_8⟩ := cz9 BK101.out; obtain ⟨hfz32_0, hfz32_1, hfz32_2, hfz32_3, hfz32_4, hfz32_5, hfz32_6, hfz32_7, hfz32_8⟩ := fz9 BK101.out) | (go_at_call 37; with_reducible refine (impl_isTime.calls (w := _) (h := A19.out)).mono ?_; rintro e w' ⟨rfl, ⟨nd, rfl⟩⟩))
      go_ret
      exact ⟨zr, zB⟩
    ·obtain rfl := Option.some.inj H
     obtain ⟨hcz33_0, hcz33_1, hcz33_2, hcz33_3, hcz33_4, hcz33_5, hcz33_6, hcz33_7, hcz33_8⟩ := cz9 BK101.out
     obtain ⟨hfz33_0, hfz33_1, hfz33_2, hfz33_3, hfz33_4, hfz33_5, hfz33_6, hfz33_7, hfz33_8⟩ := fz9 BK101.out
     go_wp2_with (first | ((with_reducible refine gate_callee (f := 36) rfl ?_); refine gv 23 Tryz.func36 #[.agg #[.string a0_5, .string a0_6, .slice A0_7 l0_7.length c0_7, .slice A0_8 l0_8.length c0_8]] (impl_MailOk.calls (w := _) (hG := gB) (hr0_2 := cB HR0_7) (_hc0_2 := HC0_7.out) (hr0_3 := cB HR0_8) (hc0_3 := HC0_8.out) (h := A17.out)) ?_; intro w34 hb; replace BK101 := kS BK101 hb; replace HB := bS hb; clear hb))
     go_ret
     exact ⟨zr, zB⟩
   ·replace H := its_qn_qn H; rcases H with ⟨c35b0, c35b1, H⟩ | ⟨c35b0, c35b1, H⟩
    ·replace H := itb H; rcases H with ⟨rfl, H⟩ | ⟨rfl, H⟩
     ·obtain rfl := Option.some.inj H
      obtain ⟨hcz37_0, hcz37_1, hcz37_2, hcz37_3, hcz37_4, hcz37_5, hcz37_6, hcz37_7, hcz37_8⟩ := cz9 BK101.out
      obtain ⟨hfz37_0, hfz37_1, hfz37_2, hfz37_3, hfz37_4, hfz37_5, hfz37_6, hfz37_7, hfz37_8⟩ := fz9 BK101.out
      go_wp2
      go_ret
      exact ⟨zr, zB⟩
     ·obtain rfl := Option.some.inj H
      obtain ⟨hcz38_0, hcz38_1, hcz38_2, hcz38_3, hcz38_4, hcz38_5, hcz38_6, hcz38_7, hcz38_8⟩ := cz9 BK101.out
      obtain ⟨hfz38_0, hfz38_1, hfz38_2, hfz38_3, hfz38_4, hfz38_5, hfz38_6, hfz38_7, hfz38_8⟩ := fz9 BK101.out
      go_wp2
      go_ret
      exact ⟨zr, zB⟩
    ·replace H := its_qn_qn H; rcases H with ⟨c39b0, c39b1, H⟩ | ⟨c39b0, c39b1, H⟩
     ·replace H := itb H; rcases H with ⟨rfl, H⟩ | ⟨rfl, H⟩
      ·replace H := bnd H; obtain ⟨t108, A41, H⟩ := H
       obtain rfl := Option.some.inj H
       obtain ⟨hcz42_0, hcz42_1, hcz42_2, hcz42_3, hcz42_4, hcz42_5, hcz42_6, hcz42_7, hcz42_8⟩ := cz9 BK101.out
       obtain ⟨hfz42_0, hfz42_1, hfz42_2, hfz42_3, hfz42_4, hfz42_5, hfz42_6, hfz42_7, hfz42_8⟩ := fz9 BK101.out
       go_wp2_with (first | (go_at_call 37; with_reducible refine (impl_isTime.calls (w := _) (h := A41.out)).mono ?_; rintro e w' ⟨rfl, ⟨nd, rfl⟩⟩))
       go_ret
       exact ⟨zr, zB⟩
      ·obtain rfl := Option.some.inj H
       obtain ⟨hcz43_0, hcz43_1, hcz43_2, hcz43_3, hcz43_4, hcz43_5, hcz43_6, hcz43_7, hcz43_8⟩ := cz9 BK101.out
       obtain ⟨hfz43_0, hfz43_1, hfz43_2, hfz43_3, hfz43_4, hfz43_5, hfz43_6, hfz43_7, hfz43_8⟩ := fz9 BK101.out
       go_wp2
       go_ret
       exact ⟨zr, zB⟩
     ·obtain rfl := Option.some.inj H
      obtain ⟨hcz44_0, hcz44_1, hcz44_2, hcz44_3, hcz44_4, hcz44_5, hcz44_6, hcz44_7, hcz44_8⟩ := cz9 BK101.out
      obtain ⟨hfz44_0, hfz44_1, hfz44_2, hfz44_3, hfz44_4, hfz44_5, hfz44_6, hfz44_7, hfz44_8⟩ := fz9 BK101.out
      go_wp2
      go_ret
      exact ⟨zr, zB⟩
end Go.Proofs.YtbncnjgflhoneaaGreatDoor.F
namespace Go.Proofs.YtbncnjgflhoneaaGreatDoor.Hand
open Go.RowKit Go.Proofs.YtbncnjgflhoneaaGreatDoor.F Go.Proofs.YtbncnjgflhoneaaGreatDoorW.PrintWords Go.Proofs.YtbncnjgflhoneaaGreatDoorW.PrintLast Go.Proofs.YtbncnjgflhoneaaGreatDoorW.PrintMore
def chk : List S32 → List S32 → Bool
  | _, [] => true
  | old, a :: l => goodB a && (old.all (fun b => !sameB b a) && chk (old ++ [a]) l)
theorem chk_eq : ∀ (l old : List S32), chk old l = (l.all goodB && (apartB l && l.all (fun a => old.all (fun b => !sameB b a))))
  | [], old => by simp [chk, apartB]
  | a :: l, old => by
    rw [chk, chk_eq l (old ++ [a]), apartB]
    simp only [List.all_cons, List.all_append, List.all_nil, Bool.and_true]
    have e : (l.all fun x => (old.all fun b => !sameB b x) && !sameB a x) = ((l.all fun x => old.all fun b => !sameB b x) && l.all fun x => !sameB a x) := by
      rw [Bool.eq_iff_iff]
      simp only [Bool.and_eq_true, List.all_eq_true]
      exact ⟨fun h => ⟨fun x hx => (h x hx).1, fun x hx => (h x hx).2⟩, fun h x hx => ⟨h.1 x hx, h.2 x hx⟩⟩
    rw [e]
    cases goodB a <;> cases l.all goodB <;> cases apartB l <;> cases (old.all fun b => !sameB b a) <;> cases (l.all fun x => old.all fun b => !sameB b x) <;> cases (l.all fun x => !sameB a x) <;> rfl
theorem chk_start (l : List S32) : chk [] l = (l.all goodB && apartB l) := by
  rw [chk_eq]
  simp only [List.all_nil]
  rw [show (l.all fun _ => true) = true by simp, Bool.and_true]
def Short (u d : ByteArray) (ts : List S32) (body : List ByteArray) : Prop := u.size ≤ 1073741824 ∧ d.size ≤ 1073741824 ∧ (∀ a ∈ ts, Tiny a) ∧ (∀ s ∈ body, s.size ≤ 1073741824) ∧ ts.length ≤ 1073741824 ∧ body.length ≤ 1073741824
def tailB (u d : ByteArray) (ts : List S32) (body : List ByteArray) : Bool := (addrB u d || nullB u d) && (decide (1 ≤ ts.length ∧ ts.length ≤ 4) && bodyB body)
theorem smail_from (u d : ByteArray) (ts : List S32) (body : List ByteArray) (hs : Short u d ts body) : ∀ (e i : Nat), ts.length = i + e → Ev (fun k => spec_l2Ok.l0 k (i : Int) u d ts body) (chk (ts.take i) (ts.drop i) && tailB u d ts body) := by
  obtain ⟨hu, hd, ht, hb, hl1, hl2⟩ := hs
  intro e
  induction e with
  | zero =>
    intro i hi
    rw [List.drop_eq_nil_of_le (by omega), chk, Bool.true_and]
    refine Ev.step (f := fun k => (spec_l1AddrOk.f k u d).bind fun t106 => (if t106 = true then ((spec_l1In.f (ts.length : Int) 1 4).bind fun t107 => (if t107 = true then ((spec_l2BodyOk.f k body).bind fun t108 => (some t108)) else (some false))) else ((spec_l1Null.f u d).bind fun t109 => (if t109 = true then ((spec_l1In.f (ts.length : Int) 1 4).bind fun t110 => (if t110 = true then ((spec_l2BodyOk.f k body).bind fun t111 => (some t111)) else (some false))) else (some false)))))
      (fun k => by rw [spec_l2Ok.l0, if_neg (by omega)]) ?_
    have hA := saddr_tells u d (by omega) (by omega)
    have hB := sbody_tells body (by omega) (fun s h => by have := hb s h; omega)
    have hI : spec_l1In.f (ts.length : Int) 1 4 = some (decide (1 ≤ ts.length ∧ ts.length ≤ 4)) := by
      rw [in_tells]
      exact congrArg some (decide_eq_decide.2 (by omega))
    have hX : Ev (fun k => (spec_l1In.f (ts.length : Int) 1 4).bind fun t107 => (if t107 = true then ((spec_l2BodyOk.f k body).bind fun t108 => (some t108)) else (some false))) (decide (1 ≤ ts.length ∧ ts.length ≤ 4) && bodyB body) := by
      rw [hI]
      cases decide (1 ≤ ts.length ∧ ts.length ≤ 4)
      · exact Ev.now _
      · rw [Bool.true_and]
        exact Ev.congr (fun k => by rw [Option.bind_some, if_pos rfl]) (Ev.call hB (h := fun _ => some (bodyB body)) (fun n => rfl) (Ev.now _))
    unfold tailB
    cases ha : addrB u d
    · rw [ha] at hA
      refine Ev.call hA (fun n => by rw [if_neg (by decide), snull_tells, Option.bind_some]) ?_
      cases hn : nullB u d
      · exact Ev.now _
      · exact hX
    · rw [ha] at hA
      exact Ev.call hA (fun n => by rw [if_pos rfl]) hX
  | succ e ih =>
    intro i hi
    have hlt : i < ts.length := by omega
    rw [List.drop_eq_getElem_cons hlt, chk]
    have hT := ht _ (List.getElem_mem hlt)
    have hA := saddr_tells ts[i].f0 ts[i].f1 (by have := hT.1; omega) (by have := hT.2; omega)
    refine Ev.step (f := fun k => (spec_l1AddrOk.f k ts[i].f0 ts[i].f1).bind fun t103 => (if t103 = true then (spec_l2Ok.l1 k (i : Int) ((0 : Nat) : Int) u d ts body) else (some false)))
      (fun k => by rw [spec_l2Ok.l0, if_pos (by omega), if_pos (by omega), rd_T32_mem _ _ hlt]; rfl) ?_
    cases hg : goodB ts[i]
    · rw [show addrB ts[i].f0 ts[i].f1 = false from hg] at hA
      exact Ev.call hA (h := fun _ => some false) (fun n => by rw [if_neg (by decide)]) (Ev.now _)
    · rw [show addrB ts[i].f0 ts[i].f1 = true from hg] at hA
      refine Ev.call hA (fun n => by rw [if_pos rfl]) ?_
      rw [Bool.true_and]
      have hN := ih (i + 1) (by omega)
      rw [List.take_succ_eq_append_getElem hlt] at hN
      have inner : ∀ (g j : Nat), i = j + g → Ev (fun k => spec_l2Ok.l1 k (i : Int) (j : Int) u d ts body) (((ts.take i).drop j).all (fun b => !sameB b ts[i]) && (chk (ts.take i ++ [ts[i]]) (ts.drop (i + 1)) && tailB u d ts body)) := by
        intro g
        induction g with
        | zero =>
          intro j hj
          rw [List.drop_eq_nil_of_le (by rw [List.length_take]; omega), List.all_nil, Bool.true_and]
          exact Ev.step (f := fun k => spec_l2Ok.l0 k ((i + 1 : Nat) : Int) u d ts body) (fun k => by rw [spec_l2Ok.l1, if_neg (by omega), wrapIn (x := (i : Int) + 1) (by omega) (by omega)]; rfl) hN
        | succ g ihg =>
          intro j hj
          have hj2 : j < ts.length := by omega
          have hj3 : j < (ts.take i).length := by rw [List.length_take]; omega
          rw [List.drop_eq_getElem_cons hj3, List.all_cons, List.getElem_take]
          have hcond : ((((rd_T32 ts (j : Int)).f0).toList) == (((rd_T32 ts (i : Int)).f0).toList) && ((((rd_T32 ts (j : Int)).f1).toList) == (((rd_T32 ts (i : Int)).f1).toList))) = sameB ts[j] ts[i] := by
            rw [rd_T32_mem _ _ hlt, rd_T32_mem _ _ hj2, toL, toL, toL, toL]
            rfl
          refine Ev.step (f := fun k => if sameB ts[j] ts[i] = true then some false else spec_l2Ok.l1 k (i : Int) ((j + 1 : Nat) : Int) u d ts body) (fun k => by
            rw [spec_l2Ok.l1, if_pos (by omega), if_pos (by omega), if_pos (by omega), if_pos (by omega), if_pos (by omega), hcond, wrapIn (x := (j : Int) + 1) (by omega) (by omega)]
            rfl) ?_
          cases hsm : sameB ts[j] ts[i]
          · refine Ev.congr (fun k => if_neg (by decide)) ?_
            exact ihg (j + 1) (by omega)
          · exact Ev.congr (f := fun _ => some false) (fun k => if_pos rfl) (Ev.now _)
      have h0 := inner i 0 (by omega)
      rw [List.drop_zero] at h0
      rw [Bool.and_assoc]
      exact h0
theorem smail_tells (u d : ByteArray) (ts : List S32) (body : List ByteArray) (hs : Short u d ts body) : Ev (fun k => spec_l2Ok.f k u d ts body) (mailB u d ts body) := by
  have h := smail_from u d ts body hs ts.length 0 (by omega)
  rw [List.take_zero, List.drop_zero, chk_start] at h
  have e : (ts.all goodB && apartB ts && tailB u d ts body) = mailB u d ts body := by
    unfold tailB mailB
    rw [show (ts.all fun a => addrB a.f0 a.f1) = ts.all goodB from rfl]
    cases ts.all goodB <;> cases apartB ts <;> cases addrB u d <;> cases nullB u d <;> cases decide (1 ≤ ts.length ∧ ts.length ≤ 4) <;> cases bodyB body <;> rfl
  rw [e] at h
  exact h
theorem pmail_tells (u d : ByteArray) (ts : List S32) (body : List ByteArray) (hs : Short u d ts body) : impl_MailOk.f u d ts body = some (mailB u d ts body) := by
  obtain ⟨hu, hd, ht, hb, _, _⟩ := hs
  unfold impl_MailOk.f
  rw [if_pos]
  simp only [Bool.and_eq_true, List.all_eq_true]
  exact ⟨⟨⟨decide_eq_true hu, decide_eq_true hd⟩, fun a ha => ⟨decide_eq_true (ht a ha).1, decide_eq_true (ht a ha).2⟩⟩, fun s hs => decide_eq_true (hb s hs)⟩
def bareB (u d : ByteArray) (ts : List S32) (body : List ByteArray) : Bool := nullB u d && (decide (ts.length = 0) && decide (body.length = 0))
def noteB (kind id : Int) (au ad : ByteArray) (now : Int) (u d : ByteArray) (ts : List S32) (body : List ByteArray) : Bool :=
  if kind = 1 then mailB u d ts body && (decide (0 ≤ now ∧ now ≤ 9999) && (decide (id = 0) && nullB au ad))
  else if kind = 2 then bareB u d ts body && (decide (1 ≤ id ∧ id ≤ 999) && (addrB au ad && decide (now = 0)))
  else if kind = 3 then bareB u d ts body && (decide (1 ≤ id ∧ id ≤ 999) && (addrB au ad && decide (0 ≤ now ∧ now ≤ 9999)))
  else false
theorem snote_j (kind id : Int) (au ad : ByteArray) (now : Int) (u d : ByteArray) (ts : List S32) (body : List ByteArray) (hs : Short u d ts body) (hau : au.size ≤ 1073741824) (had : ad.size ≤ 1073741824) :
    Ev (fun k => spec_l6Ok.j0 k (bareB u d ts body) kind id au ad now u d ts body) (noteB kind id au ad now u d ts body) := by
  have hA := saddr_tells au ad (by omega) (by omega)
  have hM := smail_tells u d ts body hs
  unfold noteB
  by_cases k1 : kind = 1
  · rw [if_pos k1]
    refine Ev.step (f := fun k => (if id = 0 then ((spec_l1Null.f au ad).bind fun t103 => (if t103 = true then ((spec_l2Ok.f k u d ts body).bind fun t104 => (if t104 = true then ((spec_l1In.f now 0 9999).bind fun t105 => (some t105)) else (some false))) else (some false))) else (some false))) (fun k => by rw [spec_l6Ok.j0, if_pos k1]) ?_
    by_cases hid : id = 0
    · refine Ev.congr (fun k => by rw [if_pos hid, snull_tells, Option.bind_some]) ?_
      rw [decide_eq_true hid, Bool.true_and]
      cases hn : nullB au ad
      · rw [Bool.and_false, Bool.and_false]
        exact Ev.congr (f := fun _ => some false) (fun k => if_neg (by decide)) (Ev.now _)
      · refine Ev.congr (fun k => if_pos rfl) ?_
        rw [Bool.and_true]
        cases hm : mailB u d ts body
        · rw [hm] at hM
          exact Ev.call hM (h := fun _ => some false) (fun n => if_neg (by decide)) (Ev.now _)
        · rw [hm] at hM
          refine Ev.call hM (h := fun _ => some (decide (0 ≤ now ∧ now ≤ 9999))) (fun n => by rw [if_pos rfl, in_tells]; rfl) (by rw [Bool.true_and]; exact Ev.now _)
    · rw [decide_eq_false hid, Bool.false_and, Bool.and_false, Bool.and_false]
      exact Ev.congr (f := fun _ => some false) (fun k => if_neg hid) (Ev.now _)
  rw [if_neg k1]
  have three : ∀ (x : Nat → Option Bool) (y : Bool), Ev x y → Ev (fun k => if bareB u d ts body = true then ((spec_l1In.f id 1 999).bind fun t106 => (if t106 = true then ((spec_l1AddrOk.f k au ad).bind fun t107 => (if t107 = true then x k else (some false))) else (some false))) else (some false)) (bareB u d ts body && (decide (1 ≤ id ∧ id ≤ 999) && (addrB au ad && y))) := by
    intro x y hx
    cases bareB u d ts body
    · exact Ev.congr (f := fun _ => some false) (fun k => if_neg (by decide)) (Ev.now _)
    · refine Ev.congr (fun k => by rw [if_pos rfl, in_tells, Option.bind_some]) ?_
      rw [Bool.true_and]
      cases decide (1 ≤ id ∧ id ≤ 999)
      · exact Ev.congr (f := fun _ => some false) (fun k => if_neg (by decide)) (Ev.now _)
      · refine Ev.congr (fun k => if_pos rfl) ?_
        rw [Bool.true_and]
        cases ha : addrB au ad
        · rw [ha] at hA
          exact Ev.call hA (h := fun _ => some false) (fun n => if_neg (by decide)) (Ev.now _)
        · rw [ha] at hA
          rw [Bool.true_and]
          exact Ev.call hA (fun n => if_pos rfl) hx
  by_cases k2 : kind = 2
  · rw [if_pos k2]
    have h := three (fun _ => some (now == 0)) (decide (now = 0)) (Ev.now _)
    exact Ev.step (fun k => by rw [spec_l6Ok.j0, if_neg k1, if_pos k2]) h
  rw [if_neg k2]
  by_cases k3 : kind = 3
  · rw [if_pos k3]
    have h := three (fun _ => (spec_l1In.f now 0 9999).bind fun t110 => (some t110)) (decide (0 ≤ now ∧ now ≤ 9999)) (Ev.congr (f := fun _ => some (decide (0 ≤ now ∧ now ≤ 9999))) (fun k => by rw [in_tells]; rfl) (Ev.now _))
    exact Ev.step (fun k => by rw [spec_l6Ok.j0, if_neg k1, if_neg k2, if_pos k3]) h
  rw [if_neg k3]
  exact Ev.step (f := fun _ => some false) (fun k => by rw [spec_l6Ok.j0, if_neg k1, if_neg k2, if_neg k3]) (Ev.now _)
theorem snote_tells (kind id : Int) (au ad : ByteArray) (now : Int) (u d : ByteArray) (ts : List S32) (body : List ByteArray) (hs : Short u d ts body) (hau : au.size ≤ 1073741824) (had : ad.size ≤ 1073741824) :
    Ev (fun k => spec_l6Ok.f k kind id au ad now u d ts body) (noteB kind id au ad now u d ts body) := by
  have h := snote_j kind id au ad now u d ts body hs hau had
  refine Ev.congr (fun k => ?_) h
  unfold spec_l6Ok.f bareB
  rw [snull_tells, Option.bind_some]
  cases nullB u d
  · rw [if_neg (by decide)]
    rfl
  · rw [if_pos rfl, Bool.true_and]
    by_cases h1 : (ts.length : Int) = 0
    · rw [if_pos h1, decide_eq_true (p := ts.length = 0) (by omega), Bool.true_and]
      have : ((body.length : Int) == 0) = decide (body.length = 0) := by
        rw [Bool.eq_iff_iff]
        simp
      rw [this]
    · rw [if_neg h1, decide_eq_false (p := ts.length = 0) (by omega), Bool.false_and]
theorem pnote_tells (kind id : Int) (au ad : ByteArray) (now : Int) (u d : ByteArray) (ts : List S32) (body : List ByteArray) (hs : Short u d ts body) (had : ad.size ≤ 1073741824) :
    Ev (fun k => impl_NoteOk.f k kind id au ad now u d ts body) (noteB kind id au ad now u d ts body) := by
  have hA : Ev (fun k => impl_AddrOk.f k au ad) (addrB au ad) := Ev.exact (ad.size + 2) fun k hk => addr_tells au ad had k hk
  have hE : impl_Mail_empty.f u d ts body = some (bareB u d ts body) := by
    unfold impl_Mail_empty.f impl_Addr_null.f bareB
    rw [Option.bind_some]
    show (if nullB u d = true then _ else _) = _
    cases nullB u d
    · rw [if_neg (by decide)]; rfl
    · rw [if_pos rfl, Bool.true_and]
      by_cases h1 : (ts.length : Int) = 0
      · rw [if_pos h1, decide_eq_true (p := ts.length = 0) (by omega), Bool.true_and]
        congr 1
        rw [Bool.eq_iff_iff]
        simp
      · rw [if_neg h1, decide_eq_false (p := ts.length = 0) (by omega)]
        rfl
  have hT : impl_isTime.f now = some (decide (0 ≤ now ∧ now ≤ 9999)) := by
    unfold impl_isTime.f
    rw [within_tells]
    rfl
  have hj : ∀ x : Bool, x = (decide (1 ≤ id ∧ id ≤ 999) && (addrB au ad && bareB u d ts body)) → Ev (fun k => impl_NoteOk.j0 k x kind id au ad now u d ts body) (noteB kind id au ad now u d ts body) := by
    intro x hx
    refine Ev.step (f := fun _ => some (noteB kind id au ad now u d ts body)) (fun k => ?_) (Ev.now _)
    rw [impl_NoteOk.j0]
    unfold noteB
    by_cases k1 : kind = 1
    · rw [if_pos k1, if_pos k1, pmail_tells u d ts body hs, Option.bind_some, hT]
      cases mailB u d ts body
      · rfl
      · rw [if_pos rfl, Option.bind_some]
        cases decide (0 ≤ now ∧ now ≤ 9999)
        · rfl
        · rw [if_pos rfl]
          by_cases hid : id = 0
          · rw [if_pos hid, decide_eq_true hid]; rfl
          · rw [if_neg hid, decide_eq_false hid]; rfl
    rw [if_neg k1, if_neg k1]
    by_cases k2 : kind = 2
    · rw [if_pos k2, if_pos k2, hx]
      have e : (now == 0) = decide (now = 0) := rfl
      rw [e]
      cases decide (1 ≤ id ∧ id ≤ 999) <;> cases addrB au ad <;> cases bareB u d ts body <;> rfl
    rw [if_neg k2, if_neg k2]
    by_cases k3 : kind = 3
    · rw [if_pos k3, if_pos k3, hx, hT]
      cases decide (1 ≤ id ∧ id ≤ 999) <;> cases addrB au ad <;> cases bareB u d ts body <;> rfl
    rw [if_neg k3, if_neg k3]
  unfold impl_NoteOk.f
  refine Ev.congr (fun k => by rw [within_tells, Option.bind_some]) ?_
  cases h1 : decide (1 ≤ id ∧ id ≤ 999)
  · exact Ev.congr (fun k => if_neg (by decide)) (hj false (by rw [h1]; rfl))
  · refine Ev.congr (fun k => if_pos rfl) ?_
    cases h2 : addrB au ad
    · rw [h2] at hA
      exact Ev.call hA (fun n => if_neg (by decide)) (hj false (by rw [h1, h2]; rfl))
    · rw [h2] at hA
      exact Ev.call hA (fun n => by rw [if_pos rfl, hE, Option.bind_some]) (hj _ (by rw [h1, h2]; rfl))
end Go.Proofs.YtbncnjgflhoneaaGreatDoor.Hand
