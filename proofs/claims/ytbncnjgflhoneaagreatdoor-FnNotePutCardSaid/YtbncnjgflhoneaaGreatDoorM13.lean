/- Of this claim, merged by program: F23, F35, F37, F13, Q3, F59, F103, F61, F60. -/
import Derived.Test.YtbncnjgflhoneaaGreatDoorM02
import Derived.Test.YtbncnjgflhoneaaGreatDoorM03
import Derived.Test.YtbncnjgflhoneaaGreatDoorM05
import Derived.Test.YtbncnjgflhoneaaGreatDoorM12
namespace Go.Proofs.YtbncnjgflhoneaaGreatDoor.F
open Go.RowKit Go.Proofs.YtbncnjgflhoneaaGreatDoor.Hand Go.Proofs.YtbncnjgflhoneaaGreatDoorW.PrintWords Go.Proofs.YtbncnjgflhoneaaGreatDoorW.PrintLast Go.Proofs.YtbncnjgflhoneaaGreatDoorW.PrintMore
set_option linter.unusedVariables false
set_option linter.unusedSimpArgs false
def spec_l6Ok.j0 : Nat → Bool → Int → Int → ByteArray → ByteArray → Int → ByteArray → ByteArray → List (S32) → List ByteArray → Option (Bool)
 | 0, _, _, _, _, _, _, _, _, _, _ => none
 | k + 1, x3, x102000, x102001, x102002, x102003, x102004, x102005, x102006, x102007, x102008 => if x102000 = 1 then (if x102001 = 0 then ((spec_l1Null.f x102002 x102003).bind fun t103 => (if t103 = true then ((spec_l2Ok.f k x102005 x102006 x102007 x102008).bind fun t104 => (if t104 = true then ((spec_l1In.f x102004 0 9999).bind fun t105 => (some t105)) else (some false))) else (some false))) else (some false)) else (if x102000 = 2 then (if x3 = true then ((spec_l1In.f x102001 1 999).bind fun t106 => (if t106 = true then ((spec_l1AddrOk.f k x102002 x102003).bind fun t107 => (if t107 = true then (some (x102004 == 0)) else (some false))) else (some false))) else (some false)) else (if x102000 = 3 then (if x3 = true then ((spec_l1In.f x102001 1 999).bind fun t108 => (if t108 = true then ((spec_l1AddrOk.f k x102002 x102003).bind fun t109 => (if t109 = true then ((spec_l1In.f x102004 0 9999).bind fun t110 => (some t110)) else (some false))) else (some false))) else (some false)) else (some false)))
def spec_l6Ok.f (k : Nat) (a0_0 : Int) (a0_1 : Int) (a0_2 : ByteArray) (a0_3 : ByteArray) (a0_4 : Int) (a0_5 : ByteArray) (a0_6 : ByteArray) (l0_7 : List (S32)) (l0_8 : List ByteArray) : Option (Bool) := (spec_l1Null.f a0_5 a0_6).bind fun t102 => (if t102 = true then (if (l0_7.length : Int) = 0 then (spec_l6Ok.j0 k ((l0_8.length : Int) == 0) a0_0 a0_1 a0_2 a0_3 a0_4 a0_5 a0_6 l0_7 l0_8) else (spec_l6Ok.j0 k false a0_0 a0_1 a0_2 a0_3 a0_4 a0_5 a0_6 l0_7 l0_8)) else (spec_l6Ok.j0 k false a0_0 a0_1 a0_2 a0_3 a0_4 a0_5 a0_6 l0_7 l0_8))
set_option maxHeartbeats 8000000 in
set_option maxRecDepth 100000 in
theorem spec_l6Ok.calls (k : Nat) (a0_0 : Int) (a0_1 : Int) (a0_2 : ByteArray) (a0_3 : ByteArray) (a0_4 : Int) (a0_5 : ByteArray) (a0_6 : ByteArray) (A0_7 : Option Addr) (c0_7 : Nat) (l0_7 : List (S32)) (A0_8 : Option Addr) (c0_8 : Nat) (l0_8 : List ByteArray) (r : Bool) (w : World) (hr0_7 : Kd.C k32 w A0_7 l0_7.length l0_7) (hc0_7 : l0_7.length ≤ c0_7) (hr0_8 : Kd.C Kd.string w A0_8 l0_8.length l0_8) (hc0_8 : l0_8.length ≤ c0_8) (h : spec_l6Ok.f k a0_0 a0_1 a0_2 a0_3 a0_4 a0_5 a0_6 l0_7 l0_8 = some r) :
  Calls Tryz.prog 23 #[.agg #[.int .i64 a0_0, .int .i64 a0_1, .string a0_2, .string a0_3, .int .i64 a0_4, .string a0_5, .string a0_6, .slice A0_7 l0_7.length c0_7, .slice A0_8 l0_8.length c0_8]] w fun e w' => e = .returned (.bool r) ∧ Below w.heap.size w w' := by
 have hu37 := Tryz.underlying37
 have hu32 := Tryz.underlying32
 have hu35 := Tryz.underlying35
 have HR0_7 := Aside0.mk hr0_7
 have HC0_7 := Aside0.mk hc0_7
 clear hr0_7 hc0_7
 have HR0_8 := Aside0.mk hr0_8
 have HC0_8 := Aside0.mk hc0_8
 clear hr0_8 hc0_8
 have HB := Aside0.mk (Below.refl w.heap.size w)
 have H := h
 clear h
 unfold spec_l6Ok.f at H
 have HC2 := Aside0.mk H
 clear H
 go_enter Tryz.func23, Tryz.ntmps23
 go_upto_region 1 with (first | ((with_reducible refine gate_dst (N := 1) rfl ?_); (try (refine gate_guard (by rfl) ?_; dsimp only)); refine bx (cs := #[.int .i64 a0_0, .int .i64 a0_1, .string a0_2, .string a0_3, .int .i64 a0_4, .string a0_5, .string a0_6, .slice A0_7 l0_7.length c0_7, .slice A0_8 l0_8.length c0_8]) (t := 37) ?_; intro gb101 hg w3 hbox hb; have BK101 := Aside0.mk (hbox); have GW101 := gS hg; have GE101 := gS hg; replace HB := bS hb; clear hb hbox hg))
 (try simp only [Act.put, List.setIfInBounds_toArray, List.set_cons_zero, List.set_cons_succ])
 go_cut [3] (fun v3 wc => ∃ (kq : Nat) (x3_1 : Bool), v3 = .bool x3_1 ∧ Aside0 (spec_l6Ok.j0 kq x3_1 a0_0 a0_1 a0_2 a0_3 a0_4 a0_5 a0_6 l0_7 l0_8 = some r) ∧ Aside0 (kq ≤ k) ∧ Aside0 (wc.heap[gb101]? = some (.cells #[.int .i64 a0_0, .int .i64 a0_1, .string a0_2, .string a0_3, .int .i64 a0_4, .string a0_5, .string a0_6, (.slice A0_7 l0_7.length c0_7), (.slice A0_8 l0_8.length c0_8)] 37 (0, 0))) ∧ Aside0 (Below w.heap.size w wc))
 case first =>
  have H := HC2.out
  clear HC2
  replace H := bnd H; obtain ⟨t102, A4, H⟩ := H
  replace H := itb H; rcases H with ⟨rfl, H⟩ | ⟨rfl, H⟩
  ·replace H := its_qn_cqn H; rcases H with ⟨c6b0, c6b1, H⟩ | ⟨c6, c6b0, c6b1, H⟩
   ·(first | rw [c6b0] | (simp only [i64_w, i32_w]; rw [c6b0]) | skip)
    have H' := Aside0.mk H
    clear H
    have hcz7 := cz9 BK101.out
    have hfz7 := fz9 BK101.out
    go_wp2_with (first | ((with_reducible refine gate_callee (f := 55) rfl ?_); refine gv 7 Tryz.func55 _ (spec_l1Null.calls (w := _) (h := A4.out)) ?_; intro w8 hb; replace BK101 := kS BK101 hb; replace HB := bS hb; clear hb; have hcz9 := cz9 BK101.out; have hfz9 := fz9 BK101.out))
    go_meet
    case rel => exact ⟨_, (((l0_8.length : Int) == 0)), zs, H', ⟨by first | omega | exact Nat.le_refl _⟩, ⟨kQ BK101⟩, ⟨zB⟩⟩
   ·have c6b2 : ¬ (l0_7 = []) := fun h_ => c6 (by rw [h_]; rfl)
    (first | rw [c6b0] | (simp only [i64_w, i32_w]; rw [c6b0]) | skip)
    have H' := Aside0.mk H
    clear H
    have hcz10 := cz9 BK101.out
    have hfz10 := fz9 BK101.out
    go_wp2_with (first | ((with_reducible refine gate_callee (f := 55) rfl ?_); refine gv 7 Tryz.func55 _ (spec_l1Null.calls (w := _) (h := A4.out)) ?_; intro w11 hb; replace BK101 := kS BK101 hb; replace HB := bS hb; clear hb; have hcz12 := cz9 BK101.out; have hfz12 := fz9 BK101.out))
    go_meet
    case rel => exact ⟨_, (false), zs, H', ⟨by first | omega | exact Nat.le_refl _⟩, ⟨kQ BK101⟩, ⟨zB⟩⟩
  ·have H' := Aside0.mk H
   clear H
   have hcz13 := cz9 BK101.out
   have hfz13 := fz9 BK101.out
   go_wp2_with (first | ((with_reducible refine gate_callee (f := 55) rfl ?_); refine gv 7 Tryz.func55 _ (spec_l1Null.calls (w := _) (h := A4.out)) ?_; intro w14 hb; replace BK101 := kS BK101 hb; replace HB := bS hb; clear hb))
   go_meet
   case rel => exact ⟨_, (false), zs, H', ⟨by first | omega | exact Nat.le_refl _⟩, ⟨kQ BK101⟩, ⟨zB⟩⟩
 case rest =>
  clear HC2
  obtain ⟨kq, x3_1, rfl, HA, HJ1, BK101, HB⟩ := hcut
  cases kq with
  | zero => exact absurd HA.out (by simp [spec_l6Ok.j0])
  | succ kj1 =>
   have H := HA.out
   clear HA
   simp only [spec_l6Ok.j0] at H
   replace H := its_qn_qn H; rcases H with ⟨c15b0, c15b1, H⟩ | ⟨c15b0, c15b1, H⟩
   ·replace H := its_qn_qn H; rcases H with ⟨c16b0, c16b1, H⟩ | ⟨c16b0, c16b1, H⟩
    ·replace H := bnd H; obtain ⟨t103, A17, H⟩ := H
     replace H := itb H; rcases H with ⟨rfl, H⟩ | ⟨rfl, H⟩
     ·replace H := bnd H; obtain ⟨t104, A19, H⟩ := H
      replace H := itb H; rcases H with ⟨rfl, H⟩ | ⟨rfl, H⟩
      ·replace H := bnd H; obtain ⟨t105, A21, H⟩ := H
       obtain rfl := Option.some.inj H
       have hcz22 := cz9 BK101.out
       have hfz22 := fz9 BK101.out
       go_wp2_with (first | (go_at_call 55; with_reducible refine (spec_l1Null.calls (w := _) (h := A17.out)).mono ?_; rintro e w23 ⟨rfl, hb⟩; replace BK101 := kS BK101 hb; replace HB := bS hb; clear hb; have hcz24 := cz9 BK101.out; have hfz24 := fz9 BK101.out) | (go_at_call 56; refine (spec_l2Ok.calls (w := _) (hr0_2 := cB HR0_7) (hc0_2 := HC0_7.out) (hr0_3 := cB HR0_8) (hc0_3 := HC0_8.out) (h := A19.out)).mono ?_; rintro e w25 ⟨rfl, hb⟩; replace BK101 := kS BK101 hb; replace HB := bS hb; clear hb; have hcz26 := cz9 BK101.out; have hfz26 := fz9 BK101.out) | (go_at_call 57; with_reducible refine (spec_l1In.calls (w := _) (h := A21.out)).mono ?_; rintro e w' ⟨rfl, ⟨nd, rfl⟩⟩))
       go_ret
       exact ⟨zr, zB⟩
      ·obtain rfl := Option.some.inj H
       have hcz27 := cz9 BK101.out
       have hfz27 := fz9 BK101.out
       go_wp2_with (first | (go_at_call 55; with_reducible refine (spec_l1Null.calls (w := _) (h := A17.out)).mono ?_; rintro e w28 ⟨rfl, hb⟩; replace BK101 := kS BK101 hb; replace HB := bS hb; clear hb; have hcz29 := cz9 BK101.out; have hfz29 := fz9 BK101.out) | (go_at_call 56; refine (spec_l2Ok.calls (w := _) (hr0_2 := cB HR0_7) (hc0_2 := HC0_7.out) (hr0_3 := cB HR0_8) (hc0_3 := HC0_8.out) (h := A19.out)).mono ?_; rintro e w30 ⟨rfl, hb⟩; replace BK101 := kS BK101 hb; replace HB := bS hb; clear hb))
       go_ret
       exact ⟨zr, zB⟩
     ·obtain rfl := Option.some.inj H
      have hcz31 := cz9 BK101.out
      have hfz31 := fz9 BK101.out
      go_wp2_with (first | (go_at_call 55; with_reducible refine (spec_l1Null.calls (w := _) (h := A17.out)).mono ?_; rintro e w32 ⟨rfl, hb⟩; replace BK101 := kS BK101 hb; replace HB := bS hb; clear hb))
      go_ret
      exact ⟨zr, zB⟩
    ·obtain rfl := Option.some.inj H
     have hcz33 := cz9 BK101.out
     have hfz33 := fz9 BK101.out
     go_wp2
     go_ret
     exact ⟨zr, zB⟩
   ·replace H := its_qn_qn H; rcases H with ⟨c34b0, c34b1, H⟩ | ⟨c34b0, c34b1, H⟩
    ·replace H := itb H; rcases H with ⟨rfl, H⟩ | ⟨rfl, H⟩
     ·replace H := bnd H; obtain ⟨t106, A36, H⟩ := H
      replace H := itb H; rcases H with ⟨rfl, H⟩ | ⟨rfl, H⟩
      ·replace H := bnd H; obtain ⟨t107, A38, H⟩ := H
       replace H := itb H; rcases H with ⟨rfl, H⟩ | ⟨rfl, H⟩
       ·obtain rfl := Option.some.inj H
        have hcz40 := cz9 BK101.out
        have hfz40 := fz9 BK101.out
        go_wp2_with (first | (go_at_call 57; with_reducible refine (spec_l1In.calls (w := _) (h := A36.out)).mono ?_; rintro e w' ⟨rfl, ⟨nd, rfl⟩⟩) | (go_at_call 58; with_reducible refine (spec_l1AddrOk.calls (w := _) (h := A38.out)).mono ?_; rintro e w41 ⟨rfl, hb⟩; replace BK101 := kS BK101 hb; replace HB := bS hb; clear hb; have hcz42 := cz9 BK101.out; have hfz42 := fz9 BK101.out))
        go_ret
        exact ⟨zr, zB⟩
       ·obtain rfl := Option.some.inj H
        have hcz43 := cz9 BK101.out
        have hfz43 := fz9 BK101.out
        go_wp2_with (first | (go_at_call 57; with_reducible refine (spec_l1In.calls (w := _) (h := A36.out)).mono ?_; rintro e w' ⟨rfl, ⟨nd, rfl⟩⟩) | (go_at_call 58; with_reducible refine (spec_l1AddrOk.calls (w := _) (h := A38.out)).mono ?_; rintro e w44 ⟨rfl, hb⟩; replace BK101 := kS BK101 hb; replace HB := bS hb; clear hb))
        go_ret
        exact ⟨zr, zB⟩
      ·obtain rfl := Option.some.inj H
       have hcz45 := cz9 BK101.out
       have hfz45 := fz9 BK101.out
       go_wp2_with (first | (go_at_call 57; with_reducible refine (spec_l1In.calls (w := _) (h := A36.out)).mono ?_; rintro e w' ⟨rfl, ⟨nd, rfl⟩⟩))
       go_ret
       exact ⟨zr, zB⟩
     ·obtain rfl := Option.some.inj H
      have hcz46 := cz9 BK101.out
      have hfz46 := fz9 BK101.out
      go_wp2
      go_ret
      exact ⟨zr, zB⟩
    ·replace H := its_qn_qn H; rcases H with ⟨c47b0, c47b1, H⟩ | ⟨c47b0, c47b1, H⟩
     ·replace H := itb H; rcases H with ⟨rfl, H⟩ | ⟨rfl, H⟩
      ·replace H := bnd H; obtain ⟨t108, A49, H⟩ := H
       replace H := itb H; rcases H with ⟨rfl, H⟩ | ⟨rfl, H⟩
       ·replace H := bnd H; obtain ⟨t109, A51, H⟩ := H
        replace H := itb H; rcases H with ⟨rfl, H⟩ | ⟨rfl, H⟩
        ·replace H := bnd H; obtain ⟨t110, A53, H⟩ := H
         obtain rfl := Option.some.inj H
         have hcz54 := cz9 BK101.out
         have hfz54 := fz9 BK101.out
         go_wp2_with (first | (go_at_call 57; with_reducible refine (spec_l1In.calls (w := _) (h := A49.out)).mono ?_; rintro e w' ⟨rfl, ⟨nd, rfl⟩⟩) | (go_at_call 58; with_reducible refine (spec_l1AddrOk.calls (w := _) (h := A51.out)).mono ?_; rintro e w55 ⟨rfl, hb⟩; replace BK101 := kS BK101 hb; replace HB := bS hb; clear hb; have hcz56 := cz9 BK101.out; have hfz56 := fz9 BK101.out) | (go_at_call 57; with_reducible refine (spec_l1In.calls (w := _) (h := A53.out)).mono ?_; rintro e w' ⟨rfl, ⟨nd, rfl⟩⟩))
         go_ret
         exact ⟨zr, zB⟩
        ·obtain rfl := Option.some.inj H
         have hcz57 := cz9 BK101.out
         have hfz57 := fz9 BK101.out
         go_wp2_with (first | (go_at_call 57; with_reducible refine (spec_l1In.calls (w := _) (h := A49.out)).mono ?_; rintro e w' ⟨rfl, ⟨nd, rfl⟩⟩) | (go_at_call 58; with_reducible refine (spec_l1AddrOk.calls (w := _) (h := A51.out)).mono ?_; rintro e w58 ⟨rfl, hb⟩; replace BK101 := kS BK101 hb; replace HB := bS hb; clear hb))
         go_ret
         exact ⟨zr, zB⟩
       ·obtain rfl := Option.some.inj H
        have hcz59 := cz9 BK101.out
        have hfz59 := fz9 BK101.out
        go_wp2_with (first | (go_at_call 57; with_reducible refine (spec_l1In.calls (w := _) (h := A49.out)).mono ?_; rintro e w' ⟨rfl, ⟨nd, rfl⟩⟩))
        go_ret
        exact ⟨zr, zB⟩
      ·obtain rfl := Option.some.inj H
       have hcz60 := cz9 BK101.out
       have hfz60 := fz9 BK101.out
       go_wp2
       go_ret
       exact ⟨zr, zB⟩
     ·obtain rfl := Option.some.inj H
      have hcz61 := cz9 BK101.out
      have hfz61 := fz9 BK101.out
      go_wp2
      go_ret
      exact ⟨zr, zB⟩
def impl_Mail_empty.f (a0_0 : ByteArray) (a0_1 : ByteArray) (l0_2 : List (S32)) (l0_3 : List ByteArray) : Option (Bool) := (impl_Addr_null.f a0_0 a0_1).bind fun t102 => (if t102 = true then (if (l0_2.length : Int) = 0 then (some ((l0_3.length : Int) == 0)) else (some false)) else (some false))
set_option maxHeartbeats 8000000 in
set_option maxRecDepth 100000 in
theorem impl_Mail_empty.calls (a0_0 : ByteArray) (a0_1 : ByteArray) (A0_2 : Option Addr) (c0_2 : Nat) (l0_2 : List (S32)) (A0_3 : Option Addr) (c0_3 : Nat) (l0_3 : List ByteArray) (r : Bool) (w : World) (hr0_2 : Kd.C k32 w A0_2 l0_2.length l0_2) (hc0_2 : l0_2.length ≤ c0_2) (hr0_3 : Kd.C Kd.string w A0_3 l0_3.length l0_3) (hc0_3 : l0_3.length ≤ c0_3) (h : impl_Mail_empty.f a0_0 a0_1 l0_2 l0_3 = some r) :
  Calls Tryz.prog 35 #[.agg #[.string a0_0, .string a0_1, .slice A0_2 l0_2.length c0_2, .slice A0_3 l0_3.length c0_3]] w fun e w' => e = .returned (.bool r) ∧ Below w.heap.size w w' := by
 have hu35 := Tryz.underlying35
 have hu32 := Tryz.underlying32
 have HR0_2 := Aside0.mk hr0_2
 have HC0_2 := Aside0.mk hc0_2
 clear hr0_2 hc0_2
 have HR0_3 := Aside0.mk hr0_3
 have HC0_3 := Aside0.mk hc0_3
 clear hr0_3 hc0_3
 have HB := Aside0.mk (Below.refl w.heap.size w)
 have H := h
 clear h
 unfold impl_Mail_empty.f at H
 replace H := bnd H; obtain ⟨t102, A2, H⟩ := H
 replace H := itb H; rcases H with ⟨rfl, H⟩ | ⟨rfl, H⟩
 ·replace H := its_qn_cqn H; rcases H with ⟨c4b0, c4b1, H⟩ | ⟨c4, c4b0, c4b1, H⟩
  ·obtain rfl := Option.some.inj H
   go_enter Tryz.func35, Tryz.ntmps35
   go_wp2_with (first | ((with_reducible refine gate_dst (N := 1) rfl ?_); (try (refine gate_guard (by rfl) ?_; dsimp only)); refine bx (cs := #[.string a0_0, .string a0_1, .slice A0_2 l0_2.length c0_2, .slice A0_3 l0_3.length c0_3]) (t := 35) ?_; intro gb101 hg w5 hbox hb; have BK101 := Aside0.mk (hbox); have GW101 := gS hg; have GE101 := gS hg; replace HB := bS hb; clear hb hbox hg; have hcz6 := cz4 BK101.out; have hfz6 := fz4 BK101.out) | ((with_reducible refine gate_callee (f := 38) rfl ?_); refine gv 5 Tryz.func38 _ (impl_Addr_null.calls (w := _) (h := A2.out)) ?_; intro w7 hb; replace BK101 := kS BK101 hb; replace HB := bS hb; clear hb; have hcz8 := cz4 BK101.out; have hfz8 := fz4 BK101.out))
   go_ret
   exact ⟨zr, zB⟩
  ·have c4b2 : ¬ (l0_2 = []) := fun h_ => c4 (by rw [h_]; rfl)
   obtain rfl := Option.some.inj H
   go_enter Tryz.func35, Tryz.ntmps35
   go_wp2_with (first | ((with_reducible refine gate_dst (N := 1) rfl ?_); (try (refine gate_guard (by rfl) ?_; dsimp only)); refine bx (cs := #[.string a0_0, .string a0_1, .slice A0_2 l0_2.length c0_2, .slice A0_3 l0_3.length c0_3]) (t := 35) ?_; intro gb101 hg w9 hbox hb; have BK101 := Aside0.mk (hbox); have GW101 := gS hg; have GE101 := gS hg; replace HB := bS hb; clear hb hbox hg; have hcz10 := cz4 BK101.out; have hfz10 := fz4 BK101.out) | ((with_reducible refine gate_callee (f := 38) rfl ?_); refine gv 5 Tryz.func38 _ (impl_Addr_null.calls (w := _) (h := A2.out)) ?_; intro w11 hb; replace BK101 := kS BK101 hb; replace HB := bS hb; clear hb; have hcz12 := cz4 BK101.out; have hfz12 := fz4 BK101.out))
   go_ret
   exact ⟨zr, zB⟩
 ·obtain rfl := Option.some.inj H
  go_enter Tryz.func35, Tryz.ntmps35
  go_wp2_with (first | ((with_reducible refine gate_dst (N := 1) rfl ?_); (try (refine gate_guard (by rfl) ?_; dsimp only)); refine bx (cs := #[.string a0_0, .string a0_1, .slice A0_2 l0_2.length c0_2, .slice A0_3 l0_3.length c0_3]) (t := 35) ?_; intro gb101 hg w13 hbox hb; have BK101 := Aside0.mk (hbox); have GW101 := gS hg; have GE101 := gS hg; replace HB := bS hb; clear hb hbox hg; have hcz14 := cz4 BK101.out; have hfz14 := fz4 BK101.out) | ((with_reducible refine gate_callee (f := 38) rfl ?_); refine gv 5 Tryz.func38 _ (impl_Addr_null.calls (w := _) (h := A2.out)) ?_; intro w15 hb; replace BK101 := kS BK101 hb; replace HB := bS hb; clear hb))
  go_ret
  exact ⟨zr, zB⟩
end Go.Proofs.YtbncnjgflhoneaaGreatDoor.F
namespace Go.Proofs.YtbncnjgflhoneaaGreatDoor.F
open Go.RowKit Go.Proofs.YtbncnjgflhoneaaGreatDoor.Hand Go.Proofs.YtbncnjgflhoneaaGreatDoorW.PrintWords Go.Proofs.YtbncnjgflhoneaaGreatDoorW.PrintLast Go.Proofs.YtbncnjgflhoneaaGreatDoorW.PrintMore
set_option linter.unusedVariables false
set_option linter.unusedSimpArgs false
def impl_isTime.f (a0 : Int) : Option (Bool) := (impl_within.f a0 0 9999).bind fun t101 => (some t101)
set_option maxHeartbeats 8000000 in
set_option maxRecDepth 100000 in
theorem impl_isTime.calls (a0 : Int) (r : Bool) (w : World) (h : impl_isTime.f a0 = some r) :
  Calls Tryz.prog 37 #[.int .i64 a0] w fun e w' => e = .returned (.bool r) ∧ Drawn0 w w' := by
 have H := h
 clear h
 unfold impl_isTime.f at H
 replace H := bnd H; obtain ⟨t101, A2, H⟩ := H
 obtain rfl := Option.some.inj H
 go_enter Tryz.func37, Tryz.ntmps37
 go_wp2_with (first | ((with_reducible refine gate_callee (f := 33) rfl ?_); refine gv 4 Tryz.func33 _ (impl_within.calls (w := _) (h := A2.out)) ?_; rintro w' ⟨nd, rfl⟩))
 go_ret
 exact ⟨zs, zD⟩
def impl_NoteOk.j0 : Nat → Bool → Int → Int → ByteArray → ByteArray → Int → ByteArray → ByteArray → List (S32) → List ByteArray → Option (Bool)
 | 0, _, _, _, _, _, _, _, _, _, _ => none
 | k + 1, x3, x102000, x102001, x102002, x102003, x102004, x102005, x102006, x102007, x102008 => if x102000 = 1 then ((impl_MailOk.f x102005 x102006 x102007 x102008).bind fun t105 => (if t105 = true then ((impl_isTime.f x102004).bind fun t106 => (if t106 = true then (if x102001 = 0 then ((impl_Addr_null.f x102002 x102003).bind fun t107 => (some t107)) else (some false)) else (some false))) else (some false))) else (if x102000 = 2 then (if x3 = true then (some (x102004 == 0)) else (some false)) else (if x102000 = 3 then (if x3 = true then ((impl_isTime.f x102004).bind fun t108 => (some t108)) else (some false)) else (some false)))
def impl_NoteOk.f (k : Nat) (a0_0 : Int) (a0_1 : Int) (a0_2 : ByteArray) (a0_3 : ByteArray) (a0_4 : Int) (a0_5 : ByteArray) (a0_6 : ByteArray) (l0_7 : List (S32)) (l0_8 : List ByteArray) : Option (Bool) := (impl_within.f a0_1 1 999).bind fun t102 => (if t102 = true then ((impl_AddrOk.f k a0_2 a0_3).bind fun t103 => (if t103 = true then ((impl_Mail_empty.f a0_5 a0_6 l0_7 l0_8).bind fun t104 => (impl_NoteOk.j0 k t104 a0_0 a0_1 a0_2 a0_3 a0_4 a0_5 a0_6 l0_7 l0_8)) else (impl_NoteOk.j0 k false a0_0 a0_1 a0_2 a0_3 a0_4 a0_5 a0_6 l0_7 l0_8))) else (impl_NoteOk.j0 k false a0_0 a0_1 a0_2 a0_3 a0_4 a0_5 a0_6 l0_7 l0_8))
set_option maxHeartbeats 8000000 in
set_option maxRecDepth 100000 in
theorem impl_NoteOk.calls (k : Nat) (a0_0 : Int) (a0_1 : Int) (a0_2 : ByteArray) (a0_3 : ByteArray) (a0_4 : Int) (a0_5 : ByteArray) (a0_6 : ByteArray) (A0_7 : Option Addr) (c0_7 : Nat) (l0_7 : List (S32)) (A0_8 : Option Addr) (c0_8 : Nat) (l0_8 : List ByteArray) (r : Bool) (w : World) (hG : Laid w) (hr0_7 : Kd.C k32 w A0_7 l0_7.length l0_7) (hc0_7 : l0_7.length ≤ c0_7) (hr0_8 : Kd.C Kd.string w A0_8 l0_8.length l0_8) (hc0_8 : l0_8.length ≤ c0_8) (h : impl_NoteOk.f k a0_0 a0_1 a0_2 a0_3 a0_4 a0_5 a0_6 l0_7 l0_8 = some r) :
  Calls Tryz.prog 13 #[.agg #[.int .i64 a0_0, .int .i64 a0_1, .string a0_2, .string a0_3, .int .i64 a0_4, .string a0_5, .string a0_6, .slice A0_7 l0_7.length c0_7, .slice A0_8 l0_8.length c0_8]] w fun e w' => e = .returned (.bool r) ∧ Below w.heap.size w w' := by
 have hu37 := Tryz.underlying37
 have hu32 := Tryz.underlying32
 have hu35 := Tryz.underlying35
 have HG := Aside0.mk hG
 clear hG
 have HR0_7 := Aside0.mk hr0_7
 have HC0_7 := Aside0.mk hc0_7
 clear hr0_7 hc0_7
 have HR0_8 := Aside0.mk hr0_8
 have HC0_8 := Aside0.mk hc0_8
 clear hr0_8 hc0_8
 have HB := Aside0.mk (Below.refl w.heap.size w)
 have H := h
 clear h
 unfold impl_NoteOk.f at H
 have HC2 := Aside0.mk H
 clear H
 go_enter Tryz.func13, Tryz.ntmps13
 go_upto_region 1 with (first | ((with_reducible refine gate_dst (N := 1) rfl ?_); refine bx (cs := #[.int .i64 a0_0, .int .i64 a0_1, .string a0_2, .string a0_3, .int .i64 a0_4, .string a0_5, .string a0_6, .slice A0_7 l0_7.length c0_7, .slice A0_8 l0_8.length c0_8]) (t := 37) ?_; intro gb101 hg w3 hbox hb; have BK101 := Aside0.mk (hbox); have GW101 := gS hg; have GE101 := gS hg; replace HB := bS hb; clear hb hbox hg))
 (try simp only [Act.put, List.setIfInBounds_toArray, List.set_cons_zero, List.set_cons_succ])
 go_cut [3] (fun v3 wc => ∃ (kq : Nat) (x3_1 : Bool), v3 = .bool x3_1 ∧ Aside0 (impl_NoteOk.j0 kq x3_1 a0_0 a0_1 a0_2 a0_3 a0_4 a0_5 a0_6 l0_7 l0_8 = some r) ∧ Aside0 (kq ≤ k) ∧ Aside0 (wc.heap[gb101]? = some (.cells #[.int .i64 a0_0, .int .i64 a0_1, .string a0_2, .string a0_3, .int .i64 a0_4, .string a0_5, .string a0_6, (.slice A0_7 l0_7.length c0_7), (.slice A0_8 l0_8.length c0_8)] 37 (0, 0))) ∧ Aside0 (Below w.heap.size w wc))
 case first =>
  have H := HC2.out
  clear HC2
  replace H := bnd H; obtain ⟨t102, A4, H⟩ := H
  replace H := itb H; rcases H with ⟨rfl, H⟩ | ⟨rfl, H⟩
  ·replace H := bnd H; obtain ⟨t103, A6, H⟩ := H
   replace H := itb H; rcases H with ⟨rfl, H⟩ | ⟨rfl, H⟩
   ·replace H := bnd H; obtain ⟨t104, A8, H⟩ := H
    have H' := Aside0.mk H
    clear H
    have hcz9 := cz9 BK101.out
    have hfz9 := fz9 BK101.out
    go_wp2_with (first | ((with_reducible refine gate_callee (f := 33) rfl ?_); refine gv 6 Tryz.func33 _ (impl_within.calls (w := _) (h := A4.out)) ?_; rintro w' ⟨nd, rfl⟩) | (go_at_call 34; refine (impl_AddrOk.calls (w := _) (hG := gB) (h := A6.out)).mono ?_; rintro e w10 ⟨rfl, hb⟩; replace BK101 := kS BK101 hb; replace HB := bS hb; clear hb; have hcz11 := cz9 BK101.out; have hfz11 := fz9 BK101.out) | (go_at_call 35; refine (impl_Mail_empty.calls (w := _) (hr0_2 := cB HR0_7) (hc0_2 := HC0_7.out) (hr0_3 := cB HR0_8) (hc0_3 := HC0_8.out) (h := A8.out)).mono ?_; rintro e w12 ⟨rfl, hb⟩; replace BK101 := kS BK101 hb; replace HB := bS hb; clear hb))
    go_meet
    case rel => exact ⟨_, (t104), zs, H', ⟨by first | omega | exact Nat.le_refl _⟩, ⟨kQ BK101⟩, ⟨zB⟩⟩
   ·have H' := Aside0.mk H
    clear H
    have hcz13 := cz9 BK101.out
    have hfz13 := fz9 BK101.out
    go_wp2_with (first | ((with_reducible refine gate_callee (f := 33) rfl ?_); refine gv 6 Tryz.func33 _ (impl_within.calls (w := _) (h := A4.out)) ?_; rintro w' ⟨nd, rfl⟩) | (go_at_call 34; refine (impl_AddrOk.calls (w := _) (hG := gB) (h := A6.out)).mono ?_; rintro e w14 ⟨rfl, hb⟩; replace BK101 := kS BK101 hb; replace HB := bS hb; clear hb))
    go_meet
    case rel => exact ⟨_, (false), zs, H', ⟨by first | omega | exact Nat.le_refl _⟩, ⟨kQ BK101⟩, ⟨zB⟩⟩
  ·have H' := Aside0.mk H
   clear H
   have hcz15 := cz9 BK101.out
   have hfz15 := fz9 BK101.out
   go_wp2_with (first | ((with_reducible refine gate_callee (f := 33) rfl ?_); refine gv 6 Tryz.func33 _ (impl_within.calls (w := _) (h := A4.out)) ?_; rintro w' ⟨nd, rfl⟩))
   go_meet
   case rel => exact ⟨_, (false), zs, H', ⟨by first | omega | exact Nat.le_refl _⟩, ⟨kQ BK101⟩, ⟨zB⟩⟩
 case rest =>
  clear HC2
  obtain ⟨kq, x3_1, rfl, HA, HJ1, BK101, HB⟩ := hcut
  cases kq with
  | zero => exact absurd HA.out (by simp [impl_NoteOk.j0])
  | succ kj1 =>
   have H := HA.out
   clear HA
   simp only [impl_NoteOk.j0] at H
   replace H := its_qn_qn H; rcases H with ⟨c16b0, c16b1, H⟩ | ⟨c16b0, c16b1, H⟩
   ·replace H := bnd H; obtain ⟨t105, A17, H⟩ := H
    replace H := itb H; rcases H with ⟨rfl, H⟩ | ⟨rfl, H⟩
    ·replace H := bnd H; obtain ⟨t106, A19, H⟩ := H
     replace H := itb H; rcases H with ⟨rfl, H⟩ | ⟨rfl, H⟩
     ·replace H := its_qn_qn H; rcases H with ⟨c21b0, c21b1, H⟩ | ⟨c21b0, c21b1, H⟩
      ·replace H := bnd H; obtain ⟨t107, A22, H⟩ := H
       obtain rfl := Option.some.inj H
       have hcz23 := cz9 BK101.out
       have hfz23 := fz9 BK101.out
       go_wp2_with (first | ((with_reducible refine gate_callee (f := 36) rfl ?_); refine gv 23 Tryz.func36 #[.agg #[.string a0_5, .string a0_6, .slice A0_7 l0_7.length c0_7, .slice A0_8 l0_8.length c0_8]] (impl_MailOk.calls (w := _) (hG := gB) (hr0_2 := cB HR0_7) (_hc0_2 := HC0_7.out) (hr0_3 := cB HR0_8) (hc0_3 := HC0_8.out) (h := A17.out)) ?_; intro w24 hb; replace BK101 := kS BK101 hb; replace HB := bS hb; clear hb; have hcz25 := cz9 BK101.out; have hfz25 := fz9 BK101.out) | (go_at_call 37; with_reducible refine (impl_isTime.calls (w := _) (h := A19.out)).mono ?_; rintro e w' ⟨rfl, ⟨nd, rfl⟩⟩) | (go_at_call 38; with_reducible refine (impl_Addr_null.calls (w := _) (h := A22.out)).mono ?_; rintro e w26 ⟨rfl, hb⟩; replace BK101 := kS BK101 hb; replace HB := bS hb; clear hb))
       go_ret
       exact ⟨zr, zB⟩
      ·obtain rfl := Option.some.inj H
       have hcz27 := cz9 BK101.out
       have hfz27 := fz9 BK101.out
       go_wp2_with (first | ((with_reducible refine gate_callee (f := 36) rfl ?_); refine gv 23 Tryz.func36 #[.agg #[.string a0_5, .string a0_6, .slice A0_7 l0_7.length c0_7, .slice A0_8 l0_8.length c0_8]] (impl_MailOk.calls (w := _) (hG := gB) (hr0_2 := cB HR0_7) (_hc0_2 := HC0_7.out) (hr0_3 := cB HR0_8) (hc0_3 := HC0_8.out) (h := A17.out)) ?_; intro w28 hb; replace BK101 := kS BK101 hb; replace HB := bS hb; clear hb; have hcz29 := cz9 BK101.out; have hfz29 := fz9 BK101.out) | (go_at_call 37; with_reducible refine (impl_isTime.calls (w := _) (h := A19.out)).mono ?_; rintro e w' ⟨rfl, ⟨nd, rfl⟩⟩))
       go_ret
       exact ⟨zr, zB⟩
     ·obtain rfl := Option.some.inj H
      have hcz30 := cz9 BK101.out
      have hfz30 := fz9 BK101.out
      go_wp2_with (first | ((with_reducible refine gate_callee (f := 36) rfl ?_); refine gv 23 Tryz.func36 #[.agg #[.string a0_5, .string a0_6, .slice A0_7 l0_7.length c0_7, .slice A0_8 l0_8.length c0_8]] (impl_MailOk.calls (w := _) (hG := gB) (hr0_2 := cB HR0_7) (_hc0_2 := HC0_7.out) (hr0_3 := cB HR0_8) (hc0_3 := HC0_8.out) (h := A17.out)) ?_; intro w31 hb; replace BK101 := kS BK101 hb; replace HB := bS hb; clear hb; have hcz32 := cz9 BK101.out; have hfz32 := fz9 BK101.out) | (go_at_call 37; with_reducible refine (impl_isTime.calls (w := _) (h := A19.out)).mono ?_; rintro e w' ⟨rfl, ⟨nd, rfl⟩⟩))
      go_ret
      exact ⟨zr, zB⟩
    ·obtain rfl := Option.some.inj H
     have hcz33 := cz9 BK101.out
     have hfz33 := fz9 BK101.out
     go_wp2_with (first | ((with_reducible refine gate_callee (f := 36) rfl ?_); refine gv 23 Tryz.func36 #[.agg #[.string a0_5, .string a0_6, .slice A0_7 l0_7.length c0_7, .slice A0_8 l0_8.length c0_8]] (impl_MailOk.calls (w := _) (hG := gB) (hr0_2 := cB HR0_7) (_hc0_2 := HC0_7.out) (hr0_3 := cB HR0_8) (hc0_3 := HC0_8.out) (h := A17.out)) ?_; intro w34 hb; replace BK101 := kS BK101 hb; replace HB := bS hb; clear hb))
     go_ret
     exact ⟨zr, zB⟩
   ·replace H := its_qn_qn H; rcases H with ⟨c35b0, c35b1, H⟩ | ⟨c35b0, c35b1, H⟩
    ·replace H := itb H; rcases H with ⟨rfl, H⟩ | ⟨rfl, H⟩
     ·obtain rfl := Option.some.inj H
      have hcz37 := cz9 BK101.out
      have hfz37 := fz9 BK101.out
      go_wp2
      go_ret
      exact ⟨zr, zB⟩
     ·obtain rfl := Option.some.inj H
      have hcz38 := cz9 BK101.out
      have hfz38 := fz9 BK101.out
      go_wp2
      go_ret
      exact ⟨zr, zB⟩
    ·replace H := its_qn_qn H; rcases H with ⟨c39b0, c39b1, H⟩ | ⟨c39b0, c39b1, H⟩
     ·replace H := itb H; rcases H with ⟨rfl, H⟩ | ⟨rfl, H⟩
      ·replace H := bnd H; obtain ⟨t108, A41, H⟩ := H
       obtain rfl := Option.some.inj H
       have hcz42 := cz9 BK101.out
       have hfz42 := fz9 BK101.out
       go_wp2_with (first | (go_at_call 37; with_reducible refine (impl_isTime.calls (w := _) (h := A41.out)).mono ?_; rintro e w' ⟨rfl, ⟨nd, rfl⟩⟩))
       go_ret
       exact ⟨zr, zB⟩
      ·obtain rfl := Option.some.inj H
       have hcz43 := cz9 BK101.out
       have hfz43 := fz9 BK101.out
       go_wp2
       go_ret
       exact ⟨zr, zB⟩
     ·obtain rfl := Option.some.inj H
      have hcz44 := cz9 BK101.out
      have hfz44 := fz9 BK101.out
      go_wp2
      go_ret
      exact ⟨zr, zB⟩
end Go.Proofs.YtbncnjgflhoneaaGreatDoor.F
namespace Go.Proofs.YtbncnjgflhoneaaGreatDoor.Hand
open Go.RowKit Go.Proofs.YtbncnjgflhoneaaGreatDoor.F Go.Proofs.YtbncnjgflhoneaaGreatDoorW.PrintWords Go.Proofs.YtbncnjgflhoneaaGreatDoorW.PrintLast Go.Proofs.YtbncnjgflhoneaaGreatDoorW.PrintMore
def chk : List S32 → List S32 → Bool
 | _, [] => true
 | old, a :: l => goodB a && (old.all (fun b => !sameB b a) && chk (old ++ [a]) l)
theorem chk_eq : ∀ (l old : List S32), chk old l = (l.all goodB && (apartB l && l.all (fun a => old.all (fun b => !sameB b a))))
 | [], old => by simp [chk, apartB]
 | a :: l, old => by
  rw [chk, chk_eq l (old ++ [a]), apartB]
  simp only [List.all_cons, List.all_append, List.all_nil, Bool.and_true]
  have e : (l.all fun x => (old.all fun b => !sameB b x) && !sameB a x) = ((l.all fun x => old.all fun b => !sameB b x) && l.all fun x => !sameB a x) := by
   rw [Bool.eq_iff_iff]
   simp only [Bool.and_eq_true, List.all_eq_true]
   exact ⟨fun h => ⟨fun x hx => (h x hx).1, fun x hx => (h x hx).2⟩, fun h x hx => ⟨h.1 x hx, h.2 x hx⟩⟩
  rw [e]
  cases goodB a <;> cases l.all goodB <;> cases apartB l <;> cases (old.all fun b => !sameB b a) <;> cases (l.all fun x => old.all fun b => !sameB b x) <;> cases (l.all fun x => !sameB a x) <;> rfl
theorem chk_start (l : List S32) : chk [] l = (l.all goodB && apartB l) := by
 rw [chk_eq]
 simp only [List.all_nil]
 rw [show (l.all fun _ => true) = true by simp, Bool.and_true]
def Short (u d : ByteArray) (ts : List S32) (body : List ByteArray) : Prop := u.size ≤ 1073741824 ∧ d.size ≤ 1073741824 ∧ (∀ a ∈ ts, Tiny a) ∧ (∀ s ∈ body, s.size ≤ 1073741824) ∧ ts.length ≤ 1073741824 ∧ body.length ≤ 1073741824
def tailB (u d : ByteArray) (ts : List S32) (body : List ByteArray) : Bool := (addrB u d || nullB u d) && (decide (1 ≤ ts.length ∧ ts.length ≤ 4) && bodyB body)
theorem smail_from (u d : ByteArray) (ts : List S32) (body : List ByteArray) (hs : Short u d ts body) : ∀ (e i : Nat), ts.length = i + e → Ev (fun k => spec_l2Ok.l0 k (i : Int) u d ts body) (chk (ts.take i) (ts.drop i) && tailB u d ts body) := by
 obtain ⟨hu, hd, ht, hb, hl1, hl2⟩ := hs
 intro e
 induction e with
 | zero =>
  intro i hi
  rw [List.drop_eq_nil_of_le (by omega), chk, Bool.true_and]
  refine Ev.step (f := fun k => (spec_l1AddrOk.f k u d).bind fun t106 => (if t106 = true then ((spec_l1In.f (ts.length : Int) 1 4).bind fun t107 => (if t107 = true then ((spec_l2BodyOk.f k body).bind fun t108 => (some t108)) else (some false))) else ((spec_l1Null.f u d).bind fun t109 => (if t109 = true then ((spec_l1In.f (ts.length : Int) 1 4).bind fun t110 => (if t110 = true then ((spec_l2BodyOk.f k body).bind fun t111 => (some t111)) else (some false))) else (some false)))))
   (fun k => by rw [spec_l2Ok.l0, if_neg (by omega)]) ?_
  have hA := saddr_tells u d (by omega) (by omega)
  have hB := sbody_tells body (by omega) (fun s h => by have := hb s h; omega)
  have hI : spec_l1In.f (ts.length : Int) 1 4 = some (decide (1 ≤ ts.length ∧ ts.length ≤ 4)) := by
   rw [in_tells]
   exact congrArg some (decide_eq_decide.2 (by omega))
  have hX : Ev (fun k => (spec_l1In.f (ts.length : Int) 1 4).bind fun t107 => (if t107 = true then ((spec_l2BodyOk.f k body).bind fun t108 => (some t108)) else (some false))) (decide (1 ≤ ts.length ∧ ts.length ≤ 4) && bodyB body) := by
   rw [hI]
   cases decide (1 ≤ ts.length ∧ ts.length ≤ 4)
   ·exact Ev.now _
   ·rw [Bool.true_and]
    exact Ev.congr (fun k => by rw [Option.bind_some, if_pos rfl]) (Ev.call hB (h := fun _ => some (bodyB body)) (fun n => rfl) (Ev.now _))
  unfold tailB
  cases ha : addrB u d
  ·rw [ha] at hA
   refine Ev.call hA (fun n => by rw [if_neg (by decide), snull_tells, Option.bind_some]) ?_
   cases hn : nullB u d
   ·exact Ev.now _
   ·exact hX
  ·rw [ha] at hA
   exact Ev.call hA (fun n => by rw [if_pos rfl]) hX
 | succ e ih =>
  intro i hi
  have hlt : i < ts.length := by omega
  rw [List.drop_eq_getElem_cons hlt, chk]
  have hT := ht _ (List.getElem_mem hlt)
  have hA := saddr_tells ts[i].f0 ts[i].f1 (by have := hT.1; omega) (by have := hT.2; omega)
  refine Ev.step (f := fun k => (spec_l1AddrOk.f k ts[i].f0 ts[i].f1).bind fun t103 => (if t103 = true then (spec_l2Ok.l1 k (i : Int) ((0 : Nat) : Int) u d ts body) else (some false)))
   (fun k => by rw [spec_l2Ok.l0, if_pos (by omega), if_pos (by omega), rd_T32_mem _ _ hlt]; rfl) ?_
  cases hg : goodB ts[i]
  ·rw [show addrB ts[i].f0 ts[i].f1 = false from hg] at hA
   exact Ev.call hA (h := fun _ => some false) (fun n => by rw [if_neg (by decide)]) (Ev.now _)
  ·rw [show addrB ts[i].f0 ts[i].f1 = true from hg] at hA
   refine Ev.call hA (fun n => by rw [if_pos rfl]) ?_
   rw [Bool.true_and]
   have hN := ih (i + 1) (by omega)
   rw [List.take_succ_eq_append_getElem hlt] at hN
   have inner : ∀ (g j : Nat), i = j + g → Ev (fun k => spec_l2Ok.l1 k (i : Int) (j : Int) u d ts body) (((ts.take i).drop j).all (fun b => !sameB b ts[i]) && (chk (ts.take i ++ [ts[i]]) (ts.drop (i + 1)) && tailB u d ts body)) := by
    intro g
    induction g with
    | zero =>
     intro j hj
     rw [List.drop_eq_nil_of_le (by rw [List.length_take]; omega), List.all_nil, Bool.true_and]
     exact Ev.step (f := fun k => spec_l2Ok.l0 k ((i + 1 : Nat) : Int) u d ts body) (fun k => by rw [spec_l2Ok.l1, if_neg (by omega), wrapIn (x := (i : Int) + 1) (by omega) (by omega)]; rfl) hN
    | succ g ihg =>
     intro j hj
     have hj2 : j < ts.length := by omega
     have hj3 : j < (ts.take i).length := by rw [List.length_take]; omega
     rw [List.drop_eq_getElem_cons hj3, List.all_cons, List.getElem_take]
     have hcond : ((((rd_T32 ts (j : Int)).f0).toList) == (((rd_T32 ts (i : Int)).f0).toList) && ((((rd_T32 ts (j : Int)).f1).toList) == (((rd_T32 ts (i : Int)).f1).toList))) = sameB ts[j] ts[i] := by
      rw [rd_T32_mem _ _ hlt, rd_T32_mem _ _ hj2, toL, toL, toL, toL]
      rfl
     refine Ev.step (f := fun k => if sameB ts[j] ts[i] = true then some false else spec_l2Ok.l1 k (i : Int) ((j + 1 : Nat) : Int) u d ts body) (fun k => by
      rw [spec_l2Ok.l1, if_pos (by omega), if_pos (by omega), if_pos (by omega), if_pos (by omega), if_pos (by omega), hcond, wrapIn (x := (j : Int) + 1) (by omega) (by omega)]
      rfl) ?_
     cases hsm : sameB ts[j] ts[i]
     ·refine Ev.congr (fun k => if_neg (by decide)) ?_
      exact ihg (j + 1) (by omega)
     ·exact Ev.congr (f := fun _ => some false) (fun k => if_pos rfl) (Ev.now _)
   have h0 := inner i 0 (by omega)
   rw [List.drop_zero] at h0
   rw [Bool.and_assoc]
   exact h0
theorem smail_tells (u d : ByteArray) (ts : List S32) (body : List ByteArray) (hs : Short u d ts body) : Ev (fun k => spec_l2Ok.f k u d ts body) (mailB u d ts body) := by
 have h := smail_from u d ts body hs ts.length 0 (by omega)
 rw [List.take_zero, List.drop_zero, chk_start] at h
 have e : (ts.all goodB && apartB ts && tailB u d ts body) = mailB u d ts body := by
  unfold tailB mailB
  rw [show (ts.all fun a => addrB a.f0 a.f1) = ts.all goodB from rfl]
  cases ts.all goodB <;> cases apartB ts <;> cases addrB u d <;> cases nullB u d <;> cases decide (1 ≤ ts.length ∧ ts.length ≤ 4) <;> cases bodyB body <;> rfl
 rw [e] at h
 exact h
theorem pmail_tells (u d : ByteArray) (ts : List S32) (body : List ByteArray) (hs : Short u d ts body) : impl_MailOk.f u d ts body = some (mailB u d ts body) := by
 obtain ⟨hu, hd, ht, hb, _, _⟩ := hs
 unfold impl_MailOk.f
 rw [if_pos]
 simp only [Bool.and_eq_true, List.all_eq_true]
 exact ⟨⟨⟨decide_eq_true hu, decide_eq_true hd⟩, fun a ha => ⟨decide_eq_true (ht a ha).1, decide_eq_true (ht a ha).2⟩⟩, fun s hs => decide_eq_true (hb s hs)⟩
def bareB (u d : ByteArray) (ts : List S32) (body : List ByteArray) : Bool := nullB u d && (decide (ts.length = 0) && decide (body.length = 0))
def noteB (kind id : Int) (au ad : ByteArray) (now : Int) (u d : ByteArray) (ts : List S32) (body : List ByteArray) : Bool :=
 if kind = 1 then mailB u d ts body && (decide (0 ≤ now ∧ now ≤ 9999) && (decide (id = 0) && nullB au ad))
 else if kind = 2 then bareB u d ts body && (decide (1 ≤ id ∧ id ≤ 999) && (addrB au ad && decide (now = 0)))
 else if kind = 3 then bareB u d ts body && (decide (1 ≤ id ∧ id ≤ 999) && (addrB au ad && decide (0 ≤ now ∧ now ≤ 9999)))
 else false
theorem snote_j (kind id : Int) (au ad : ByteArray) (now : Int) (u d : ByteArray) (ts : List S32) (body : List ByteArray) (hs : Short u d ts body) (hau : au.size ≤ 1073741824) (had : ad.size ≤ 1073741824) :
  Ev (fun k => spec_l6Ok.j0 k (bareB u d ts body) kind id au ad now u d ts body) (noteB kind id au ad now u d ts body) := by
 have hA := saddr_tells au ad (by omega) (by omega)
 have hM := smail_tells u d ts body hs
 unfold noteB
 by_cases k1 : kind = 1
 ·rw [if_pos k1]
  refine Ev.step (f := fun k => (if id = 0 then ((spec_l1Null.f au ad).bind fun t103 => (if t103 = true then ((spec_l2Ok.f k u d ts body).bind fun t104 => (if t104 = true then ((spec_l1In.f now 0 9999).bind fun t105 => (some t105)) else (some false))) else (some false))) else (some false))) (fun k => by rw [spec_l6Ok.j0, if_pos k1]) ?_
  by_cases hid : id = 0
  ·refine Ev.congr (fun k => by rw [if_pos hid, snull_tells, Option.bind_some]) ?_
   rw [decide_eq_true hid, Bool.true_and]
   cases hn : nullB au ad
   ·rw [Bool.and_false, Bool.and_false]
    exact Ev.congr (f := fun _ => some false) (fun k => if_neg (by decide)) (Ev.now _)
   ·refine Ev.congr (fun k => if_pos rfl) ?_
    rw [Bool.and_true]
    cases hm : mailB u d ts body
    ·rw [hm] at hM
     exact Ev.call hM (h := fun _ => some false) (fun n => if_neg (by decide)) (Ev.now _)
    ·rw [hm] at hM
     refine Ev.call hM (h := fun _ => some (decide (0 ≤ now ∧ now ≤ 9999))) (fun n => by rw [if_pos rfl, in_tells]; rfl) (by rw [Bool.true_and]; exact Ev.now _)
  ·rw [decide_eq_false hid, Bool.false_and, Bool.and_false, Bool.and_false]
   exact Ev.congr (f := fun _ => some false) (fun k => if_neg hid) (Ev.now _)
 rw [if_neg k1]
 have three : ∀ (x : Nat → Option Bool) (y : Bool), Ev x y → Ev (fun k => if bareB u d ts body = true then ((spec_l1In.f id 1 999).bind fun t106 => (if t106 = true then ((spec_l1AddrOk.f k au ad).bind fun t107 => (if t107 = true then x k else (some false))) else (some false))) else (some false)) (bareB u d ts body && (decide (1 ≤ id ∧ id ≤ 999) && (addrB au ad && y))) := by
  intro x y hx
  cases bareB u d ts body
  ·exact Ev.congr (f := fun _ => some false) (fun k => if_neg (by decide)) (Ev.now _)
  ·refine Ev.congr (fun k => by rw [if_pos rfl, in_tells, Option.bind_some]) ?_
   rw [Bool.true_and]
   cases decide (1 ≤ id ∧ id ≤ 999)
   ·exact Ev.congr (f := fun _ => some false) (fun k => if_neg (by decide)) (Ev.now _)
   ·refine Ev.congr (fun k => if_pos rfl) ?_
    rw [Bool.true_and]
    cases ha : addrB au ad
    ·rw [ha] at hA
     exact Ev.call hA (h := fun _ => some false) (fun n => if_neg (by decide)) (Ev.now _)
    ·rw [ha] at hA
     rw [Bool.true_and]
     exact Ev.call hA (fun n => if_pos rfl) hx
 by_cases k2 : kind = 2
 ·rw [if_pos k2]
  have h := three (fun _ => some (now == 0)) (decide (now = 0)) (Ev.now _)
  exact Ev.step (fun k => by rw [spec_l6Ok.j0, if_neg k1, if_pos k2]) h
 rw [if_neg k2]
 by_cases k3 : kind = 3
 ·rw [if_pos k3]
  have h := three (fun _ => (spec_l1In.f now 0 9999).bind fun t110 => (some t110)) (decide (0 ≤ now ∧ now ≤ 9999)) (Ev.congr (f := fun _ => some (decide (0 ≤ now ∧ now ≤ 9999))) (fun k => by rw [in_tells]; rfl) (Ev.now _))
  exact Ev.step (fun k => by rw [spec_l6Ok.j0, if_neg k1, if_neg k2, if_pos k3]) h
 rw [if_neg k3]
 exact Ev.step (f := fun _ => some false) (fun k => by rw [spec_l6Ok.j0, if_neg k1, if_neg k2, if_neg k3]) (Ev.now _)
theorem snote_tells (kind id : Int) (au ad : ByteArray) (now : Int) (u d : ByteArray) (ts : List S32) (body : List ByteArray) (hs : Short u d ts body) (hau : au.size ≤ 1073741824) (had : ad.size ≤ 1073741824) :
  Ev (fun k => spec_l6Ok.f k kind id au ad now u d ts body) (noteB kind id au ad now u d ts body) := by
 have h := snote_j kind id au ad now u d ts body hs hau had
 refine Ev.congr (fun k => ?_) h
 unfold spec_l6Ok.f bareB
 rw [snull_tells, Option.bind_some]
 cases nullB u d
 ·rw [if_neg (by decide)]
  rfl
 ·rw [if_pos rfl, Bool.true_and]
  by_cases h1 : (ts.length : Int) = 0
  ·rw [if_pos h1, decide_eq_true (p := ts.length = 0) (by omega), Bool.true_and]
   have : ((body.length : Int) == 0) = decide (body.length = 0) := by
    rw [Bool.eq_iff_iff]
    simp
   rw [this]
  ·rw [if_neg h1, decide_eq_false (p := ts.length = 0) (by omega), Bool.false_and]
theorem pnote_tells (kind id : Int) (au ad : ByteArray) (now : Int) (u d : ByteArray) (ts : List S32) (body : List ByteArray) (hs : Short u d ts body) (had : ad.size ≤ 1073741824) :
  Ev (fun k => impl_NoteOk.f k kind id au ad now u d ts body) (noteB kind id au ad now u d ts body) := by
 have hA : Ev (fun k => impl_AddrOk.f k au ad) (addrB au ad) := Ev.exact (ad.size + 2) fun k hk => addr_tells au ad had k hk
 have hE : impl_Mail_empty.f u d ts body = some (bareB u d ts body) := by
  unfold impl_Mail_empty.f impl_Addr_null.f bareB
  rw [Option.bind_some]
  show (if nullB u d = true then _ else _) = _
  cases nullB u d
  ·rw [if_neg (by decide)]; rfl
  ·rw [if_pos rfl, Bool.true_and]
   by_cases h1 : (ts.length : Int) = 0
   ·rw [if_pos h1, decide_eq_true (p := ts.length = 0) (by omega), Bool.true_and]
    congr 1
    rw [Bool.eq_iff_iff]
    simp
   ·rw [if_neg h1, decide_eq_false (p := ts.length = 0) (by omega)]
    rfl
 have hT : impl_isTime.f now = some (decide (0 ≤ now ∧ now ≤ 9999)) := by
  unfold impl_isTime.f
  rw [within_tells]
  rfl
 have hj : ∀ x : Bool, x = (decide (1 ≤ id ∧ id ≤ 999) && (addrB au ad && bareB u d ts body)) → Ev (fun k => impl_NoteOk.j0 k x kind id au ad now u d ts body) (noteB kind id au ad now u d ts body) := by
  intro x hx
  refine Ev.step (f := fun _ => some (noteB kind id au ad now u d ts body)) (fun k => ?_) (Ev.now _)
  rw [impl_NoteOk.j0]
  unfold noteB
  by_cases k1 : kind = 1
  ·rw [if_pos k1, if_pos k1, pmail_tells u d ts body hs, Option.bind_some, hT]
   cases mailB u d ts body
   ·rfl
   ·rw [if_pos rfl, Option.bind_some]
    cases decide (0 ≤ now ∧ now ≤ 9999)
    ·rfl
    ·rw [if_pos rfl]
     by_cases hid : id = 0
     ·rw [if_pos hid, decide_eq_true hid]; rfl
     ·rw [if_neg hid, decide_eq_false hid]; rfl
  rw [if_neg k1, if_neg k1]
  by_cases k2 : kind = 2
  ·rw [if_pos k2, if_pos k2, hx]
   have e : (now == 0) = decide (now = 0) := rfl
   rw [e]
   cases decide (1 ≤ id ∧ id ≤ 999) <;> cases addrB au ad <;> cases bareB u d ts body <;> rfl
  rw [if_neg k2, if_neg k2]
  by_cases k3 : kind = 3
  ·rw [if_pos k3, if_pos k3, hx, hT]
   cases decide (1 ≤ id ∧ id ≤ 999) <;> cases addrB au ad <;> cases bareB u d ts body <;> rfl
  rw [if_neg k3, if_neg k3]
 unfold impl_NoteOk.f
 refine Ev.congr (fun k => by rw [within_tells, Option.bind_some]) ?_
 cases h1 : decide (1 ≤ id ∧ id ≤ 999)
 ·exact Ev.congr (fun k => if_neg (by decide)) (hj false (by rw [h1]; rfl))
 ·refine Ev.congr (fun k => if_pos rfl) ?_
  cases h2 : addrB au ad
  ·rw [h2] at hA
   exact Ev.call hA (fun n => if_neg (by decide)) (hj false (by rw [h1, h2]; rfl))
  ·rw [h2] at hA
   exact Ev.call hA (fun n => by rw [if_pos rfl, hE, Option.bind_some]) (hj _ (by rw [h1, h2]; rfl))
end Go.Proofs.YtbncnjgflhoneaaGreatDoor.Hand
namespace Go.Proofs.YtbncnjgflhoneaaGreatDoor.F
open Go.RowKit Go.Proofs.YtbncnjgflhoneaaGreatDoor.Hand Go.Proofs.YtbncnjgflhoneaaGreatDoorW.PrintWords Go.Proofs.YtbncnjgflhoneaaGreatDoorW.PrintLast Go.Proofs.YtbncnjgflhoneaaGreatDoorW.PrintMore
set_option linter.unusedVariables false
set_option linter.unusedSimpArgs false
def spec_l1Dec.f : Nat → Int → Option (ByteArray)
 | 0, _ => none
 | k + 1, a0 => if a0 < (-9223372036854775807) then (some (⟨#[45, 57, 50, 50, 51, 51, 55, 50, 48, 51, 54, 56, 53, 52, 55, 55, 53, 56, 48, 56]⟩ : ByteArray)) else (if a0 < 0 then ((spec_l1Dec.f k (wrap64 (-a0))).bind fun t101 => (if 1 + t101.size ≤ 9223372036854775807 then (some ((⟨#[45]⟩ : ByteArray) ++ t101)) else (none))) else (if a0 < 10 then (some (strOfNums (([(wrap64 (48 + a0)) % 256] : List Int)))) else ((spec_l1Dec.f k (wrap64 (Int.tdiv a0 10))).bind fun t105 => ((some (([(wrap64 (48 + (Int.tmod a0 10))) % 256] : List Int) : List Int)).bind fun y106 => (if t105.size + (strOfNums y106).size ≤ 9223372036854775807 then (some (t105 ++ (strOfNums y106))) else (none))))))
def spec_l1Dec.T7 : Bool × List (List Nat × List Nat) := (true, [([], []), ([0], [0]), ([1], [1]), ([], []), ([3], [3]), ([4], [4]), ([5], [5]), ([6], [6]), ([7], [7]), ([2, 8], [2, 8]), ([9, 2, 0, 1, 2, 3, 4, 5, 6, 7, 8, 9], [9])])
def spec_l1Dec.B7 : List Nat := [0, 1, 3, 0, 8, 24, 56, 120, 248, 511, 1023]
theorem spec_l1Dec.tab7 : rtab .any (opsOf Tryz.f59 7) = spec_l1Dec.T7 := by kernel_rfl
theorem spec_l1Dec.bits7 : waitsOk spec_l1Dec.T7.2 spec_l1Dec.B7 = true := by kernel_rfl
set_option maxHeartbeats 8000000 in
set_option maxRecDepth 100000 in
theorem spec_l1Dec.calls (k : Nat) : ∀ (a0 : Int) (r : ByteArray) (w : World) (h : spec_l1Dec.f k a0 = some r),
  Calls Tryz.prog 59 #[.int .i64 a0] w fun e w' => e = .returned (.string r) ∧ Below w.heap.size w w' := by
 induction k using Nat.strongRecOn with
 | _ k ih =>
 intro a0 r w h
 cases k with
 | zero => exact absurd h (by simp [spec_l1Dec.f])
 | succ k =>
 simp only [spec_l1Dec.f] at h
 have HB := Aside0.mk (Below.refl w.heap.size w)
 have H : (if a0 < (-9223372036854775807) then (some (⟨#[45, 57, 50, 50, 51, 51, 55, 50, 48, 51, 54, 56, 53, 52, 55, 55, 53, 56, 48, 56]⟩ : ByteArray)) else (if a0 < 0 then ((spec_l1Dec.f k (wrap64 (-a0))).bind fun t101 => (if 1 + t101.size ≤ 9223372036854775807 then (some ((⟨#[45]⟩ : ByteArray) ++ t101)) else (none))) else (if a0 < 10 then (some (strOfNums (([(wrap64 (48 + a0)) % 256] : List Int)))) else ((spec_l1Dec.f k (wrap64 (Int.tdiv a0 10))).bind fun t105 => ((some (([(wrap64 (48 + (Int.tmod a0 10))) % 256] : List Int) : List Int)).bind fun y106 => (if t105.size + (strOfNums y106).size ≤ 9223372036854775807 then (some (t105 ++ (strOfNums y106))) else (none))))))) = some r := h
 clear h
 replace H := its_d_d H; rcases H with ⟨c2b0, H⟩ | ⟨c2b0, H⟩
 ·obtain rfl := Option.some.inj H
  go_enter Tryz.func59, Tryz.ntmps59
  go_wp2
  go_ret
  exact ⟨zr, zB⟩
 ·replace H := its_d_d H; rcases H with ⟨c3b0, H⟩ | ⟨c3b0, H⟩
  ·replace H := bnd H; obtain ⟨t101, A4, H⟩ := H
   replace H := itn_edm H; obtain ⟨c5b0, c5b1, c5b2, H⟩ := H
   obtain rfl := Option.some.inj H
   go_enter Tryz.func59, Tryz.ntmps59
   go_wp2_with (first | ((with_reducible refine gate_callee (f := 59) rfl ?_); refine goesL_ (some 9) rfl rfl Tryz.func59 (by kernel_rfl) rfl #[.int .i64 (wrap64 (-a0))] rfl zm ?_; (with_reducible refine (ih k (by omega) (wrap64 (-a0)) t101 _ A4.out).mono ?_); rintro e w6 ⟨rfl, hb⟩; refine ⟨_, rfl, ?_⟩; replace HB := bS hb; clear hb))
   go_ret
   exact ⟨zr, zB⟩
  ·replace H := its_d_d H; rcases H with ⟨c7b0, H⟩ | ⟨c7b0, H⟩
   ·first | (with_reducible replace H := bns H; obtain ⟨y102, Ny102, H⟩ := H) | (generalize hy_ : (([(wrap64 (48 + a0)) % 256] : List Int) : List Int) = y102 at H; have Ny102 := Aside0.mk hy_.symm; clear hy_)
    obtain rfl := Option.some.inj H
    go_enter Tryz.func59, Tryz.ntmps59
    go_wp2_with (first | ((with_reducible refine gate_dst (N := 16) rfl ?_); refine Kd.R_lit (Kd.int .u8) _ 5 ?hg (N := 16) ?hd (xs := ([(wrap64 (48 + a0)) % 256] : List Int)) (inner := [.int .u8 ((wrap64 (48 + a0)) % 256)]) (ok := fun _ => True) (okp := fun _ => True) ?hr ?hp (fun _ hk => hk) trivial (Below.refl _ _) (Nat.le_refl _) (by simp) ?_; (case hd => rfl); (case hg => rfl); (case hr => first | (go_simp; done) | (go_simp; rfl)); (case hp => exact (Reps.one (show Kd.M (Kd.int .u8) _ _ _ ((wrap64 (48 + a0)) % 256) [.int .u8 ((wrap64 (48 + a0)) % 256)] from rfl) (Reps.none _ _))); intro v103 w8 ho9 hb hg_ hnew_; clear hg_ hnew_; (first | rw [← Ny102.out] at ho9 | (simp only [Int.reduceToNat] at ho9; rw [← Ny102.out] at ho9)); have HO104 := lS ho9; replace HB := bS hb; clear hb ho9; have hcv10 := own_string (P := Tryz.prog) Tryz.underlying41 Tryz.underlying5 Tryz.underlying9 (Kd.own_of_R HO104.out)))
    go_ret
    exact ⟨zr, zB⟩
   ·replace H := bnd H; obtain ⟨t105, A11, H⟩ := H
    first | (with_reducible replace H := bns H; obtain ⟨y106, Ny106, H⟩ := H) | (generalize hy_ : (([(wrap64 (48 + (Int.tmod a0 10))) % 256] : List Int) : List Int) = y106 at H; have Ny106 := Aside0.mk hy_.symm; clear hy_)
    replace H := itn_edm H; obtain ⟨c12b0, c12b1, c12b2, H⟩ := H
    obtain rfl := Option.some.inj H
    go_enter Tryz.func59, Tryz.ntmps59
    try go_wp2
    replace HB := Aside0.mk (below_drew1 HB.out)
    refine start_ (n := 11) (S := fun w' => True) (ds := []) #[false, false, false, false, false, false, false, false, false, false, false] (by kernel_rfl) rfl rfl trivial (fun hHeld => ?_); refine with_tabW spec_l1Dec.tab7 spec_l1Dec.bits7 (fun HT_ HW_ => ?_)
    generalize w.drew = w13 at HB hHeld ⊢
    refine pu 0 18 ?_
    refine pu 1 19 ?_
    refine pu 3 21 ?_
    refine pu 4 22 ?_
    refine pu 5 23 ?_
    refine pu 6 24 ?_
    refine join_ (σ := Value) 2 #[true, true, true, true, true, true, true, true, true, false, false] (fun s_ => [(20, .string t105), (25, s_), (26, .string (strOfNums y106))]) (fun s_ w' => (Kd.R (Kd.int .u8) 5 w' w.heap.size (fun _ => True) s_ y106) ∧ (Below w.heap.size w w')) ?_ ?_
    rotate_left
    ·intro hCont
     refine tw 2 7 (some 20) (some 25) (fun K hK => ?_) (fun K hK => ?_)
     ·skip
      refine goes_ Tryz.func59 (by kernel_rfl) rfl #[.int .i64 (wrap64 (Int.tdiv a0 10))] (by rfl) rfl rfl zm ?_
      with_reducible refine (ih k (by omega) (wrap64 (Int.tdiv a0 10)) t105 _ A11.out).mono ?_
      rintro e w14 ⟨rfl, hb⟩
      refine ⟨_, rfl, ?_⟩
      replace HB := bS hb
      (try clear hb)
      (try clear hb2)
      (try clear hk)
      (try clear hi)
      refine kO 20 hK (fun hHeld => ?_) trivial
      clear hK K
      refine on 7 (some 25) (fun K hK => ?_)
      refine Kd.R_lit_step (Kd.int .u8) _ 5 ?hg (N := 25) ?hd (xs := ([(wrap64 (48 + (Int.tmod a0 10))) % 256] : List Int)) (inner := [.int .u8 ((wrap64 (48 + (Int.tmod a0 10))) % 256)]) (ok := fun _ => True) (okp := fun _ => True) ?hr ?hp (fun _ hk => hk) trivial (Below.refl _ _) (Nat.le_refl _) (by simp) ?_; (case hd => rfl); (case hg => rfl); (case hr => first | (go_simp; done) | (go_simp; rfl)); (case hp => exact (Reps.one (show Kd.M (Kd.int .u8) _ _ _ ((wrap64 (48 + (Int.tmod a0 10))) % 256) [.int .u8 ((wrap64 (48 + (Int.tmod a0 10))) % 256)] from rfl) (Reps.none _ _)))
      intro v107 w15 ho16 hb hg_ hnew_
      clear hg_ hnew_
      (first | rw [← Ny106.out] at ho16 | (simp only [Int.reduceToNat] at ho16; rw [← Ny106.out] at ho16))
      have HO108 := lS ho16
      replace HB := bS hb
      clear hb ho16
      refine kO 25 hK (fun hHeld => ?_) trivial
      clear hK K
      refine on 8 (some 26) (fun K hK => ?_)
      have hcv17 := own_string (P := Tryz.prog) Tryz.underlying41 Tryz.underlying5 Tryz.underlying9 (Kd.own_of_R HO108.out)
      refine value_ (w1 := ?_) (v := ?_) (by rfl) rfl ?_ ?_
      rotate_left 2
      ·go_simp
       constructor
       ·rfl
       ·rfl
      clear hcv17
      refine kO 26 hK (fun hHeld => ?_) trivial
      clear hK K
      exact norm_ (by simp only [putAll, Act.put, List.setIfInBounds_toArray, List.set_cons_zero, List.set_cons_succ]) (hCont (v107) _ ⟨(rO HO108), zB⟩)
     ·skip
      refine Kd.R_lit_step (Kd.int .u8) _ 5 ?hg (N := 25) ?hd (xs := ([(wrap64 (48 + (Int.tmod a0 10))) % 256] : List Int)) (inner := [.int .u8 ((wrap64 (48 + (Int.tmod a0 10))) % 256)]) (ok := fun _ => True) (okp := fun _ => True) ?hr ?hp (fun _ hk => hk) trivial (Below.refl _ _) (Nat.le_refl _) (by simp) ?_; (case hd => rfl); (case hg => rfl); (case hr => first | (go_simp; done) | (go_simp; rfl)); (case hp => exact (Reps.one (show Kd.M (Kd.int .u8) _ _ _ ((wrap64 (48 + (Int.tmod a0 10))) % 256) [.int .u8 ((wrap64 (48 + (Int.tmod a0 10))) % 256)] from rfl) (Reps.none _ _)))
      intro v107 w14 ho15 hb hg_ hnew_
      clear hg_ hnew_
      (first | rw [← Ny106.out] at ho15 | (simp only [Int.reduceToNat] at ho15; rw [← Ny106.out] at ho15))
      have HO108 := lS ho15
      replace HB := bS hb
      clear hb ho15
      refine kO 25 hK (fun hHeld => ?_) trivial
      clear hK K
      refine tw 2 8 (some 20) (some 26) (fun K hK => ?_) (fun K hK => ?_)
      ·skip
       refine goes_ Tryz.func59 (by kernel_rfl) rfl #[.int .i64 (wrap64 (Int.tdiv a0 10))] (by rfl) rfl rfl zm ?_
       with_reducible refine (ih k (by omega) (wrap64 (Int.tdiv a0 10)) t105 _ A11.out).mono ?_
       rintro e w16 ⟨rfl, hb⟩
       refine ⟨_, rfl, ?_⟩
       replace HO108 := rS HO108 hb
       replace HB := bS hb
       (try clear hb)
       (try clear hb2)
       (try clear hk)
       (try clear hi)
       refine kO 20 hK (fun hHeld => ?_) trivial
       clear hK K
       refine on 8 (some 26) (fun K hK => ?_)
       have hcv17 := own_string (P := Tryz.prog) Tryz.underlying41 Tryz.underlying5 Tryz.underlying9 (Kd.own_of_R HO108.out)
       refine value_ (w1 := ?_) (v := ?_) (by rfl) rfl ?_ ?_
       rotate_left 2
       ·go_simp
        constructor
        ·rfl
        ·rfl
       clear hcv17
       refine kO 26 hK (fun hHeld => ?_) trivial
       clear hK K
       exact norm_ (by simp only [putAll, Act.put, List.setIfInBounds_toArray, List.set_cons_zero, List.set_cons_succ]) (hCont (v107) _ ⟨(rO HO108), zB⟩)
      ·skip
       have hcv16 := own_string (P := Tryz.prog) Tryz.underlying41 Tryz.underlying5 Tryz.underlying9 (Kd.own_of_R HO108.out)
       refine value_ (w1 := ?_) (v := ?_) (by rfl) rfl ?_ ?_
       rotate_left 2
       ·go_simp
        constructor
        ·rfl
        ·rfl
       clear hcv16
       refine kO 26 hK (fun hHeld => ?_) trivial
       clear hK K
       refine on 2 (some 20) (fun K hK => ?_)
       refine goes_ Tryz.func59 (by kernel_rfl) rfl #[.int .i64 (wrap64 (Int.tdiv a0 10))] (by rfl) rfl rfl zm ?_
       with_reducible refine (ih k (by omega) (wrap64 (Int.tdiv a0 10)) t105 _ A11.out).mono ?_
       rintro e w17 ⟨rfl, hb⟩
       refine ⟨_, rfl, ?_⟩
       replace HO108 := rS HO108 hb
       replace HB := bS hb
       (try clear hb)
       (try clear hb2)
       (try clear hk)
       (try clear hi)
       refine kO 20 hK (fun hHeld => ?_) trivial
       clear hK K
       exact norm_ (by simp only [putAll, Act.put, List.setIfInBounds_toArray, List.set_cons_zero, List.set_cons_succ]) (hCont (v107) _ ⟨(rO HO108), zB⟩)
    rintro v107 w18 ⟨h0_, h1_⟩
    have HO108 : Aside0 (Kd.R (Kd.int .u8) 5 w18 w.heap.size (fun _ => True) v107 y106) := ⟨h0_⟩
    replace HB : Aside0 (Below w.heap.size w w18) := ⟨h1_⟩
    clear h0_ h1_
    have hHeld := trivial
    refine norm_ (a' := ?_) ?_ ?_
    rotate_left
    ·simp only [putAll, Act.put, List.setIfInBounds_toArray, List.set_cons_zero, List.set_cons_succ]
     rfl
    refine pu 9 27 ?_
    refine pu 10 2 ?_
    refine done_ (done_of HT_.out (by kernel_rfl)) ?_
    try go_wp2
    go_ret
    exact ⟨zr, zB⟩
def spec_l2Dots.l0 : Nat → List ByteArray → ByteArray → Int → Option (ByteArray)
 | 0, _, _, _ => none
 | k + 1, x0, x3, x4 => if x4 < (x0.length : Int) then (if 0 ≤ x4 then (if (rdOf ByteArray.empty x0 x4).toList = ([] : List UInt8) then (if x3.size + (rdOf ByteArray.empty x0 x4).size ≤ 9223372036854775807 then (if (x3 ++ (rdOf ByteArray.empty x0 x4)).size + 2 ≤ 9223372036854775807 then (spec_l2Dots.l0 k x0 ((x3 ++ (rdOf ByteArray.empty x0 x4)) ++ (⟨#[13, 10]⟩ : ByteArray)) (wrap64 (x4 + 1))) else (none)) else (none)) else (if 0 < ((rdOf ByteArray.empty x0 x4).size : Int) then (if (bt (rdOf ByteArray.empty x0 x4) 0) = 46 then (if 1 + (rdOf ByteArray.empty x0 x4).size ≤ 9223372036854775807 then (if x3.size + ((⟨#[46]⟩ : ByteArray) ++ (rdOf ByteArray.empty x0 x4)).size ≤ 9223372036854775807 then (if (x3 ++ ((⟨#[46]⟩ : ByteArray) ++ (rdOf ByteArray.empty x0 x4))).size + 2 ≤ 9223372036854775807 then (spec_l2Dots.l0 k x0 ((x3 ++ ((⟨#[46]⟩ : ByteArray) ++ (rdOf ByteArray.empty x0 x4))) ++ (⟨#[13, 10]⟩ : ByteArray)) (wrap64 (x4 + 1))) else (none)) else (none)) else (none)) else (if x3.size + (rdOf ByteArray.empty x0 x4).size ≤ 9223372036854775807 then (if (x3 ++ (rdOf ByteArray.empty x0 x4)).size + 2 ≤ 9223372036854775807 then (spec_l2Dots.l0 k x0 ((x3 ++ (rdOf ByteArray.empty x0 x4)) ++ (⟨#[13, 10]⟩ : ByteArray)) (wrap64 (x4 + 1))) else (none)) else (none))) else (none))) else (none)) else (if x3.size + 3 ≤ 9223372036854775807 then (some (x3 ++ (⟨#[46, 13, 10]⟩ : ByteArray))) else (none))
def spec_l2Dots.f (k : Nat) (l0 : List ByteArray) : Option (ByteArray) := spec_l2Dots.l0 k l0 (⟨#[]⟩ : ByteArray) 0
set_option maxHeartbeats 8000000 in
set_option maxRecDepth 100000 in
theorem spec_l2Dots.calls (k : Nat) (A0 : Option Addr) (c0 : Nat) (l0 : List ByteArray) (r : ByteArray) (w : World) (hr0 : Kd.C Kd.string w A0 l0.length l0) (hc0 : l0.length ≤ c0) (h : spec_l2Dots.f k l0 = some r) :
  Calls Tryz.prog 103 #[.slice A0 l0.length c0] w fun e w' => e = .returned (.string r) ∧ Drawn0 w w' := by
 have HR0 := Aside0.mk hr0
 have HC0 := Aside0.mk hc0
 clear hr0 hc0
 have H := h
 clear h
 unfold spec_l2Dots.f at H
 have H' := Aside0.mk H
 clear H
 go_enter Tryz.func103, Tryz.ntmps103
 go_wp2
 go_loopg [3, 4] k (fun kq v3 v4 w' => ∃ (x3_1 : ByteArray) (x4_1 : Int), v3 = .string x3_1 ∧ v4 = .int .i64 x4_1 ∧ Aside0 (spec_l2Dots.l0 kq l0 x3_1 x4_1 = some r) ∧ Aside0 (kq ≤ k) ∧ Drawn0 w w')
 case atStart => exact ⟨((⟨#[]⟩ : ByteArray)), (0), zs, zs, H', ⟨Nat.le_refl _⟩, zD⟩
 case round =>
  clear H'
  obtain ⟨x3_1, x4_1, rfl, rfl, HA, HK1, ⟨m1, rfl⟩⟩ := hrel
  cases gk with
  | zero => exact absurd HA.out (by simp [spec_l2Dots.l0])
  | succ k1 =>
   have H := HA.out
   clear HA
   simp only [spec_l2Dots.l0] at H
   replace H := its_d_d H; rcases H with ⟨c2b0, H⟩ | ⟨c2b0, H⟩
   ·replace H := itn_d H; obtain ⟨c3b0, H⟩ := H
    replace H := its_qn_qn H; rcases H with ⟨c4b0, c4b1, H⟩ | ⟨c4b0, c4b1, H⟩
    ·replace H := itn_edm H; obtain ⟨c5b0, c5b1, c5b2, H⟩ := H
     replace H := itn_cedm H; obtain ⟨c6, c6b0, c6b1, c6b2, H⟩ := H
     have c6b3 : (9223372036854775807 < x3_1.size + (rdOf ByteArray.empty l0 x4_1).size + 2) = False := eq_false (by have z_ := c6; simp only [ByteArray.size_append] at z_; exact Nat.not_lt.2 z_)
     have H' := Aside0.mk H
     clear H
     have p101 : 0 ≤ (x4_1 : Int) := of_decide_eq_true za
     have q101 : x4_1 < (l0.length : Int) := of_decide_eq_true za
     obtain ⟨ad101, e101, hx101_0⟩ := Kd.at_string HR0.out x4_1 p101 q101
     cases e101
     replace p101 := eq_true p101
     replace q101 := eq_true q101
     go_wp2
     go_roundg k1
     case measure => have := HK1.out; omega
     case rel => exact ⟨((x3_1 ++ (rdOf ByteArray.empty l0 x4_1)) ++ (⟨#[13, 10]⟩ : ByteArray)), (wrap64 (x4_1 + 1)), zs, zs, H', ⟨by have := HK1.out; omega⟩, zD⟩
    ·replace H := itn_cd H; obtain ⟨c7, c7b0, H⟩ := H
     have c7b1 : decide (0 < (rdOf ByteArray.empty l0 x4_1).size) = true := decide_eq_true (by omega)
     clear c7
     replace H := its_qn_qn H; rcases H with ⟨c9b0, c9b1, H⟩ | ⟨c9b0, c9b1, H⟩
     ·replace H := itn_edm H; obtain ⟨c10b0, c10b1, c10b2, H⟩ := H
      replace H := itn_cedm H; obtain ⟨c11, c11b0, c11b1, c11b2, H⟩ := H
      have c11b3 : (9223372036854775807 < x3_1.size + (1 + (rdOf ByteArray.empty l0 x4_1).size)) = False := eq_false (by have z_ := c11; simp only [ByteArray.size_append] at z_; exact Nat.not_lt.2 z_)
      replace H := itn_cedm H; obtain ⟨c12, c12b0, c12b1, c12b2, H⟩ := H
      have c12b3 : (9223372036854775807 < x3_1.size + (1 + (rdOf ByteArray.empty l0 x4_1).size) + 2) = False := eq_false (by have z_ := c12; simp only [ByteArray.size_append] at z_; exact Nat.not_lt.2 z_)
      have H' := Aside0.mk H
      clear H
      have p101 : 0 ≤ (x4_1 : Int) := of_decide_eq_true za
      have q101 : x4_1 < (l0.length : Int) := of_decide_eq_true za
      obtain ⟨ad101, e101, hx101_0⟩ := Kd.at_string HR0.out x4_1 p101 q101
      cases e101
      replace p101 := eq_true p101
      replace q101 := eq_true q101
      have p8 : 0 ≤ (0 : Int) := (by omega)
      have q8 : 0 < (rdOf ByteArray.empty l0 x4_1).size := (by have : (0 : Int) < ((rdOf ByteArray.empty l0 x4_1).size : Int) := of_decide_eq_true za; omega)
      have hx8 : ∀ h : 0 < (rdOf ByteArray.empty l0 x4_1).size, (((rdOf ByteArray.empty l0 x4_1)[0]'h).toNat : Int) = bt (rdOf ByteArray.empty l0 x4_1) 0 := bt_at (rdOf ByteArray.empty l0 x4_1) 0
      clear p8
      have qi8 : (0 < ((rdOf ByteArray.empty l0 x4_1).size : Int)) = True := eq_true (of_decide_eq_true za)
      replace q8 := eq_true q8
      go_wp2
      go_roundg k1
      case measure => have := HK1.out; omega
      case rel => exact ⟨((x3_1 ++ ((⟨#[46]⟩ : ByteArray) ++ (rdOf ByteArray.empty l0 x4_1))) ++ (⟨#[13, 10]⟩ : ByteArray)), (wrap64 (x4_1 + 1)), zs, zs, H', ⟨by have := HK1.out; omega⟩, zD⟩
     ·replace H := itn_edm H; obtain ⟨c13b0, c13b1, c13b2, H⟩ := H
      replace H := itn_cedm H; obtain ⟨c14, c14b0, c14b1, c14b2, H⟩ := H
      have c14b3 : (9223372036854775807 < x3_1.size + (rdOf ByteArray.empty l0 x4_1).size + 2) = False := eq_false (by have z_ := c14; simp only [ByteArray.size_append] at z_; exact Nat.not_lt.2 z_)
      have H' := Aside0.mk H
      clear H
      have p101 : 0 ≤ (x4_1 : Int) := of_decide_eq_true za
      have q101 : x4_1 < (l0.length : Int) := of_decide_eq_true za
      obtain ⟨ad101, e101, hx101_0⟩ := Kd.at_string HR0.out x4_1 p101 q101
      cases e101
      replace p101 := eq_true p101
      replace q101 := eq_true q101
      have p8 : 0 ≤ (0 : Int) := (by omega)
      have q8 : 0 < (rdOf ByteArray.empty l0 x4_1).size := (by have : (0 : Int) < ((rdOf ByteArray.empty l0 x4_1).size : Int) := of_decide_eq_true za; omega)
      have hx8 : ∀ h : 0 < (rdOf ByteArray.empty l0 x4_1).size, (((rdOf ByteArray.empty l0 x4_1)[0]'h).toNat : Int) = bt (rdOf ByteArray.empty l0 x4_1) 0 := bt_at (rdOf ByteArray.empty l0 x4_1) 0
      clear p8
      have qi8 : (0 < ((rdOf ByteArray.empty l0 x4_1).size : Int)) = True := eq_true (of_decide_eq_true za)
      replace q8 := eq_true q8
      go_wp2
      go_roundg k1
      case measure => have := HK1.out; omega
      case rel => exact ⟨((x3_1 ++ (rdOf ByteArray.empty l0 x4_1)) ++ (⟨#[13, 10]⟩ : ByteArray)), (wrap64 (x4_1 + 1)), zs, zs, H', ⟨by have := HK1.out; omega⟩, zD⟩
   ·replace H := itn_edm H; obtain ⟨c15b0, c15b1, c15b2, H⟩ := H
    obtain rfl := Option.some.inj H
    go_wp2
    go_ret
    exact ⟨zs, zD⟩
end Go.Proofs.YtbncnjgflhoneaaGreatDoor.F
namespace Go.Proofs.YtbncnjgflhoneaaGreatDoor.F
open Go.RowKit Go.Proofs.YtbncnjgflhoneaaGreatDoor.Hand Go.Proofs.YtbncnjgflhoneaaGreatDoorW.PrintWords Go.Proofs.YtbncnjgflhoneaaGreatDoorW.PrintLast Go.Proofs.YtbncnjgflhoneaaGreatDoorW.PrintMore
set_option linter.unusedVariables false
set_option linter.unusedSimpArgs false
def spec_l1Put.f (a0_0 : ByteArray) (a0_1 : ByteArray) : Option (ByteArray) := (spec_l1Null.f a0_0 a0_1).bind fun t102 => (if t102 = true then (some (⟨#[60, 62]⟩ : ByteArray)) else (if 1 + a0_0.size ≤ 9223372036854775807 then (if ((⟨#[60]⟩ : ByteArray) ++ a0_0).size + 1 ≤ 9223372036854775807 then (if (((⟨#[60]⟩ : ByteArray) ++ a0_0) ++ (⟨#[64]⟩ : ByteArray)).size + a0_1.size ≤ 9223372036854775807 then (if ((((⟨#[60]⟩ : ByteArray) ++ a0_0) ++ (⟨#[64]⟩ : ByteArray)) ++ a0_1).size + 1 ≤ 9223372036854775807 then (some (((((⟨#[60]⟩ : ByteArray) ++ a0_0) ++ (⟨#[64]⟩ : ByteArray)) ++ a0_1) ++ (⟨#[62]⟩ : ByteArray))) else (none)) else (none)) else (none)) else (none)))
set_option maxHeartbeats 8000000 in
set_option maxRecDepth 100000 in
theorem spec_l1Put.calls (a0_0 : ByteArray) (a0_1 : ByteArray) (r : ByteArray) (w : World) (h : spec_l1Put.f a0_0 a0_1 = some r) :
  Calls Tryz.prog 61 #[.agg #[.string a0_0, .string a0_1]] w fun e w' => e = .returned (.string r) ∧ Below w.heap.size w w' := by
 have hu32 := Tryz.underlying32
 have HB := Aside0.mk (Below.refl w.heap.size w)
 have H := h
 clear h
 unfold spec_l1Put.f at H
 replace H := bnd H; obtain ⟨t102, A2, H⟩ := H
 replace H := itb H; rcases H with ⟨rfl, H⟩ | ⟨rfl, H⟩
 ·obtain rfl := Option.some.inj H
  go_enter Tryz.func61, Tryz.ntmps61
  go_wp2_with (first | ((with_reducible refine gate_dst (N := 1) rfl ?_); refine bx (cs := #[.string a0_0, .string a0_1]) (t := 32) ?_; intro gb101 hg w4 hbox hb; have BK101 := Aside0.mk (hbox); have GW101 := gS hg; have GE101 := gS hg; replace HB := bS hb; clear hb hbox hg; have hcz5 := cz2 BK101.out; have hfz5 := fz2 BK101.out) | ((with_reducible refine gate_callee (f := 55) rfl ?_); refine gv 4 Tryz.func55 _ (spec_l1Null.calls (w := _) (h := A2.out)) ?_; intro w6 hb; replace BK101 := kS BK101 hb; replace HB := bS hb; clear hb))
  go_ret
  exact ⟨zr, zB⟩
 ·replace H := itn_edm H; obtain ⟨c7b0, c7b1, c7b2, H⟩ := H
  replace H := itn_cedm H; obtain ⟨c8, c8b0, c8b1, c8b2, H⟩ := H
  have c8b3 : (9223372036854775807 < 1 + a0_0.size + 1) = False := eq_false (by have z_ := c8; simp only [ByteArray.size_append] at z_; exact Nat.not_lt.2 z_)
  replace H := itn_cedm H; obtain ⟨c9, c9b0, c9b1, c9b2, H⟩ := H
  have c9b3 : (9223372036854775807 < 1 + a0_0.size + 1 + a0_1.size) = False := eq_false (by have z_ := c9; simp only [ByteArray.size_append] at z_; exact Nat.not_lt.2 z_)
  replace H := itn_cedm H; obtain ⟨c10, c10b0, c10b1, c10b2, H⟩ := H
  have c10b3 : (9223372036854775807 < 1 + a0_0.size + 1 + a0_1.size + 1) = False := eq_false (by have z_ := c10; simp only [ByteArray.size_append] at z_; exact Nat.not_lt.2 z_)
  obtain rfl := Option.some.inj H
  go_enter Tryz.func61, Tryz.ntmps61
  go_wp2_with (first | ((with_reducible refine gate_dst (N := 1) rfl ?_); refine bx (cs := #[.string a0_0, .string a0_1]) (t := 32) ?_; intro gb101 hg w11 hbox hb; have BK101 := Aside0.mk (hbox); have GW101 := gS hg; have GE101 := gS hg; replace HB := bS hb; clear hb hbox hg; have hcz12 := cz2 BK101.out; have hfz12 := fz2 BK101.out) | ((with_reducible refine gate_callee (f := 55) rfl ?_); refine gv 4 Tryz.func55 _ (spec_l1Null.calls (w := _) (h := A2.out)) ?_; intro w13 hb; replace BK101 := kS BK101 hb; replace HB := bS hb; clear hb; have hcz14 := cz2 BK101.out; have hfz14 := fz2 BK101.out))
  go_ret
  exact ⟨zr, zB⟩
def spec_l2Put.l0 : Nat → ByteArray → Int → ByteArray → ByteArray → List (S32) → List ByteArray → Option (ByteArray)
 | 0, _, _, _, _, _, _ => none
 | k + 1, x3, x4, x102000, x102001, x102002, x102003 => if x4 < (x102002.length : Int) then (if x3.size + 3 ≤ 9223372036854775807 then (if 0 ≤ x4 then ((spec_l1Put.f ((rd_T32 x102002 x4).f0) ((rd_T32 x102002 x4).f1)).bind fun t104 => (if (x3 ++ (⟨#[116, 111, 32]⟩ : ByteArray)).size + t104.size ≤ 9223372036854775807 then (if ((x3 ++ (⟨#[116, 111, 32]⟩ : ByteArray)) ++ t104).size + 2 ≤ 9223372036854775807 then (spec_l2Put.l0 k (((x3 ++ (⟨#[116, 111, 32]⟩ : ByteArray)) ++ t104) ++ (⟨#[13, 10]⟩ : ByteArray)) (wrap64 (x4 + 1)) x102000 x102001 x102002 x102003) else (none)) else (none))) else (none)) else (none)) else (if x3.size + 2 ≤ 9223372036854775807 then ((spec_l2Dots.f k x102003).bind fun t105 => (if (x3 ++ (⟨#[13, 10]⟩ : ByteArray)).size + t105.size ≤ 9223372036854775807 then (some ((x3 ++ (⟨#[13, 10]⟩ : ByteArray)) ++ t105)) else (none))) else (none))
def spec_l2Put.f (k : Nat) (a0_0 : ByteArray) (a0_1 : ByteArray) (l0_2 : List (S32)) (l0_3 : List ByteArray) : Option (ByteArray) := (spec_l1Put.f a0_0 a0_1).bind fun t102 => (if 5 + t102.size ≤ 9223372036854775807 then (if ((⟨#[102, 114, 111, 109, 32]⟩ : ByteArray) ++ t102).size + 2 ≤ 9223372036854775807 then (spec_l2Put.l0 k (((⟨#[102, 114, 111, 109, 32]⟩ : ByteArray) ++ t102) ++ (⟨#[13, 10]⟩ : ByteArray)) 0 a0_0 a0_1 l0_2 l0_3) else (none)) else (none))
set_option maxHeartbeats 8000000 in
set_option maxRecDepth 100000 in
theorem spec_l2Put.calls (k : Nat) (a0_0 : ByteArray) (a0_1 : ByteArray) (A0_2 : Option Addr) (c0_2 : Nat) (l0_2 : List (S32)) (A0_3 : Option Addr) (c0_3 : Nat) (l0_3 : List ByteArray) (r : ByteArray) (w : World) (hr0_2 : Kd.C k32 w A0_2 l0_2.length l0_2) (hc0_2 : l0_2.length ≤ c0_2) (hr0_3 : Kd.C Kd.string w A0_3 l0_3.length l0_3) (hc0_3 : l0_3.length ≤ c0_3) (h : spec_l2Put.f k a0_0 a0_1 l0_2 l0_3 = some r) :
  Calls Tryz.prog 60 #[.agg #[.string a0_0, .string a0_1, .slice A0_2 l0_2.length c0_2, .slice A0_3 l0_3.length c0_3]] w fun e w' => e = .returned (.string r) ∧ Below w.heap.size w w' := by
 have hu35 := Tryz.underlying35
 have hu32 := Tryz.underlying32
 have HR0_2 := Aside0.mk hr0_2
 have HC0_2 := Aside0.mk hc0_2
 clear hr0_2 hc0_2
 have HR0_3 := Aside0.mk hr0_3
 have HC0_3 := Aside0.mk hc0_3
 clear hr0_3 hc0_3
 have HB := Aside0.mk (Below.refl w.heap.size w)
 have H := h
 clear h
 unfold spec_l2Put.f at H
 replace H := bnd H; obtain ⟨t102, A2, H⟩ := H
 replace H := itn_edm H; obtain ⟨c3b0, c3b1, c3b2, H⟩ := H
 replace H := itn_cedm H; obtain ⟨c4, c4b0, c4b1, c4b2, H⟩ := H
 have c4b3 : (9223372036854775807 < 5 + t102.size + 2) = False := eq_false (by have z_ := c4; simp only [ByteArray.size_append] at z_; exact Nat.not_lt.2 z_)
 have H' := Aside0.mk H
 clear H
 go_enter Tryz.func60, Tryz.ntmps60
 go_wp2_with (first | ((with_reducible refine gate_dst (N := 1) rfl ?_); refine bx (cs := #[.string a0_0, .string a0_1, .slice A0_2 l0_2.length c0_2, .slice A0_3 l0_3.length c0_3]) (t := 35) ?_; intro gb101 hg w5 hbox hb; have BK101 := Aside0.mk (hbox); have GW101 := gS hg; have GE101 := gS hg; replace HB := bS hb; clear hb hbox hg; have hcz6 := cz4 BK101.out; have hfz6 := fz4 BK101.out) | ((with_reducible refine gate_callee (f := 61) rfl ?_); refine gv 7 Tryz.func61 _ (spec_l1Put.calls (w := _) (h := A2.out)) ?_; intro w7 hb; replace BK101 := kS BK101 hb; replace HB := bS hb; clear hb))
 go_loopg [3, 4] k (fun kq v3 v4 w' => ∃ (x3_1 : ByteArray) (x4_1 : Int), v3 = .string x3_1 ∧ v4 = .int .i64 x4_1 ∧ Aside0 (spec_l2Put.l0 kq x3_1 x4_1 a0_0 a0_1 l0_2 l0_3 = some r) ∧ Aside0 (kq ≤ k) ∧ Aside0 (w'.heap[gb101]? = some (.cells #[.string a0_0, .string a0_1, (.slice A0_2 l0_2.length c0_2), (.slice A0_3 l0_3.length c0_3)] 35 (0, 0))) ∧ Aside0 (Below w.heap.size w w'))
 case atStart => exact ⟨(((⟨#[102, 114, 111, 109, 32]⟩ : ByteArray) ++ t102) ++ (⟨#[13, 10]⟩ : ByteArray)), (0), zs, zs, H', ⟨Nat.le_refl _⟩, ⟨kQ BK101⟩, ⟨zB⟩⟩
 case round =>
  clear H'
  obtain ⟨x3_1, x4_1, rfl, rfl, HA, HK1, BK101, HB⟩ := hrel
  cases gk with
  | zero => exact absurd HA.out (by simp [spec_l2Put.l0])
  | succ k1 =>
   have H := HA.out
   clear HA
   simp only [spec_l2Put.l0] at H
   replace H := its_d_d H; rcases H with ⟨c8b0, H⟩ | ⟨c8b0, H⟩
   ·replace H := itn_edm H; obtain ⟨c9b0, c9b1, c9b2, H⟩ := H
    replace H := itn_d H; obtain ⟨c10b0, H⟩ := H
    replace H := bnd H; obtain ⟨t104, A11, H⟩ := H
    replace H := itn_cedm H; obtain ⟨c12, c12b0, c12b1, c12b2, H⟩ := H
    have c12b3 : (9223372036854775807 < x3_1.size + 3 + t104.size) = False := eq_false (by have z_ := c12; simp only [ByteArray.size_append] at z_; exact Nat.not_lt.2 z_)
    replace H := itn_cedm H; obtain ⟨c13, c13b0, c13b1, c13b2, H⟩ := H
    have c13b3 : (9223372036854775807 < x3_1.size + 3 + t104.size + 2) = False := eq_false (by have z_ := c13; simp only [ByteArray.size_append] at z_; exact Nat.not_lt.2 z_)
    have H' := Aside0.mk H
    clear H
    have hcz14 := cz4 BK101.out
    have hfz14 := fz4 BK101.out
    have p103 : 0 ≤ (x4_1 : Int) := of_decide_eq_true za
    have q103 : x4_1 < (l0_2.length : Int) := of_decide_eq_true za
    obtain ⟨ad103, e103, hx103_0, hx103_1⟩ := at_T32 HR0_2.out x4_1 p103 q103
    cases e103
    replace hx103_0 := kx HB hx103_0
    replace hx103_1 := kx HB hx103_1
    replace p103 := eq_true p103
    replace q103 := eq_true q103
    go_wp2_with (first | ((with_reducible refine gate_callee (f := 61) rfl ?_); refine gv 24 Tryz.func61 _ (spec_l1Put.calls (w := _) (h := A11.out)) ?_; intro w15 hb; replace BK101 := kS BK101 hb; replace HB := bS hb; clear hb))
    go_roundg k1
    case measure => have := HK1.out; omega
    case rel => exact ⟨(((x3_1 ++ (⟨#[116, 111, 32]⟩ : ByteArray)) ++ t104) ++ (⟨#[13, 10]⟩ : ByteArray)), (wrap64 (x4_1 + 1)), zs, zs, H', ⟨by have := HK1.out; omega⟩, ⟨kQ BK101⟩, ⟨zB⟩⟩
   ·replace H := itn_edm H; obtain ⟨c16b0, c16b1, c16b2, H⟩ := H
    replace H := bnd H; obtain ⟨t105, A17, H⟩ := H
    replace H := itn_cedm H; obtain ⟨c18, c18b0, c18b1, c18b2, H⟩ := H
    have c18b3 : (9223372036854775807 < x3_1.size + 2 + t105.size) = False := eq_false (by have z_ := c18; simp only [ByteArray.size_append] at z_; exact Nat.not_lt.2 z_)
    obtain rfl := Option.some.inj H
    have hcz19 := cz4 BK101.out
    have hfz19 := fz4 BK101.out
    go_wp2_with (first | ((with_reducible refine gate_callee (f := 103) rfl ?_); refine gv 31 Tryz.func103 #[.slice A0_3 l0_3.length c0_3] (spec_l2Dots.calls (w := _) (hr0 := cB HR0_3) (hc0 := HC0_3.out) (h := A17.out)) ?_; rintro w' ⟨nd, rfl⟩))
    go_ret
    exact ⟨zr, zB⟩
end Go.Proofs.YtbncnjgflhoneaaGreatDoor.F
