/- Of this claim, merged by program: F23, F35, F37, F13, Q3, F59, F103, F61, F60. -/
import Derived.Test.YtbncnjgflhoneaaGreatDoorN02
import Derived.Test.YtbncnjgflhoneaaGreatDoorN03
import Derived.Test.YtbncnjgflhoneaaGreatDoorN05
import Derived.Test.YtbncnjgflhoneaaGreatDoorN12
set_option linter.unusedVariables false
set_option linter.unusedSimpArgs false
namespace Go.Proofs.YtbncnjgflhoneaaGreatDoor.F
open Go.RowKit Go.Proofs.YtbncnjgflhoneaaGreatDoor.Hand Go.Proofs.YtbncnjgflhoneaaGreatDoorW.l8 Go.Proofs.YtbncnjgflhoneaaGreatDoorW.s9 Go.Proofs.YtbncnjgflhoneaaGreatDoorW.y9
def S6.j0 : Nat → Bool → Int → Int → ByteArray → ByteArray → Int → ByteArray → ByteArray → List (G6) → List ByteArray → Option (Bool)
 | 0, _, _, _, _, _, _, _, _, _, _ => none
 | k + 1, x3, a14, X5, Y3, ad9, aS6, bJ8, bJ9, bK0, bK1 => if a14 = 1 then (if X5 = 0 then ((K1.f Y3 ad9).bind fun t103 => (if t103 = true then ((K7.f k bJ8 bJ9 bK0 bK1).bind fun t104 => (if t104 = true then ((I9.f aS6 0 9999).bind fun t105 => (some t105)) else (some false))) else (some false))) else (some false)) else (if a14 = 2 then (if x3 = true then ((I9.f X5 1 999).bind fun t106 => (if t106 = true then ((D4.f k Y3 ad9).bind fun t107 => (if t107 = true then (some (aS6 == 0)) else (some false))) else (some false))) else (some false)) else (if a14 = 3 then (if x3 = true then ((I9.f X5 1 999).bind fun t108 => (if t108 = true then ((D4.f k Y3 ad9).bind fun t109 => (if t109 = true then ((I9.f aS6 0 9999).bind fun t110 => (some t110)) else (some false))) else (some false))) else (some false)) else (some false)))
def S6.f (k : Nat) (r0 : Int) (D2 : Int) (R1 : ByteArray) (V1 : ByteArray) (Y2 : Int) (X7 : ByteArray) (X8 : ByteArray) (R3 : List (G6)) (R4 : List ByteArray) : Option (Bool) := (K1.f X7 X8).bind fun t102 => (if t102 = true then (if (R3.length : Int) = 0 then (S6.j0 k ((R4.length : Int) == 0) r0 D2 R1 V1 Y2 X7 X8 R3 R4) else (S6.j0 k false r0 D2 R1 V1 Y2 X7 X8 R3 R4)) else (S6.j0 k false r0 D2 R1 V1 Y2 X7 X8 R3 R4))
set_option maxHeartbeats 8000000 in
set_option maxRecDepth 100000 in
theorem S6.calls (k : Nat) (r0 : Int) (D2 : Int) (R1 : ByteArray) (V1 : ByteArray) (Y2 : Int) (X7 : ByteArray) (X8 : ByteArray) (a96 : Option Addr) (a97 : Nat) (R3 : List (G6)) (a98 : Option Addr) (a99 : Nat) (R4 : List ByteArray) (r : Bool) (w : World) (a17 : Kd.C k32 w a96 R3.length R3) (a18 : R3.length ≤ a97) (a19 : Kd.C Kd.string w a98 R4.length R4) (a22 : R4.length ≤ a99) (h : S6.f k r0 D2 R1 V1 Y2 X7 X8 R3 R4 = some r) :
  Calls Tryz.prog 23 #[.agg #[.int .i64 r0, .int .i64 D2, .string R1, .string V1, .int .i64 Y2, .string X7, .string X8, .slice a96 R3.length a97, .slice a98 R4.length a99]] w fun e w' => e = .returned (.bool r) ∧ Below w.heap.size w w' := by
 have by1 := Tryz.underlying37
 have as2 := Tryz.underlying32
 have aV0 := Tryz.underlying35
 have ar4 := j4.mk a17
 have ar5 := j4.mk a18
 clear a17 a18
 have ar6 := j4.mk a19
 have ar7 := j4.mk a22
 clear a19 a22
 have HB := j4.mk (Below.refl w.heap.size w)
 have H := h
 clear h
 unfold S6.f at H
 have HC2 := j4.mk H
 clear H
 go_enter Tryz.func23, Tryz.ntmps23
 go_upto_region 1 with (first | ((with_reducible refine l9 (N := 1) rfl ?_); (try (refine Q4 (by rfl) ?_; dsimp only)); refine bx (cs := #[.int .i64 r0, .int .i64 D2, .string R1, .string V1, .int .i64 Y2, .string X7, .string X8, .slice a96 R3.length a97, .slice a98 R4.length a99]) (t := 37) ?_; intro j8 hg w3 o8 hb; have j5 := j4.mk (o8); have L8 := gS hg; have J7 := gS hg; replace HB := bS hb; clear hb o8 hg))
 (try simp only [Act.put, List.setIfInBounds_toArray, List.set_cons_zero, List.set_cons_succ])
 go_cut [3] (fun v3 wc => ∃ (kq : Nat) (E8 : Bool), v3 = .bool E8 ∧ j4 (S6.j0 kq E8 r0 D2 R1 V1 Y2 X7 X8 R3 R4 = some r) ∧ j4 (kq ≤ k) ∧ j4 (wc.heap[j8]? = some (.cells #[.int .i64 r0, .int .i64 D2, .string R1, .string V1, .int .i64 Y2, .string X7, .string X8, (.slice a96 R3.length a97), (.slice a98 R4.length a99)] 37 (0, 0))) ∧ j4 (Below w.heap.size w wc))
 case first =>
  have H := HC2.out
  clear HC2
  replace H := S2 H; obtain ⟨t102, A4, H⟩ := H
  replace H := itb H; rcases H with ⟨rfl, H⟩ | ⟨rfl, H⟩
  ·replace H := a45 H; rcases H with ⟨am1, aZ8, H⟩ | ⟨c6, am1, aZ8, H⟩
   ·(first | rw [am1] | (simp only [Z1, aa5]; rw [am1]) | skip)
    have H' := j4.mk H
    clear H
    have dx2 := cz9 j5.out
    have dx3 := fz9 j5.out
    go_wp2_with (first | ((with_reducible refine j6 (f := 55) rfl ?_); refine gv 7 Tryz.func55 _ (K1.calls (w := _) (h := A4.out)) ?_; intro w8 hb; replace j5 := kS j5 hb; replace HB := bS hb; clear hb; have bZ0 := cz9 j5.out; have bZ1 := fz9 j5.out))
    go_meet
    case rel => exact ⟨_, (((R4.length : Int) == 0)), zs, H', ⟨by first | omega | exact Nat.le_refl _⟩, ⟨kQ j5⟩, ⟨zB⟩⟩
   ·have cL0 : ¬ (R3 = []) := fun h_ => c6 (by rw [h_]; rfl)
    (first | rw [am1] | (simp only [Z1, aa5]; rw [am1]) | skip)
    have H' := j4.mk H
    clear H
    have cp6 := cz9 j5.out
    have cp7 := fz9 j5.out
    go_wp2_with (first | ((with_reducible refine j6 (f := 55) rfl ?_); refine gv 7 Tryz.func55 _ (K1.calls (w := _) (h := A4.out)) ?_; intro w11 hb; replace j5 := kS j5 hb; replace HB := bS hb; clear hb; have bC8 := cz9 j5.out; have bC9 := fz9 j5.out))
    go_meet
    case rel => exact ⟨_, (false), zs, H', ⟨by first | omega | exact Nat.le_refl _⟩, ⟨kQ j5⟩, ⟨zB⟩⟩
  ·have H' := j4.mk H
   clear H
   have bT2 := cz9 j5.out
   have bT3 := fz9 j5.out
   go_wp2_with (first | ((with_reducible refine j6 (f := 55) rfl ?_); refine gv 7 Tryz.func55 _ (K1.calls (w := _) (h := A4.out)) ?_; intro w14 hb; replace j5 := kS j5 hb; replace HB := bS hb; clear hb))
   go_meet
   case rel => exact ⟨_, (false), zs, H', ⟨by first | omega | exact Nat.le_refl _⟩, ⟨kQ j5⟩, ⟨zB⟩⟩
 case rest =>
  clear HC2
  obtain ⟨kq, E8, rfl, HA, HJ1, j5, HB⟩ := hcut
  cases kq with
  | zero => exact absurd HA.out (by simp [S6.j0])
  | succ kj1 =>
   have H := HA.out
   clear HA
   simp only [S6.j0] at H
   replace H := F6 H; rcases H with ⟨aN7, b79, H⟩ | ⟨aN7, b79, H⟩
   ·replace H := F6 H; rcases H with ⟨b21, b90, H⟩ | ⟨b21, b90, H⟩
    ·replace H := S2 H; obtain ⟨t103, A17, H⟩ := H
     replace H := itb H; rcases H with ⟨rfl, H⟩ | ⟨rfl, H⟩
     ·replace H := S2 H; obtain ⟨t104, A19, H⟩ := H
      replace H := itb H; rcases H with ⟨rfl, H⟩ | ⟨rfl, H⟩
      ·replace H := S2 H; obtain ⟨t105, A21, H⟩ := H
       obtain rfl := Option.some.inj H
       have cM3 := cz9 j5.out
       have cM4 := fz9 j5.out
       go_wp2_with (first | (go_at_call 55; with_reducible refine (K1.calls (w := _) (h := A17.out)).mono ?_; rintro e w23 ⟨rfl, hb⟩; replace j5 := kS j5 hb; replace HB := bS hb; clear hb; have br0 := cz9 j5.out; have br1 := fz9 j5.out) | (go_at_call 56; refine (K7.calls (w := _) (a90 := cB ar4) (aj7 := ar5.out) (a09 := cB ar6) (a10 := ar7.out) (h := A19.out)).mono ?_; rintro e w25 ⟨rfl, hb⟩; replace j5 := kS j5 hb; replace HB := bS hb; clear hb; have bR4 := cz9 j5.out; have bR5 := fz9 j5.out) | (go_at_call 57; with_reducible refine (I9.calls (w := _) (h := A21.out)).mono ?_; rintro e w' ⟨rfl, ⟨nd, rfl⟩⟩))
       go_ret
       exact ⟨zr, zB⟩
      ·obtain rfl := Option.some.inj H
       have bq2 := cz9 j5.out
       have bq3 := fz9 j5.out
       go_wp2_with (first | (go_at_call 55; with_reducible refine (K1.calls (w := _) (h := A17.out)).mono ?_; rintro e w28 ⟨rfl, hb⟩; replace j5 := kS j5 hb; replace HB := bS hb; clear hb; have cI9 := cz9 j5.out; have cJ0 := fz9 j5.out) | (go_at_call 56; refine (K7.calls (w := _) (a90 := cB ar4) (aj7 := ar5.out) (a09 := cB ar6) (a10 := ar7.out) (h := A19.out)).mono ?_; rintro e w30 ⟨rfl, hb⟩; replace j5 := kS j5 hb; replace HB := bS hb; clear hb))
       go_ret
       exact ⟨zr, zB⟩
     ·obtain rfl := Option.some.inj H
      have bR6 := cz9 j5.out
      have bR7 := fz9 j5.out
      go_wp2_with (first | (go_at_call 55; with_reducible refine (K1.calls (w := _) (h := A17.out)).mono ?_; rintro e w32 ⟨rfl, hb⟩; replace j5 := kS j5 hb; replace HB := bS hb; clear hb))
      go_ret
      exact ⟨zr, zB⟩
    ·obtain rfl := Option.some.inj H
     have bT7 := cz9 j5.out
     have bT8 := fz9 j5.out
     go_wp2
     go_ret
     exact ⟨zr, zB⟩
   ·replace H := F6 H; rcases H with ⟨ce3, dm0, H⟩ | ⟨ce3, dm0, H⟩
    ·replace H := itb H; rcases H with ⟨rfl, H⟩ | ⟨rfl, H⟩
     ·replace H := S2 H; obtain ⟨t106, A36, H⟩ := H
      replace H := itb H; rcases H with ⟨rfl, H⟩ | ⟨rfl, H⟩
      ·replace H := S2 H; obtain ⟨t107, A38, H⟩ := H
       replace H := itb H; rcases H with ⟨rfl, H⟩ | ⟨rfl, H⟩
       ·obtain rfl := Option.some.inj H
        have bP9 := cz9 j5.out
        have bQ0 := fz9 j5.out
        go_wp2_with (first | (go_at_call 57; with_reducible refine (I9.calls (w := _) (h := A36.out)).mono ?_; rintro e w' ⟨rfl, ⟨nd, rfl⟩⟩) | (go_at_call 58; with_reducible refine (D4.calls (w := _) (h := A38.out)).mono ?_; rintro e w41 ⟨rfl, hb⟩; replace j5 := kS j5 hb; replace HB := bS hb; clear hb; have cM5 := cz9 j5.out; have cM6 := fz9 j5.out))
        go_ret
        exact ⟨zr, zB⟩
       ·obtain rfl := Option.some.inj H
        have bQ1 := cz9 j5.out
        have bQ2 := fz9 j5.out
        go_wp2_with (first | (go_at_call 57; with_reducible refine (I9.calls (w := _) (h := A36.out)).mono ?_; rintro e w' ⟨rfl, ⟨nd, rfl⟩⟩) | (go_at_call 58; with_reducible refine (D4.calls (w := _) (h := A38.out)).mono ?_; rintro e w44 ⟨rfl, hb⟩; replace j5 := kS j5 hb; replace HB := bS hb; clear hb))
        go_ret
        exact ⟨zr, zB⟩
      ·obtain rfl := Option.some.inj H
       have ce4 := cz9 j5.out
       have ce5 := fz9 j5.out
       go_wp2_with (first | (go_at_call 57; with_reducible refine (I9.calls (w := _) (h := A36.out)).mono ?_; rintro e w' ⟨rfl, ⟨nd, rfl⟩⟩))
       go_ret
       exact ⟨zr, zB⟩
     ·obtain rfl := Option.some.inj H
      have dg3 := cz9 j5.out
      have dg4 := fz9 j5.out
      go_wp2
      go_ret
      exact ⟨zr, zB⟩
    ·replace H := F6 H; rcases H with ⟨cp8, cp9, H⟩ | ⟨cp8, cp9, H⟩
     ·replace H := itb H; rcases H with ⟨rfl, H⟩ | ⟨rfl, H⟩
      ·replace H := S2 H; obtain ⟨t108, A49, H⟩ := H
       replace H := itb H; rcases H with ⟨rfl, H⟩ | ⟨rfl, H⟩
       ·replace H := S2 H; obtain ⟨t109, A51, H⟩ := H
        replace H := itb H; rcases H with ⟨rfl, H⟩ | ⟨rfl, H⟩
        ·replace H := S2 H; obtain ⟨t110, A53, H⟩ := H
         obtain rfl := Option.some.inj H
         have cE6 := cz9 j5.out
         have cE7 := fz9 j5.out
         go_wp2_with (first | (go_at_call 57; with_reducible refine (I9.calls (w := _) (h := A49.out)).mono ?_; rintro e w' ⟨rfl, ⟨nd, rfl⟩⟩) | (go_at_call 58; with_reducible refine (D4.calls (w := _) (h := A51.out)).mono ?_; rintro e w55 ⟨rfl, hb⟩; replace j5 := kS j5 hb; replace HB := bS hb; clear hb; have ch3 := cz9 j5.out; have ch4 := fz9 j5.out) | (go_at_call 57; with_reducible refine (I9.calls (w := _) (h := A53.out)).mono ?_; rintro e w' ⟨rfl, ⟨nd, rfl⟩⟩))
         go_ret
         exact ⟨zr, zB⟩
        ·obtain rfl := Option.some.inj H
         have df5 := cz9 j5.out
         have df6 := fz9 j5.out
         go_wp2_with (first | (go_at_call 57; with_reducible refine (I9.calls (w := _) (h := A49.out)).mono ?_; rintro e w' ⟨rfl, ⟨nd, rfl⟩⟩) | (go_at_call 58; with_reducible refine (D4.calls (w := _) (h := A51.out)).mono ?_; rintro e w58 ⟨rfl, hb⟩; replace j5 := kS j5 hb; replace HB := bS hb; clear hb))
         go_ret
         exact ⟨zr, zB⟩
       ·obtain rfl := Option.some.inj H
        have bQ3 := cz9 j5.out
        have bQ4 := fz9 j5.out
        go_wp2_with (first | (go_at_call 57; with_reducible refine (I9.calls (w := _) (h := A49.out)).mono ?_; rintro e w' ⟨rfl, ⟨nd, rfl⟩⟩))
        go_ret
        exact ⟨zr, zB⟩
      ·obtain rfl := Option.some.inj H
       have de8 := cz9 j5.out
       have de9 := fz9 j5.out
       go_wp2
       go_ret
       exact ⟨zr, zB⟩
     ·obtain rfl := Option.some.inj H
      have dR1 := cz9 j5.out
      have dR2 := fz9 j5.out
      go_wp2
      go_ret
      exact ⟨zr, zB⟩
def ab4.f (r0 : ByteArray) (D2 : ByteArray) (J2 : List (G6)) (P8 : List ByteArray) : Option (Bool) := (O1.f r0 D2).bind fun t102 => (if t102 = true then (if (J2.length : Int) = 0 then (some ((P8.length : Int) == 0)) else (some false)) else (some false))
set_option maxHeartbeats 8000000 in
set_option maxRecDepth 100000 in
theorem ab4.calls (r0 : ByteArray) (D2 : ByteArray) (ae6 : Option Addr) (ae1 : Nat) (J2 : List (G6)) (a71 : Option Addr) (a73 : Nat) (P8 : List ByteArray) (r : Bool) (w : World) (a90 : Kd.C k32 w ae6 J2.length J2) (aj7 : J2.length ≤ ae1) (a09 : Kd.C Kd.string w a71 P8.length P8) (a10 : P8.length ≤ a73) (h : ab4.f r0 D2 J2 P8 = some r) :
  Calls Tryz.prog 35 #[.agg #[.string r0, .string D2, .slice ae6 J2.length ae1, .slice a71 P8.length a73]] w fun e w' => e = .returned (.bool r) ∧ Below w.heap.size w w' := by
 have aV0 := Tryz.underlying35
 have as2 := Tryz.underlying32
 have aF5 := j4.mk a90
 have bf4 := j4.mk aj7
 clear a90 aj7
 have ax6 := j4.mk a09
 have aF3 := j4.mk a10
 clear a09 a10
 have HB := j4.mk (Below.refl w.heap.size w)
 have H := h
 clear h
 unfold ab4.f at H
 replace H := S2 H; obtain ⟨t102, A2, H⟩ := H
 replace H := itb H; rcases H with ⟨rfl, H⟩ | ⟨rfl, H⟩
 ·replace H := a45 H; rcases H with ⟨aD2, bT9, H⟩ | ⟨c4, aD2, bT9, H⟩
  ·obtain rfl := Option.some.inj H
   go_enter Tryz.func35, Tryz.ntmps35
   go_wp2_with (first | ((with_reducible refine l9 (N := 1) rfl ?_); (try (refine Q4 (by rfl) ?_; dsimp only)); refine bx (cs := #[.string r0, .string D2, .slice ae6 J2.length ae1, .slice a71 P8.length a73]) (t := 35) ?_; intro j8 hg w5 o8 hb; have j5 := j4.mk (o8); have L8 := gS hg; have J7 := gS hg; replace HB := bS hb; clear hb o8 hg; have ct4 := cz4 j5.out; have ct5 := fz4 j5.out) | ((with_reducible refine j6 (f := 38) rfl ?_); refine gv 5 Tryz.func38 _ (O1.calls (w := _) (h := A2.out)) ?_; intro w7 hb; replace j5 := kS j5 hb; replace HB := bS hb; clear hb; have dq7 := cz4 j5.out; have dq8 := fz4 j5.out))
   go_ret
   exact ⟨zr, zB⟩
  ·have dR3 : ¬ (J2 = []) := fun h_ => c4 (by rw [h_]; rfl)
   obtain rfl := Option.some.inj H
   go_enter Tryz.func35, Tryz.ntmps35
   go_wp2_with (first | ((with_reducible refine l9 (N := 1) rfl ?_); (try (refine Q4 (by rfl) ?_; dsimp only)); refine bx (cs := #[.string r0, .string D2, .slice ae6 J2.length ae1, .slice a71 P8.length a73]) (t := 35) ?_; intro j8 hg w9 o8 hb; have j5 := j4.mk (o8); have L8 := gS hg; have J7 := gS hg; replace HB := bS hb; clear hb o8 hg; have cp6 := cz4 j5.out; have cp7 := fz4 j5.out) | ((with_reducible refine j6 (f := 38) rfl ?_); refine gv 5 Tryz.func38 _ (O1.calls (w := _) (h := A2.out)) ?_; intro w11 hb; replace j5 := kS j5 hb; replace HB := bS hb; clear hb; have bC8 := cz4 j5.out; have bC9 := fz4 j5.out))
   go_ret
   exact ⟨zr, zB⟩
 ·obtain rfl := Option.some.inj H
  go_enter Tryz.func35, Tryz.ntmps35
  go_wp2_with (first | ((with_reducible refine l9 (N := 1) rfl ?_); (try (refine Q4 (by rfl) ?_; dsimp only)); refine bx (cs := #[.string r0, .string D2, .slice ae6 J2.length ae1, .slice a71 P8.length a73]) (t := 35) ?_; intro j8 hg w13 o8 hb; have j5 := j4.mk (o8); have L8 := gS hg; have J7 := gS hg; replace HB := bS hb; clear hb o8 hg; have bD0 := cz4 j5.out; have bD1 := fz4 j5.out) | ((with_reducible refine j6 (f := 38) rfl ?_); refine gv 5 Tryz.func38 _ (O1.calls (w := _) (h := A2.out)) ?_; intro w15 hb; replace j5 := kS j5 hb; replace HB := bS hb; clear hb))
  go_ret
  exact ⟨zr, zB⟩
end Go.Proofs.YtbncnjgflhoneaaGreatDoor.F
namespace Go.Proofs.YtbncnjgflhoneaaGreatDoor.F
open Go.RowKit Go.Proofs.YtbncnjgflhoneaaGreatDoor.Hand Go.Proofs.YtbncnjgflhoneaaGreatDoorW.l8 Go.Proofs.YtbncnjgflhoneaaGreatDoorW.s9 Go.Proofs.YtbncnjgflhoneaaGreatDoorW.y9
def aa0.f (a0 : Int) : Option (Bool) := (O2.f a0 0 9999).bind fun t101 => (some t101)
set_option maxHeartbeats 8000000 in
set_option maxRecDepth 100000 in
theorem aa0.calls (a0 : Int) (r : Bool) (w : World) (h : aa0.f a0 = some r) :
  Calls Tryz.prog 37 #[.int .i64 a0] w fun e w' => e = .returned (.bool r) ∧ O7 w w' := by
 have H := h
 clear h
 unfold aa0.f at H
 replace H := S2 H; obtain ⟨t101, A2, H⟩ := H
 obtain rfl := Option.some.inj H
 go_enter Tryz.func37, Tryz.ntmps37
 go_wp2_with (first | ((with_reducible refine j6 (f := 33) rfl ?_); refine gv 4 Tryz.func33 _ (O2.calls (w := _) (h := A2.out)) ?_; rintro w' ⟨nd, rfl⟩))
 go_ret
 exact ⟨zs, zD⟩
def K8.j0 : Nat → Bool → Int → Int → ByteArray → ByteArray → Int → ByteArray → ByteArray → List (G6) → List ByteArray → Option (Bool)
 | 0, _, _, _, _, _, _, _, _, _, _ => none
 | k + 1, x3, a14, X5, Y3, ad9, aS6, bJ8, bJ9, bK0, bK1 => if a14 = 1 then ((a33.f bJ8 bJ9 bK0 bK1).bind fun t105 => (if t105 = true then ((aa0.f aS6).bind fun t106 => (if t106 = true then (if X5 = 0 then ((O1.f Y3 ad9).bind fun t107 => (some t107)) else (some false)) else (some false))) else (some false))) else (if a14 = 2 then (if x3 = true then (some (aS6 == 0)) else (some false)) else (if a14 = 3 then (if x3 = true then ((aa0.f aS6).bind fun t108 => (some t108)) else (some false)) else (some false)))
def K8.f (k : Nat) (r0 : Int) (D2 : Int) (R1 : ByteArray) (V1 : ByteArray) (Y2 : Int) (X7 : ByteArray) (X8 : ByteArray) (R3 : List (G6)) (R4 : List ByteArray) : Option (Bool) := (O2.f D2 1 999).bind fun t102 => (if t102 = true then ((a30.f k R1 V1).bind fun t103 => (if t103 = true then ((ab4.f X7 X8 R3 R4).bind fun t104 => (K8.j0 k t104 r0 D2 R1 V1 Y2 X7 X8 R3 R4)) else (K8.j0 k false r0 D2 R1 V1 Y2 X7 X8 R3 R4))) else (K8.j0 k false r0 D2 R1 V1 Y2 X7 X8 R3 R4))
set_option maxHeartbeats 8000000 in
set_option maxRecDepth 100000 in
theorem K8.calls (k : Nat) (r0 : Int) (D2 : Int) (R1 : ByteArray) (V1 : ByteArray) (Y2 : Int) (X7 : ByteArray) (X8 : ByteArray) (a96 : Option Addr) (a97 : Nat) (R3 : List (G6)) (a98 : Option Addr) (a99 : Nat) (R4 : List ByteArray) (r : Bool) (w : World) (hG : Laid w) (a17 : Kd.C k32 w a96 R3.length R3) (a18 : R3.length ≤ a97) (a19 : Kd.C Kd.string w a98 R4.length R4) (a22 : R4.length ≤ a99) (h : K8.f k r0 D2 R1 V1 Y2 X7 X8 R3 R4 = some r) :
  Calls Tryz.prog 13 #[.agg #[.int .i64 r0, .int .i64 D2, .string R1, .string V1, .int .i64 Y2, .string X7, .string X8, .slice a96 R3.length a97, .slice a98 R4.length a99]] w fun e w' => e = .returned (.bool r) ∧ Below w.heap.size w w' := by
 have by1 := Tryz.underlying37
 have as2 := Tryz.underlying32
 have aV0 := Tryz.underlying35
 have HG := j4.mk hG
 clear hG
 have ar4 := j4.mk a17
 have ar5 := j4.mk a18
 clear a17 a18
 have ar6 := j4.mk a19
 have ar7 := j4.mk a22
 clear a19 a22
 have HB := j4.mk (Below.refl w.heap.size w)
 have H := h
 clear h
 unfold K8.f at H
 have HC2 := j4.mk H
 clear H
 go_enter Tryz.func13, Tryz.ntmps13
 go_upto_region 1 with (first | ((with_reducible refine l9 (N := 1) rfl ?_); refine bx (cs := #[.int .i64 r0, .int .i64 D2, .string R1, .string V1, .int .i64 Y2, .string X7, .string X8, .slice a96 R3.length a97, .slice a98 R4.length a99]) (t := 37) ?_; intro j8 hg w3 o8 hb; have j5 := j4.mk (o8); have L8 := gS hg; have J7 := gS hg; replace HB := bS hb; clear hb o8 hg))
 (try simp only [Act.put, List.setIfInBounds_toArray, List.set_cons_zero, List.set_cons_succ])
 go_cut [3] (fun v3 wc => ∃ (kq : Nat) (E8 : Bool), v3 = .bool E8 ∧ j4 (K8.j0 kq E8 r0 D2 R1 V1 Y2 X7 X8 R3 R4 = some r) ∧ j4 (kq ≤ k) ∧ j4 (wc.heap[j8]? = some (.cells #[.int .i64 r0, .int .i64 D2, .string R1, .string V1, .int .i64 Y2, .string X7, .string X8, (.slice a96 R3.length a97), (.slice a98 R4.length a99)] 37 (0, 0))) ∧ j4 (Below w.heap.size w wc))
 case first =>
  have H := HC2.out
  clear HC2
  replace H := S2 H; obtain ⟨t102, A4, H⟩ := H
  replace H := itb H; rcases H with ⟨rfl, H⟩ | ⟨rfl, H⟩
  ·replace H := S2 H; obtain ⟨t103, A6, H⟩ := H
   replace H := itb H; rcases H with ⟨rfl, H⟩ | ⟨rfl, H⟩
   ·replace H := S2 H; obtain ⟨t104, A8, H⟩ := H
    have H' := j4.mk H
    clear H
    have bZ0 := cz9 j5.out
    have bZ1 := fz9 j5.out
    go_wp2_with (first | ((with_reducible refine j6 (f := 33) rfl ?_); refine gv 6 Tryz.func33 _ (O2.calls (w := _) (h := A4.out)) ?_; rintro w' ⟨nd, rfl⟩) | (go_at_call 34; refine (a30.calls (w := _) (hG := gB) (h := A6.out)).mono ?_; rintro e w10 ⟨rfl, hb⟩; replace j5 := kS j5 hb; replace HB := bS hb; clear hb; have be4 := cz9 j5.out; have be5 := fz9 j5.out) | (go_at_call 35; refine (ab4.calls (w := _) (a90 := cB ar4) (aj7 := ar5.out) (a09 := cB ar6) (a10 := ar7.out) (h := A8.out)).mono ?_; rintro e w12 ⟨rfl, hb⟩; replace j5 := kS j5 hb; replace HB := bS hb; clear hb))
    go_meet
    case rel => exact ⟨_, (t104), zs, H', ⟨by first | omega | exact Nat.le_refl _⟩, ⟨kQ j5⟩, ⟨zB⟩⟩
   ·have H' := j4.mk H
    clear H
    have bT2 := cz9 j5.out
    have bT3 := fz9 j5.out
    go_wp2_with (first | ((with_reducible refine j6 (f := 33) rfl ?_); refine gv 6 Tryz.func33 _ (O2.calls (w := _) (h := A4.out)) ?_; rintro w' ⟨nd, rfl⟩) | (go_at_call 34; refine (a30.calls (w := _) (hG := gB) (h := A6.out)).mono ?_; rintro e w14 ⟨rfl, hb⟩; replace j5 := kS j5 hb; replace HB := bS hb; clear hb))
    go_meet
    case rel => exact ⟨_, (false), zs, H', ⟨by first | omega | exact Nat.le_refl _⟩, ⟨kQ j5⟩, ⟨zB⟩⟩
  ·have H' := j4.mk H
   clear H
   have bB7 := cz9 j5.out
   have bB8 := fz9 j5.out
   go_wp2_with (first | ((with_reducible refine j6 (f := 33) rfl ?_); refine gv 6 Tryz.func33 _ (O2.calls (w := _) (h := A4.out)) ?_; rintro w' ⟨nd, rfl⟩))
   go_meet
   case rel => exact ⟨_, (false), zs, H', ⟨by first | omega | exact Nat.le_refl _⟩, ⟨kQ j5⟩, ⟨zB⟩⟩
 case rest =>
  clear HC2
  obtain ⟨kq, E8, rfl, HA, HJ1, j5, HB⟩ := hcut
  cases kq with
  | zero => exact absurd HA.out (by simp [K8.j0])
  | succ kj1 =>
   have H := HA.out
   clear HA
   simp only [K8.j0] at H
   replace H := F6 H; rcases H with ⟨b21, b90, H⟩ | ⟨b21, b90, H⟩
   ·replace H := S2 H; obtain ⟨t105, A17, H⟩ := H
    replace H := itb H; rcases H with ⟨rfl, H⟩ | ⟨rfl, H⟩
    ·replace H := S2 H; obtain ⟨t106, A19, H⟩ := H
     replace H := itb H; rcases H with ⟨rfl, H⟩ | ⟨rfl, H⟩
     ·replace H := F6 H; rcases H with ⟨bf1, bB2, H⟩ | ⟨bf1, bB2, H⟩
      ·replace H := S2 H; obtain ⟨t107, A22, H⟩ := H
       obtain rfl := Option.some.inj H
       have bO9 := cz9 j5.out
       have bP0 := fz9 j5.out
       go_wp2_with (first | ((with_reducible refine j6 (f := 36) rfl ?_); refine gv 23 Tryz.func36 #[.agg #[.string X7, .string X8, .slice a96 R3.length a97, .slice a98 R4.length a99]] (a33.calls (w := _) (hG := gB) (a90 := cB ar4) (_hc0_2 := ar5.out) (a09 := cB ar6) (a10 := ar7.out) (h := A17.out)) ?_; intro w24 hb; replace j5 := kS j5 hb; replace HB := bS hb; clear hb; have dm1 := cz9 j5.out; have dm2 := fz9 j5.out) | (go_at_call 37; with_reducible refine (aa0.calls (w := _) (h := A19.out)).mono ?_; rintro e w' ⟨rfl, ⟨nd, rfl⟩⟩) | (go_at_call 38; with_reducible refine (O1.calls (w := _) (h := A22.out)).mono ?_; rintro e w26 ⟨rfl, hb⟩; replace j5 := kS j5 hb; replace HB := bS hb; clear hb))
       go_ret
       exact ⟨zr, zB⟩
      ·obtain rfl := Option.some.inj H
       have bq2 := cz9 j5.out
       have bq3 := fz9 j5.out
       go_wp2_with (first | ((with_reducible refine j6 (f := 36) rfl ?_); refine gv 23 Tryz.func36 #[.agg #[.string X7, .string X8, .slice a96 R3.length a97, .slice a98 R4.length a99]] (a33.calls (w := _) (hG := gB) (a90 := cB ar4) (_hc0_2 := ar5.out) (a09 := cB ar6) (a10 := ar7.out) (h := A17.out)) ?_; intro w28 hb; replace j5 := kS j5 hb; replace HB := bS hb; clear hb; have cI9 := cz9 j5.out; have cJ0 := fz9 j5.out) | (go_at_call 37; with_reducible refine (aa0.calls (w := _) (h := A19.out)).mono ?_; rintro e w' ⟨rfl, ⟨nd, rfl⟩⟩))
       go_ret
       exact ⟨zr, zB⟩
     ·obtain rfl := Option.some.inj H
      have cq0 := cz9 j5.out
      have cq1 := fz9 j5.out
      go_wp2_with (first | ((with_reducible refine j6 (f := 36) rfl ?_); refine gv 23 Tryz.func36 #[.agg #[.string X7, .string X8, .slice a96 R3.length a97, .slice a98 R4.length a99]] (a33.calls (w := _) (hG := gB) (a90 := cB ar4) (_hc0_2 := ar5.out) (a09 := cB ar6) (a10 := ar7.out) (h := A17.out)) ?_; intro w31 hb; replace j5 := kS j5 hb; replace HB := bS hb; clear hb; have bD2 := cz9 j5.out; have bD3 := fz9 j5.out) | (go_at_call 37; with_reducible refine (aa0.calls (w := _) (h := A19.out)).mono ?_; rintro e w' ⟨rfl, ⟨nd, rfl⟩⟩))
      go_ret
      exact ⟨zr, zB⟩
    ·obtain rfl := Option.some.inj H
     have bT7 := cz9 j5.out
     have bT8 := fz9 j5.out
     go_wp2_with (first | ((with_reducible refine j6 (f := 36) rfl ?_); refine gv 23 Tryz.func36 #[.agg #[.string X7, .string X8, .slice a96 R3.length a97, .slice a98 R4.length a99]] (a33.calls (w := _) (hG := gB) (a90 := cB ar4) (_hc0_2 := ar5.out) (a09 := cB ar6) (a10 := ar7.out) (h := A17.out)) ?_; intro w34 hb; replace j5 := kS j5 hb; replace HB := bS hb; clear hb))
     go_ret
     exact ⟨zr, zB⟩
   ·replace H := F6 H; rcases H with ⟨dm3, dm4, H⟩ | ⟨dm3, dm4, H⟩
    ·replace H := itb H; rcases H with ⟨rfl, H⟩ | ⟨rfl, H⟩
     ·obtain rfl := Option.some.inj H
      have bB9 := cz9 j5.out
      have bC0 := fz9 j5.out
      go_wp2
      go_ret
      exact ⟨zr, zB⟩
     ·obtain rfl := Option.some.inj H
      have cJ1 := cz9 j5.out
      have cJ2 := fz9 j5.out
      go_wp2
      go_ret
      exact ⟨zr, zB⟩
    ·replace H := F6 H; rcases H with ⟨dR4, dR5, H⟩ | ⟨dR4, dR5, H⟩
     ·replace H := itb H; rcases H with ⟨rfl, H⟩ | ⟨rfl, H⟩
      ·replace H := S2 H; obtain ⟨t108, A41, H⟩ := H
       obtain rfl := Option.some.inj H
       have cM5 := cz9 j5.out
       have cM6 := fz9 j5.out
       go_wp2_with (first | (go_at_call 37; with_reducible refine (aa0.calls (w := _) (h := A41.out)).mono ?_; rintro e w' ⟨rfl, ⟨nd, rfl⟩⟩))
       go_ret
       exact ⟨zr, zB⟩
      ·obtain rfl := Option.some.inj H
       have bQ1 := cz9 j5.out
       have bQ2 := fz9 j5.out
       go_wp2
       go_ret
       exact ⟨zr, zB⟩
     ·obtain rfl := Option.some.inj H
      have cK4 := cz9 j5.out
      have cK5 := fz9 j5.out
      go_wp2
      go_ret
      exact ⟨zr, zB⟩
end Go.Proofs.YtbncnjgflhoneaaGreatDoor.F
namespace Go.Proofs.YtbncnjgflhoneaaGreatDoor.Hand
open Go.RowKit Go.Proofs.YtbncnjgflhoneaaGreatDoor.F Go.Proofs.YtbncnjgflhoneaaGreatDoorW.l8 Go.Proofs.YtbncnjgflhoneaaGreatDoorW.s9 Go.Proofs.YtbncnjgflhoneaaGreatDoorW.y9
def chk : List G6 → List G6 → Bool
 | _, [] => true
 | old, a :: l => aD3 a && (old.all (fun b => !aD0 b a) && chk (old ++ [a]) l)
theorem cM7 : ∀ (l old : List G6), chk old l = (l.all aD3 && (ao8 l && l.all (fun a => old.all (fun b => !aD0 b a))))
 | [], old => by simp [chk, ao8]
 | a :: l, old => by
  rw [chk, cM7 l (old ++ [a]), ao8]
  simp only [List.all_cons, List.all_append, List.all_nil, Bool.and_true]
  have e : (l.all fun x => (old.all fun b => !aD0 b x) && !aD0 a x) = ((l.all fun x => old.all fun b => !aD0 b x) && l.all fun x => !aD0 a x) := by
   rw [Bool.eq_iff_iff]
   simp only [Bool.and_eq_true, List.all_eq_true]
   exact ⟨fun h => ⟨fun x hx => (h x hx).1, fun x hx => (h x hx).2⟩, fun h x hx => ⟨h.1 x hx, h.2 x hx⟩⟩
  rw [e]
  cases aD3 a <;> cases l.all aD3 <;> cases ao8 l <;> cases (old.all fun b => !aD0 b a) <;> cases (l.all fun x => old.all fun b => !aD0 b x) <;> cases (l.all fun x => !aD0 a x) <;> rfl
theorem cv9 (l : List G6) : chk [] l = (l.all aD3 && ao8 l) := by
 rw [cM7]
 simp only [List.all_nil]
 rw [show (l.all fun _ => true) = true by simp, Bool.and_true]
def av3 (u d : ByteArray) (ts : List G6) (body : List ByteArray) : Prop := u.size ≤ 1073741824 ∧ d.size ≤ 1073741824 ∧ (∀ a ∈ ts, b65 a) ∧ (∀ s ∈ body, s.size ≤ 1073741824) ∧ ts.length ≤ 1073741824 ∧ body.length ≤ 1073741824
def bU0 (u d : ByteArray) (ts : List G6) (body : List ByteArray) : Bool := (U9 u d || a43 u d) && (decide (1 ≤ ts.length ∧ ts.length ≤ 4) && ae3 body)
theorem c48 (u d : ByteArray) (ts : List G6) (body : List ByteArray) (hs : av3 u d ts body) : ∀ (e i : Nat), ts.length = i + e → Ev (fun k => K7.l0 k (i : Int) u d ts body) (chk (ts.take i) (ts.drop i) && bU0 u d ts body) := by
 obtain ⟨hu, hd, ht, hb, hl1, hl2⟩ := hs
 intro e
 induction e with
 | zero =>
  intro i hi
  rw [List.drop_eq_nil_of_le (by omega), chk, Bool.true_and]
  refine Ev.step (f := fun k => (D4.f k u d).bind fun t106 => (if t106 = true then ((I9.f (ts.length : Int) 1 4).bind fun t107 => (if t107 = true then ((F8.f k body).bind fun t108 => (some t108)) else (some false))) else ((K1.f u d).bind fun t109 => (if t109 = true then ((I9.f (ts.length : Int) 1 4).bind fun t110 => (if t110 = true then ((F8.f k body).bind fun t111 => (some t111)) else (some false))) else (some false)))))
   (fun k => by rw [K7.l0, if_neg (by omega)]) ?_
  have hA := aL6 u d (by omega) (by omega)
  have hB := be6 body (by omega) (fun s h => by have := hb s h; omega)
  have hI : I9.f (ts.length : Int) 1 4 = some (decide (1 ≤ ts.length ∧ ts.length ≤ 4)) := by
   rw [aV2]
   exact congrArg some (decide_eq_decide.2 (by omega))
  have hX : Ev (fun k => (I9.f (ts.length : Int) 1 4).bind fun t107 => (if t107 = true then ((F8.f k body).bind fun t108 => (some t108)) else (some false))) (decide (1 ≤ ts.length ∧ ts.length ≤ 4) && ae3 body) := by
   rw [hI]
   cases decide (1 ≤ ts.length ∧ ts.length ≤ 4)
   ·exact Ev.now _
   ·rw [Bool.true_and]
    exact Ev.congr (fun k => by rw [Option.bind_some, if_pos rfl]) (Ev.call hB (h := fun _ => some (ae3 body)) (fun n => rfl) (Ev.now _))
  unfold bU0
  cases ha : U9 u d
  ·rw [ha] at hA
   refine Ev.call hA (fun n => by rw [if_neg (by decide), aL2, Option.bind_some]) ?_
   cases hn : a43 u d
   ·exact Ev.now _
   ·exact hX
  ·rw [ha] at hA
   exact Ev.call hA (fun n => by rw [if_pos rfl]) hX
 | succ e ih =>
  intro i hi
  have hlt : i < ts.length := by omega
  rw [List.drop_eq_getElem_cons hlt, chk]
  have hT := ht _ (List.getElem_mem hlt)
  have hA := aL6 ts[i].f0 ts[i].f1 (by have := hT.1; omega) (by have := hT.2; omega)
  refine Ev.step (f := fun k => (D4.f k ts[i].f0 ts[i].f1).bind fun t103 => (if t103 = true then (K7.l1 k (i : Int) ((0 : Nat) : Int) u d ts body) else (some false)))
   (fun k => by rw [K7.l0, if_pos (by omega), if_pos (by omega), ao9 _ _ hlt]; rfl) ?_
  cases hg : aD3 ts[i]
  ·rw [show U9 ts[i].f0 ts[i].f1 = false from hg] at hA
   exact Ev.call hA (h := fun _ => some false) (fun n => by rw [if_neg (by decide)]) (Ev.now _)
  ·rw [show U9 ts[i].f0 ts[i].f1 = true from hg] at hA
   refine Ev.call hA (fun n => by rw [if_pos rfl]) ?_
   rw [Bool.true_and]
   have hN := ih (i + 1) (by omega)
   rw [List.take_succ_eq_append_getElem hlt] at hN
   have inner : ∀ (g j : Nat), i = j + g → Ev (fun k => K7.l1 k (i : Int) (j : Int) u d ts body) (((ts.take i).drop j).all (fun b => !aD0 b ts[i]) && (chk (ts.take i ++ [ts[i]]) (ts.drop (i + 1)) && bU0 u d ts body)) := by
    intro g
    induction g with
    | zero =>
     intro j hj
     rw [List.drop_eq_nil_of_le (by rw [List.length_take]; omega), List.all_nil, Bool.true_and]
     exact Ev.step (f := fun k => K7.l0 k ((i + 1 : Nat) : Int) u d ts body) (fun k => by rw [K7.l1, if_neg (by omega), Y5 (x := (i : Int) + 1) (by omega) (by omega)]; rfl) hN
    | succ g ihg =>
     intro j hj
     have hj2 : j < ts.length := by omega
     have hj3 : j < (ts.take i).length := by rw [List.length_take]; omega
     rw [List.drop_eq_getElem_cons hj3, List.all_cons, List.getElem_take]
     have dR6 : ((((E6 ts (j : Int)).f0).toList) == (((E6 ts (i : Int)).f0).toList) && ((((E6 ts (j : Int)).f1).toList) == (((E6 ts (i : Int)).f1).toList))) = aD0 ts[j] ts[i] := by
      rw [ao9 _ _ hlt, ao9 _ _ hj2, toL, toL, toL, toL]
      rfl
     refine Ev.step (f := fun k => if aD0 ts[j] ts[i] = true then some false else K7.l1 k (i : Int) ((j + 1 : Nat) : Int) u d ts body) (fun k => by
      rw [K7.l1, if_pos (by omega), if_pos (by omega), if_pos (by omega), if_pos (by omega), if_pos (by omega), dR6, Y5 (x := (j : Int) + 1) (by omega) (by omega)]
      rfl) ?_
     cases hsm : aD0 ts[j] ts[i]
     ·refine Ev.congr (fun k => if_neg (by decide)) ?_
      exact ihg (j + 1) (by omega)
     ·exact Ev.congr (f := fun _ => some false) (fun k => if_pos rfl) (Ev.now _)
   have h0 := inner i 0 (by omega)
   rw [List.drop_zero] at h0
   rw [Bool.and_assoc]
   exact h0
theorem bf5 (u d : ByteArray) (ts : List G6) (body : List ByteArray) (hs : av3 u d ts body) : Ev (fun k => K7.f k u d ts body) (am6 u d ts body) := by
 have h := c48 u d ts body hs ts.length 0 (by omega)
 rw [List.take_zero, List.drop_zero, cv9] at h
 have e : (ts.all aD3 && ao8 ts && bU0 u d ts body) = am6 u d ts body := by
  unfold bU0 am6
  rw [show (ts.all fun a => U9 a.f0 a.f1) = ts.all aD3 from rfl]
  cases ts.all aD3 <;> cases ao8 ts <;> cases U9 u d <;> cases a43 u d <;> cases decide (1 ≤ ts.length ∧ ts.length ≤ 4) <;> cases ae3 body <;> rfl
 rw [e] at h
 exact h
theorem aW6 (u d : ByteArray) (ts : List G6) (body : List ByteArray) (hs : av3 u d ts body) : a33.f u d ts body = some (am6 u d ts body) := by
 obtain ⟨hu, hd, ht, hb, _, _⟩ := hs
 unfold a33.f
 rw [if_pos]
 simp only [Bool.and_eq_true, List.all_eq_true]
 exact ⟨⟨⟨decide_eq_true hu, decide_eq_true hd⟩, fun a ha => ⟨decide_eq_true (ht a ha).1, decide_eq_true (ht a ha).2⟩⟩, fun s hs => decide_eq_true (hb s hs)⟩
def aD7 (u d : ByteArray) (ts : List G6) (body : List ByteArray) : Bool := a43 u d && (decide (ts.length = 0) && decide (body.length = 0))
def ap4 (kind id : Int) (au ad : ByteArray) (now : Int) (u d : ByteArray) (ts : List G6) (body : List ByteArray) : Bool :=
 if kind = 1 then am6 u d ts body && (decide (0 ≤ now ∧ now ≤ 9999) && (decide (id = 0) && a43 au ad))
 else if kind = 2 then aD7 u d ts body && (decide (1 ≤ id ∧ id ≤ 999) && (U9 au ad && decide (now = 0)))
 else if kind = 3 then aD7 u d ts body && (decide (1 ≤ id ∧ id ≤ 999) && (U9 au ad && decide (0 ≤ now ∧ now ≤ 9999)))
 else false
theorem cZ8 (kind id : Int) (au ad : ByteArray) (now : Int) (u d : ByteArray) (ts : List G6) (body : List ByteArray) (hs : av3 u d ts body) (hau : au.size ≤ 1073741824) (had : ad.size ≤ 1073741824) :
  Ev (fun k => S6.j0 k (aD7 u d ts body) kind id au ad now u d ts body) (ap4 kind id au ad now u d ts body) := by
 have hA := aL6 au ad (by omega) (by omega)
 have hM := bf5 u d ts body hs
 unfold ap4
 by_cases k1 : kind = 1
 ·rw [if_pos k1]
  refine Ev.step (f := fun k => (if id = 0 then ((K1.f au ad).bind fun t103 => (if t103 = true then ((K7.f k u d ts body).bind fun t104 => (if t104 = true then ((I9.f now 0 9999).bind fun t105 => (some t105)) else (some false))) else (some false))) else (some false))) (fun k => by rw [S6.j0, if_pos k1]) ?_
  by_cases hid : id = 0
  ·refine Ev.congr (fun k => by rw [if_pos hid, aL2, Option.bind_some]) ?_
   rw [decide_eq_true hid, Bool.true_and]
   cases hn : a43 au ad
   ·rw [Bool.and_false, Bool.and_false]
    exact Ev.congr (f := fun _ => some false) (fun k => if_neg (by decide)) (Ev.now _)
   ·refine Ev.congr (fun k => if_pos rfl) ?_
    rw [Bool.and_true]
    cases hm : am6 u d ts body
    ·rw [hm] at hM
     exact Ev.call hM (h := fun _ => some false) (fun n => if_neg (by decide)) (Ev.now _)
    ·rw [hm] at hM
     refine Ev.call hM (h := fun _ => some (decide (0 ≤ now ∧ now ≤ 9999))) (fun n => by rw [if_pos rfl, aV2]; rfl) (by rw [Bool.true_and]; exact Ev.now _)
  ·rw [decide_eq_false hid, Bool.false_and, Bool.and_false, Bool.and_false]
   exact Ev.congr (f := fun _ => some false) (fun k => if_neg hid) (Ev.now _)
 rw [if_neg k1]
 have three : ∀ (x : Nat → Option Bool) (y : Bool), Ev x y → Ev (fun k => if aD7 u d ts body = true then ((I9.f id 1 999).bind fun t106 => (if t106 = true then ((D4.f k au ad).bind fun t107 => (if t107 = true then x k else (some false))) else (some false))) else (some false)) (aD7 u d ts body && (decide (1 ≤ id ∧ id ≤ 999) && (U9 au ad && y))) := by
  intro x y hx
  cases aD7 u d ts body
  ·exact Ev.congr (f := fun _ => some false) (fun k => if_neg (by decide)) (Ev.now _)
  ·refine Ev.congr (fun k => by rw [if_pos rfl, aV2, Option.bind_some]) ?_
   rw [Bool.true_and]
   cases decide (1 ≤ id ∧ id ≤ 999)
   ·exact Ev.congr (f := fun _ => some false) (fun k => if_neg (by decide)) (Ev.now _)
   ·refine Ev.congr (fun k => if_pos rfl) ?_
    rw [Bool.true_and]
    cases ha : U9 au ad
    ·rw [ha] at hA
     exact Ev.call hA (h := fun _ => some false) (fun n => if_neg (by decide)) (Ev.now _)
    ·rw [ha] at hA
     rw [Bool.true_and]
     exact Ev.call hA (fun n => if_pos rfl) hx
 by_cases k2 : kind = 2
 ·rw [if_pos k2]
  have h := three (fun _ => some (now == 0)) (decide (now = 0)) (Ev.now _)
  exact Ev.step (fun k => by rw [S6.j0, if_neg k1, if_pos k2]) h
 rw [if_neg k2]
 by_cases k3 : kind = 3
 ·rw [if_pos k3]
  have h := three (fun _ => (I9.f now 0 9999).bind fun t110 => (some t110)) (decide (0 ≤ now ∧ now ≤ 9999)) (Ev.congr (f := fun _ => some (decide (0 ≤ now ∧ now ≤ 9999))) (fun k => by rw [aV2]; rfl) (Ev.now _))
  exact Ev.step (fun k => by rw [S6.j0, if_neg k1, if_neg k2, if_pos k3]) h
 rw [if_neg k3]
 exact Ev.step (f := fun _ => some false) (fun k => by rw [S6.j0, if_neg k1, if_neg k2, if_neg k3]) (Ev.now _)
theorem bf6 (kind id : Int) (au ad : ByteArray) (now : Int) (u d : ByteArray) (ts : List G6) (body : List ByteArray) (hs : av3 u d ts body) (hau : au.size ≤ 1073741824) (had : ad.size ≤ 1073741824) :
  Ev (fun k => S6.f k kind id au ad now u d ts body) (ap4 kind id au ad now u d ts body) := by
 have h := cZ8 kind id au ad now u d ts body hs hau had
 refine Ev.congr (fun k => ?_) h
 unfold S6.f aD7
 rw [aL2, Option.bind_some]
 cases a43 u d
 ·rw [if_neg (by decide)]
  rfl
 ·rw [if_pos rfl, Bool.true_and]
  by_cases h1 : (ts.length : Int) = 0
  ·rw [if_pos h1, decide_eq_true (p := ts.length = 0) (by omega), Bool.true_and]
   have : ((body.length : Int) == 0) = decide (body.length = 0) := by
    rw [Bool.eq_iff_iff]
    simp
   rw [this]
  ·rw [if_neg h1, decide_eq_false (p := ts.length = 0) (by omega), Bool.false_and]
theorem aW7 (kind id : Int) (au ad : ByteArray) (now : Int) (u d : ByteArray) (ts : List G6) (body : List ByteArray) (hs : av3 u d ts body) (had : ad.size ≤ 1073741824) :
  Ev (fun k => K8.f k kind id au ad now u d ts body) (ap4 kind id au ad now u d ts body) := by
 have hA : Ev (fun k => a30.f k au ad) (U9 au ad) := Ev.exact (ad.size + 2) fun k hk => b41 au ad had k hk
 have hE : ab4.f u d ts body = some (aD7 u d ts body) := by
  unfold ab4.f O1.f aD7
  rw [Option.bind_some]
  show (if a43 u d = true then _ else _) = _
  cases a43 u d
  ·rw [if_neg (by decide)]; rfl
  ·rw [if_pos rfl, Bool.true_and]
   by_cases h1 : (ts.length : Int) = 0
   ·rw [if_pos h1, decide_eq_true (p := ts.length = 0) (by omega), Bool.true_and]
    congr 1
    rw [Bool.eq_iff_iff]
    simp
   ·rw [if_neg h1, decide_eq_false (p := ts.length = 0) (by omega)]
    rfl
 have hT : aa0.f now = some (decide (0 ≤ now ∧ now ≤ 9999)) := by
  unfold aa0.f
  rw [b68]
  rfl
 have hj : ∀ x : Bool, x = (decide (1 ≤ id ∧ id ≤ 999) && (U9 au ad && aD7 u d ts body)) → Ev (fun k => K8.j0 k x kind id au ad now u d ts body) (ap4 kind id au ad now u d ts body) := by
  intro x hx
  refine Ev.step (f := fun _ => some (ap4 kind id au ad now u d ts body)) (fun k => ?_) (Ev.now _)
  rw [K8.j0]
  unfold ap4
  by_cases k1 : kind = 1
  ·rw [if_pos k1, if_pos k1, aW6 u d ts body hs, Option.bind_some, hT]
   cases am6 u d ts body
   ·rfl
   ·rw [if_pos rfl, Option.bind_some]
    cases decide (0 ≤ now ∧ now ≤ 9999)
    ·rfl
    ·rw [if_pos rfl]
     by_cases hid : id = 0
     ·rw [if_pos hid, decide_eq_true hid]; rfl
     ·rw [if_neg hid, decide_eq_false hid]; rfl
  rw [if_neg k1, if_neg k1]
  by_cases k2 : kind = 2
  ·rw [if_pos k2, if_pos k2, hx]
   have e : (now == 0) = decide (now = 0) := rfl
   rw [e]
   cases decide (1 ≤ id ∧ id ≤ 999) <;> cases U9 au ad <;> cases aD7 u d ts body <;> rfl
  rw [if_neg k2, if_neg k2]
  by_cases k3 : kind = 3
  ·rw [if_pos k3, if_pos k3, hx, hT]
   cases decide (1 ≤ id ∧ id ≤ 999) <;> cases U9 au ad <;> cases aD7 u d ts body <;> rfl
  rw [if_neg k3, if_neg k3]
 unfold K8.f
 refine Ev.congr (fun k => by rw [b68, Option.bind_some]) ?_
 cases h1 : decide (1 ≤ id ∧ id ≤ 999)
 ·exact Ev.congr (fun k => if_neg (by decide)) (hj false (by rw [h1]; rfl))
 ·refine Ev.congr (fun k => if_pos rfl) ?_
  cases h2 : U9 au ad
  ·rw [h2] at hA
   exact Ev.call hA (fun n => if_neg (by decide)) (hj false (by rw [h1, h2]; rfl))
  ·rw [h2] at hA
   exact Ev.call hA (fun n => by rw [if_pos rfl, hE, Option.bind_some]) (hj _ (by rw [h1, h2]; rfl))
end Go.Proofs.YtbncnjgflhoneaaGreatDoor.Hand
namespace Go.Proofs.YtbncnjgflhoneaaGreatDoor.F
open Go.RowKit Go.Proofs.YtbncnjgflhoneaaGreatDoor.Hand Go.Proofs.YtbncnjgflhoneaaGreatDoorW.l8 Go.Proofs.YtbncnjgflhoneaaGreatDoorW.s9 Go.Proofs.YtbncnjgflhoneaaGreatDoorW.y9
def L7.f : Nat → Int → Option (ByteArray)
 | 0, _ => none
 | k + 1, a0 => if a0 < (-9223372036854775807) then (some (⟨#[45, 57, 50, 50, 51, 51, 55, 50, 48, 51, 54, 56, 53, 52, 55, 55, 53, 56, 48, 56]⟩ : ByteArray)) else (if a0 < 0 then ((L7.f k (wrap64 (-a0))).bind fun t101 => (if 1 + t101.size ≤ 9223372036854775807 then (some ((⟨#[45]⟩ : ByteArray) ++ t101)) else (none))) else (if a0 < 10 then (some (strOfNums (([(wrap64 (48 + a0)) % 256] : List Int)))) else ((L7.f k (wrap64 (Int.tdiv a0 10))).bind fun t105 => ((some (([(wrap64 (48 + (Int.tmod a0 10))) % 256] : List Int) : List Int)).bind fun aU6 => (if t105.size + (strOfNums aU6).size ≤ 9223372036854775807 then (some (t105 ++ (strOfNums aU6))) else (none))))))
def L7.T7 : Bool × List (List Nat × List Nat) := (true, [([], []), ([0], [0]), ([1], [1]), ([], []), ([3], [3]), ([4], [4]), ([5], [5]), ([6], [6]), ([7], [7]), ([2, 8], [2, 8]), ([9, 2, 0, 1, 2, 3, 4, 5, 6, 7, 8, 9], [9])])
def L7.B7 : List Nat := [0, 1, 3, 0, 8, 24, 56, 120, 248, 511, 1023]
theorem L7.ds5 : aq1 .any (opsOf Tryz.f59 7) = L7.T7 := by kernel_rfl
theorem L7.cF5 : af3 L7.T7.2 L7.B7 = true := by kernel_rfl
set_option maxHeartbeats 8000000 in
set_option maxRecDepth 100000 in
theorem L7.calls (k : Nat) : ∀ (a0 : Int) (r : ByteArray) (w : World) (h : L7.f k a0 = some r),
  Calls Tryz.prog 59 #[.int .i64 a0] w fun e w' => e = .returned (.string r) ∧ Below w.heap.size w w' := by
 induction k using Nat.strongRecOn with
 | _ k ih =>
 intro a0 r w h
 cases k with
 | zero => exact absurd h (by simp [L7.f])
 | succ k =>
 simp only [L7.f] at h
 have HB := j4.mk (Below.refl w.heap.size w)
 have H : (if a0 < (-9223372036854775807) then (some (⟨#[45, 57, 50, 50, 51, 51, 55, 50, 48, 51, 54, 56, 53, 52, 55, 55, 53, 56, 48, 56]⟩ : ByteArray)) else (if a0 < 0 then ((L7.f k (wrap64 (-a0))).bind fun t101 => (if 1 + t101.size ≤ 9223372036854775807 then (some ((⟨#[45]⟩ : ByteArray) ++ t101)) else (none))) else (if a0 < 10 then (some (strOfNums (([(wrap64 (48 + a0)) % 256] : List Int)))) else ((L7.f k (wrap64 (Int.tdiv a0 10))).bind fun t105 => ((some (([(wrap64 (48 + (Int.tmod a0 10))) % 256] : List Int) : List Int)).bind fun aU6 => (if t105.size + (strOfNums aU6).size ≤ 9223372036854775807 then (some (t105 ++ (strOfNums aU6))) else (none))))))) = some r := h
 clear h
 replace H := K2 H; rcases H with ⟨ak5, H⟩ | ⟨ak5, H⟩
 ·obtain rfl := Option.some.inj H
  go_enter Tryz.func59, Tryz.ntmps59
  go_wp2
  go_ret
  exact ⟨zr, zB⟩
 ·replace H := K2 H; rcases H with ⟨aD1, H⟩ | ⟨aD1, H⟩
  ·replace H := S2 H; obtain ⟨t101, A4, H⟩ := H
   replace H := ab8 H; obtain ⟨ap1, bc3, cM8, H⟩ := H
   obtain rfl := Option.some.inj H
   go_enter Tryz.func59, Tryz.ntmps59
   go_wp2_with (first | ((with_reducible refine j6 (f := 59) rfl ?_); refine b35 (some 9) rfl rfl Tryz.func59 z2_ rfl #[.int .i64 (wrap64 (-a0))] rfl zm ?_; (with_reducible refine (ih k (by omega) (wrap64 (-a0)) t101 _ A4.out).mono ?_); rintro e w6 ⟨rfl, hb⟩; refine ⟨_, rfl, ?_⟩; replace HB := bS hb; clear hb))
   go_ret
   exact ⟨zr, zB⟩
  ·replace H := K2 H; rcases H with ⟨ak6, H⟩ | ⟨ak6, H⟩
   ·first | (with_reducible replace H := bns H; obtain ⟨cV4, bp4, H⟩ := H) | (generalize V5 : (([(wrap64 (48 + a0)) % 256] : List Int) : List Int) = cV4 at H; have bp4 := j4.mk V5.symm; clear V5)
    obtain rfl := Option.some.inj H
    go_enter Tryz.func59, Tryz.ntmps59
    go_wp2_with (first | ((with_reducible refine l9 (N := 16) rfl ?_); refine Kd.aI8 (Kd.int .u8) _ 5 ?hg (N := 16) ?hd (xs := ([(wrap64 (48 + a0)) % 256] : List Int)) (inner := [.int .u8 ((wrap64 (48 + a0)) % 256)]) (ok := fun _ => True) (okp := fun _ => True) ?hr ?hp (fun _ hk => hk) trivial (Below.refl _ _) (Nat.le_refl _) (by simp) ?_; (case hd => rfl); (case hg => rfl); (case hr => first | (go_simp; done) | (go_simp; rfl)); (case hp => exact (M4.one (show Kd.M (Kd.int .u8) _ _ _ ((wrap64 (48 + a0)) % 256) [.int .u8 ((wrap64 (48 + a0)) % 256)] from rfl) (M4.none _ _))); intro bH6 w8 ho9 hb hg_ X3; clear hg_ X3; (first | rw [← bp4.out] at ho9 | (simp only [Int.reduceToNat] at ho9; rw [← bp4.out] at ho9)); have U8 := lS ho9; replace HB := bS hb; clear hb ho9; have et3 := aP7 (P := Tryz.prog) Tryz.underlying41 Tryz.underlying5 Tryz.underlying9 (Kd.b55 U8.out)))
    go_ret
    exact ⟨zr, zB⟩
   ·replace H := S2 H; obtain ⟨t105, A11, H⟩ := H
    first | (with_reducible replace H := bns H; obtain ⟨aU6, b23, H⟩ := H) | (generalize V5 : (([(wrap64 (48 + (Int.tmod a0 10))) % 256] : List Int) : List Int) = aU6 at H; have b23 := j4.mk V5.symm; clear V5)
    replace H := ab8 H; obtain ⟨ax7, b78, dm5, H⟩ := H
    obtain rfl := Option.some.inj H
    go_enter Tryz.func59, Tryz.ntmps59
    try go_wp2
    replace HB := j4.mk (E9 HB.out)
    refine ah3 (n := 11) (S := fun w' => True) (ds := []) #[false, false, false, false, false, false, false, false, false, false, false] z2_ rfl rfl trivial (fun hHeld => ?_); refine a60 L7.ds5 L7.cF5 (fun HT_ HW_ => ?_)
    generalize w.drew = w13 at HB hHeld ⊢
    refine pu 0 18 ?_
    refine pu 1 19 ?_
    refine pu 3 21 ?_
    refine pu 4 22 ?_
    refine pu 5 23 ?_
    refine pu 6 24 ?_
    refine bN4 (σ := Value) 2 #[true, true, true, true, true, true, true, true, true, false, false] (fun s_ => [(20, .string t105), (25, s_), (26, .string (strOfNums aU6))]) (fun s_ w' => (Kd.R (Kd.int .u8) 5 w' w.heap.size (fun _ => True) s_ aU6) ∧ (Below w.heap.size w w')) ?_ ?_
    rotate_left
    ·intro az5
     refine tw 2 7 (some 20) (some 25) (fun K hK => ?_) (fun K hK => ?_)
     ·skip
      refine ar2 Tryz.func59 z2_ rfl #[.int .i64 (wrap64 (Int.tdiv a0 10))] (by rfl) rfl rfl zm ?_
      with_reducible refine (ih k (by omega) (wrap64 (Int.tdiv a0 10)) t105 _ A11.out).mono ?_
      rintro e w14 ⟨rfl, hb⟩
      refine ⟨_, rfl, ?_⟩
      replace HB := bS hb
      (try clear hb)
      (try clear hb2)
      (try clear hk)
      (try clear hi)
      refine kO 20 hK (fun hHeld => ?_) trivial
      clear hK K
      refine on 7 (some 25) (fun K hK => ?_)
      refine Kd.az9 (Kd.int .u8) _ 5 ?hg (N := 25) ?hd (xs := ([(wrap64 (48 + (Int.tmod a0 10))) % 256] : List Int)) (inner := [.int .u8 ((wrap64 (48 + (Int.tmod a0 10))) % 256)]) (ok := fun _ => True) (okp := fun _ => True) ?hr ?hp (fun _ hk => hk) trivial (Below.refl _ _) (Nat.le_refl _) (by simp) ?_; (case hd => rfl); (case hg => rfl); (case hr => first | (go_simp; done) | (go_simp; rfl)); (case hp => exact (M4.one (show Kd.M (Kd.int .u8) _ _ _ ((wrap64 (48 + (Int.tmod a0 10))) % 256) [.int .u8 ((wrap64 (48 + (Int.tmod a0 10))) % 256)] from rfl) (M4.none _ _)))
      intro v107 w15 cM9 hb hg_ X3
      clear hg_ X3
      (first | rw [← b23.out] at cM9 | (simp only [Int.reduceToNat] at cM9; rw [← b23.out] at cM9))
      have P7 := lS cM9
      replace HB := bS hb
      clear hb cM9
      refine kO 25 hK (fun hHeld => ?_) trivial
      clear hK K
      refine on 8 (some 26) (fun K hK => ?_)
      have cN0 := aP7 (P := Tryz.prog) Tryz.underlying41 Tryz.underlying5 Tryz.underlying9 (Kd.b55 P7.out)
      refine bF9 (w1 := ?_) (v := ?_) (by rfl) rfl ?_ ?_
      rotate_left 2
      ·go_simp
       constructor
       ·rfl
       ·rfl
      clear cN0
      refine kO 26 hK (fun hHeld => ?_) trivial
      clear hK K
      exact aw9 (by simp only [ae5, Act.put, List.setIfInBounds_toArray, List.set_cons_zero, List.set_cons_succ]) (az5 (v107) _ ⟨(rO P7), zB⟩)
     ·skip
      refine Kd.az9 (Kd.int .u8) _ 5 ?hg (N := 25) ?hd (xs := ([(wrap64 (48 + (Int.tmod a0 10))) % 256] : List Int)) (inner := [.int .u8 ((wrap64 (48 + (Int.tmod a0 10))) % 256)]) (ok := fun _ => True) (okp := fun _ => True) ?hr ?hp (fun _ hk => hk) trivial (Below.refl _ _) (Nat.le_refl _) (by simp) ?_; (case hd => rfl); (case hg => rfl); (case hr => first | (go_simp; done) | (go_simp; rfl)); (case hp => exact (M4.one (show Kd.M (Kd.int .u8) _ _ _ ((wrap64 (48 + (Int.tmod a0 10))) % 256) [.int .u8 ((wrap64 (48 + (Int.tmod a0 10))) % 256)] from rfl) (M4.none _ _)))
      intro v107 w14 cN1 hb hg_ X3
      clear hg_ X3
      (first | rw [← b23.out] at cN1 | (simp only [Int.reduceToNat] at cN1; rw [← b23.out] at cN1))
      have P7 := lS cN1
      replace HB := bS hb
      clear hb cN1
      refine kO 25 hK (fun hHeld => ?_) trivial
      clear hK K
      refine tw 2 8 (some 20) (some 26) (fun K hK => ?_) (fun K hK => ?_)
      ·skip
       refine ar2 Tryz.func59 z2_ rfl #[.int .i64 (wrap64 (Int.tdiv a0 10))] (by rfl) rfl rfl zm ?_
       with_reducible refine (ih k (by omega) (wrap64 (Int.tdiv a0 10)) t105 _ A11.out).mono ?_
       rintro e w16 ⟨rfl, hb⟩
       refine ⟨_, rfl, ?_⟩
       replace P7 := rS P7 hb
       replace HB := bS hb
       (try clear hb)
       (try clear hb2)
       (try clear hk)
       (try clear hi)
       refine kO 20 hK (fun hHeld => ?_) trivial
       clear hK K
       refine on 8 (some 26) (fun K hK => ?_)
       have cN0 := aP7 (P := Tryz.prog) Tryz.underlying41 Tryz.underlying5 Tryz.underlying9 (Kd.b55 P7.out)
       refine bF9 (w1 := ?_) (v := ?_) (by rfl) rfl ?_ ?_
       rotate_left 2
       ·go_simp
        constructor
        ·rfl
        ·rfl
       clear cN0
       refine kO 26 hK (fun hHeld => ?_) trivial
       clear hK K
       exact aw9 (by simp only [ae5, Act.put, List.setIfInBounds_toArray, List.set_cons_zero, List.set_cons_succ]) (az5 (v107) _ ⟨(rO P7), zB⟩)
      ·skip
       have dR7 := aP7 (P := Tryz.prog) Tryz.underlying41 Tryz.underlying5 Tryz.underlying9 (Kd.b55 P7.out)
       refine bF9 (w1 := ?_) (v := ?_) (by rfl) rfl ?_ ?_
       rotate_left 2
       ·go_simp
        constructor
        ·rfl
        ·rfl
       clear dR7
       refine kO 26 hK (fun hHeld => ?_) trivial
       clear hK K
       refine on 2 (some 20) (fun K hK => ?_)
       refine ar2 Tryz.func59 z2_ rfl #[.int .i64 (wrap64 (Int.tdiv a0 10))] (by rfl) rfl rfl zm ?_
       with_reducible refine (ih k (by omega) (wrap64 (Int.tdiv a0 10)) t105 _ A11.out).mono ?_
       rintro e w17 ⟨rfl, hb⟩
       refine ⟨_, rfl, ?_⟩
       replace P7 := rS P7 hb
       replace HB := bS hb
       (try clear hb)
       (try clear hb2)
       (try clear hk)
       (try clear hi)
       refine kO 20 hK (fun hHeld => ?_) trivial
       clear hK K
       exact aw9 (by simp only [ae5, Act.put, List.setIfInBounds_toArray, List.set_cons_zero, List.set_cons_succ]) (az5 (v107) _ ⟨(rO P7), zB⟩)
    rintro v107 w18 ⟨h0_, h1_⟩
    have P7 : j4 (Kd.R (Kd.int .u8) 5 w18 w.heap.size (fun _ => True) v107 aU6) := ⟨h0_⟩
    replace HB : j4 (Below w.heap.size w w18) := ⟨h1_⟩
    clear h0_ h1_
    have hHeld := trivial
    refine aw9 (a' := ?_) ?_ ?_
    rotate_left
    ·simp only [ae5, Act.put, List.setIfInBounds_toArray, List.set_cons_zero, List.set_cons_succ]
     rfl
    refine pu 9 27 ?_
    refine pu 10 2 ?_
    refine au9 (ah0 HT_.out z2_) ?_
    try go_wp2
    go_ret
    exact ⟨zr, zB⟩
def P4.l0 : Nat → List ByteArray → ByteArray → Int → Option (ByteArray)
 | 0, _, _, _ => none
 | k + 1, x0, x3, x4 => if x4 < (x0.length : Int) then (if 0 ≤ x4 then (if (H9 ByteArray.empty x0 x4).toList = ([] : List UInt8) then (if x3.size + (H9 ByteArray.empty x0 x4).size ≤ 9223372036854775807 then (if (x3 ++ (H9 ByteArray.empty x0 x4)).size + 2 ≤ 9223372036854775807 then (P4.l0 k x0 ((x3 ++ (H9 ByteArray.empty x0 x4)) ++ (⟨#[13, 10]⟩ : ByteArray)) (wrap64 (x4 + 1))) else (none)) else (none)) else (if 0 < ((H9 ByteArray.empty x0 x4).size : Int) then (if (bt (H9 ByteArray.empty x0 x4) 0) = 46 then (if 1 + (H9 ByteArray.empty x0 x4).size ≤ 9223372036854775807 then (if x3.size + ((⟨#[46]⟩ : ByteArray) ++ (H9 ByteArray.empty x0 x4)).size ≤ 9223372036854775807 then (if (x3 ++ ((⟨#[46]⟩ : ByteArray) ++ (H9 ByteArray.empty x0 x4))).size + 2 ≤ 9223372036854775807 then (P4.l0 k x0 ((x3 ++ ((⟨#[46]⟩ : ByteArray) ++ (H9 ByteArray.empty x0 x4))) ++ (⟨#[13, 10]⟩ : ByteArray)) (wrap64 (x4 + 1))) else (none)) else (none)) else (none)) else (if x3.size + (H9 ByteArray.empty x0 x4).size ≤ 9223372036854775807 then (if (x3 ++ (H9 ByteArray.empty x0 x4)).size + 2 ≤ 9223372036854775807 then (P4.l0 k x0 ((x3 ++ (H9 ByteArray.empty x0 x4)) ++ (⟨#[13, 10]⟩ : ByteArray)) (wrap64 (x4 + 1))) else (none)) else (none))) else (none))) else (none)) else (if x3.size + 3 ≤ 9223372036854775807 then (some (x3 ++ (⟨#[46, 13, 10]⟩ : ByteArray))) else (none))
def P4.f (k : Nat) (l0 : List ByteArray) : Option (ByteArray) := P4.l0 k l0 (⟨#[]⟩ : ByteArray) 0
set_option maxHeartbeats 8000000 in
set_option maxRecDepth 100000 in
theorem P4.calls (k : Nat) (A0 : Option Addr) (c0 : Nat) (l0 : List ByteArray) (r : ByteArray) (w : World) (hr0 : Kd.C Kd.string w A0 l0.length l0) (hc0 : l0.length ≤ c0) (h : P4.f k l0 = some r) :
  Calls Tryz.prog 103 #[.slice A0 l0.length c0] w fun e w' => e = .returned (.string r) ∧ O7 w w' := by
 have HR0 := j4.mk hr0
 have HC0 := j4.mk hc0
 clear hr0 hc0
 have H := h
 clear h
 unfold P4.f at H
 have H' := j4.mk H
 clear H
 go_enter Tryz.func103, Tryz.ntmps103
 go_wp2
 go_loopg [3, 4] k (fun kq v3 v4 w' => ∃ (E8 : ByteArray) (I3 : Int), v3 = .string E8 ∧ v4 = .int .i64 I3 ∧ j4 (P4.l0 kq l0 E8 I3 = some r) ∧ j4 (kq ≤ k) ∧ O7 w w')
 case atStart => exact ⟨((⟨#[]⟩ : ByteArray)), (0), zs, zs, H', ⟨Nat.le_refl _⟩, zD⟩
 case round =>
  clear H'
  obtain ⟨E8, I3, rfl, rfl, HA, HK1, ⟨m1, rfl⟩⟩ := hrel
  cases gk with
  | zero => exact absurd HA.out (by simp [P4.l0])
  | succ k1 =>
   have H := HA.out
   clear HA
   simp only [P4.l0] at H
   replace H := K2 H; rcases H with ⟨ak5, H⟩ | ⟨ak5, H⟩
   ·replace H := S1 H; obtain ⟨aD1, H⟩ := H
    replace H := F6 H; rcases H with ⟨aD2, bT9, H⟩ | ⟨aD2, bT9, H⟩
    ·replace H := ab8 H; obtain ⟨ap1, bc3, cM8, H⟩ := H
     replace H := O5 H; obtain ⟨c6, am1, aZ8, cL0, H⟩ := H
     have eh1 : (9223372036854775807 < E8.size + (H9 ByteArray.empty l0 I3).size + 2) = False := eq_false (by have z_ := c6; simp only [ByteArray.size_append] at z_; exact Nat.not_lt.2 z_)
     have H' := j4.mk H
     clear H
     have ak7 : 0 ≤ (I3 : Int) := of_decide_eq_true za
     have ak8 : I3 < (l0.length : Int) := of_decide_eq_true za
     obtain ⟨b67, aQ4, ax3⟩ := Kd.E5 HR0.out I3 ak7 ak8
     cases aQ4
     replace ak7 := eq_true ak7
     replace ak8 := eq_true ak8
     go_wp2
     go_roundg k1
     case measure => have := HK1.out; omega
     case rel => exact ⟨((E8 ++ (H9 ByteArray.empty l0 I3)) ++ (⟨#[13, 10]⟩ : ByteArray)), (wrap64 (I3 + 1)), zs, zs, H', ⟨by have := HK1.out; omega⟩, zD⟩
    ·replace H := ak4 H; obtain ⟨c7, ak6, H⟩ := H
     have b77 : decide (0 < (H9 ByteArray.empty l0 I3).size) = true := decide_eq_true (by omega)
     clear c7
     replace H := F6 H; rcases H with ⟨aF9, bs6, H⟩ | ⟨aF9, bs6, H⟩
     ·replace H := ab8 H; obtain ⟨aF1, b92, cq2, H⟩ := H
      replace H := O5 H; obtain ⟨c11, aV1, cc0, et4, H⟩ := H
      have et5 : (9223372036854775807 < E8.size + (1 + (H9 ByteArray.empty l0 I3).size)) = False := eq_false (by have z_ := c11; simp only [ByteArray.size_append] at z_; exact Nat.not_lt.2 z_)
      replace H := O5 H; obtain ⟨c12, ax7, b78, dm5, H⟩ := H
      have dR8 : (9223372036854775807 < E8.size + (1 + (H9 ByteArray.empty l0 I3).size) + 2) = False := eq_false (by have z_ := c12; simp only [ByteArray.size_append] at z_; exact Nat.not_lt.2 z_)
      have H' := j4.mk H
      clear H
      have ak7 : 0 ≤ (I3 : Int) := of_decide_eq_true za
      have ak8 : I3 < (l0.length : Int) := of_decide_eq_true za
      obtain ⟨b67, aQ4, ax3⟩ := Kd.E5 HR0.out I3 ak7 ak8
      cases aQ4
      replace ak7 := eq_true ak7
      replace ak8 := eq_true ak8
      have p8 : 0 ≤ (0 : Int) := (by omega)
      have q8 : 0 < (H9 ByteArray.empty l0 I3).size := (by have : (0 : Int) < ((H9 ByteArray.empty l0 I3).size : Int) := of_decide_eq_true za; omega)
      have hx8 : ∀ h : 0 < (H9 ByteArray.empty l0 I3).size, (((H9 ByteArray.empty l0 I3)[0]'h).toNat : Int) = bt (H9 ByteArray.empty l0 I3) 0 := V4 (H9 ByteArray.empty l0 I3) 0
      clear p8
      have qi8 : (0 < ((H9 ByteArray.empty l0 I3).size : Int)) = True := eq_true (of_decide_eq_true za)
      replace q8 := eq_true q8
      go_wp2
      go_roundg k1
      case measure => have := HK1.out; omega
      case rel => exact ⟨((E8 ++ ((⟨#[46]⟩ : ByteArray) ++ (H9 ByteArray.empty l0 I3))) ++ (⟨#[13, 10]⟩ : ByteArray)), (wrap64 (I3 + 1)), zs, zs, H', ⟨by have := HK1.out; omega⟩, zD⟩
     ·replace H := ab8 H; obtain ⟨al5, aV3, cD6, H⟩ := H
      replace H := O5 H; obtain ⟨c14, aL5, b24, cL9, H⟩ := H
      have cM0 : (9223372036854775807 < E8.size + (H9 ByteArray.empty l0 I3).size + 2) = False := eq_false (by have z_ := c14; simp only [ByteArray.size_append] at z_; exact Nat.not_lt.2 z_)
      have H' := j4.mk H
      clear H
      have ak7 : 0 ≤ (I3 : Int) := of_decide_eq_true za
      have ak8 : I3 < (l0.length : Int) := of_decide_eq_true za
      obtain ⟨b67, aQ4, ax3⟩ := Kd.E5 HR0.out I3 ak7 ak8
      cases aQ4
      replace ak7 := eq_true ak7
      replace ak8 := eq_true ak8
      have p8 : 0 ≤ (0 : Int) := (by omega)
      have q8 : 0 < (H9 ByteArray.empty l0 I3).size := (by have : (0 : Int) < ((H9 ByteArray.empty l0 I3).size : Int) := of_decide_eq_true za; omega)
      have hx8 : ∀ h : 0 < (H9 ByteArray.empty l0 I3).size, (((H9 ByteArray.empty l0 I3)[0]'h).toNat : Int) = bt (H9 ByteArray.empty l0 I3) 0 := V4 (H9 ByteArray.empty l0 I3) 0
      clear p8
      have qi8 : (0 < ((H9 ByteArray.empty l0 I3).size : Int)) = True := eq_true (of_decide_eq_true za)
      replace q8 := eq_true q8
      go_wp2
      go_roundg k1
      case measure => have := HK1.out; omega
      case rel => exact ⟨((E8 ++ (H9 ByteArray.empty l0 I3)) ++ (⟨#[13, 10]⟩ : ByteArray)), (wrap64 (I3 + 1)), zs, zs, H', ⟨by have := HK1.out; omega⟩, zD⟩
   ·replace H := ab8 H; obtain ⟨aN7, b79, dR9, H⟩ := H
    obtain rfl := Option.some.inj H
    go_wp2
    go_ret
    exact ⟨zs, zD⟩
end Go.Proofs.YtbncnjgflhoneaaGreatDoor.F
namespace Go.Proofs.YtbncnjgflhoneaaGreatDoor.F
open Go.RowKit Go.Proofs.YtbncnjgflhoneaaGreatDoor.Hand Go.Proofs.YtbncnjgflhoneaaGreatDoorW.l8 Go.Proofs.YtbncnjgflhoneaaGreatDoorW.s9 Go.Proofs.YtbncnjgflhoneaaGreatDoorW.y9
def a74.f (r0 : ByteArray) (D2 : ByteArray) : Option (ByteArray) := (K1.f r0 D2).bind fun t102 => (if t102 = true then (some (⟨#[60, 62]⟩ : ByteArray)) else (if 1 + r0.size ≤ 9223372036854775807 then (if ((⟨#[60]⟩ : ByteArray) ++ r0).size + 1 ≤ 9223372036854775807 then (if (((⟨#[60]⟩ : ByteArray) ++ r0) ++ (⟨#[64]⟩ : ByteArray)).size + D2.size ≤ 9223372036854775807 then (if ((((⟨#[60]⟩ : ByteArray) ++ r0) ++ (⟨#[64]⟩ : ByteArray)) ++ D2).size + 1 ≤ 9223372036854775807 then (some (((((⟨#[60]⟩ : ByteArray) ++ r0) ++ (⟨#[64]⟩ : ByteArray)) ++ D2) ++ (⟨#[62]⟩ : ByteArray))) else (none)) else (none)) else (none)) else (none)))
set_option maxHeartbeats 8000000 in
set_option maxRecDepth 100000 in
theorem a74.calls (r0 : ByteArray) (D2 : ByteArray) (r : ByteArray) (w : World) (h : a74.f r0 D2 = some r) :
  Calls Tryz.prog 61 #[.agg #[.string r0, .string D2]] w fun e w' => e = .returned (.string r) ∧ Below w.heap.size w w' := by
 have as2 := Tryz.underlying32
 have HB := j4.mk (Below.refl w.heap.size w)
 have H := h
 clear h
 unfold a74.f at H
 replace H := S2 H; obtain ⟨t102, A2, H⟩ := H
 replace H := itb H; rcases H with ⟨rfl, H⟩ | ⟨rfl, H⟩
 ·obtain rfl := Option.some.inj H
  go_enter Tryz.func61, Tryz.ntmps61
  go_wp2_with (first | ((with_reducible refine l9 (N := 1) rfl ?_); refine bx (cs := #[.string r0, .string D2]) (t := 32) ?_; intro j8 hg w4 o8 hb; have j5 := j4.mk (o8); have L8 := gS hg; have J7 := gS hg; replace HB := bS hb; clear hb o8 hg; have dq9 := cz2 j5.out; have dr0 := fz2 j5.out) | ((with_reducible refine j6 (f := 55) rfl ?_); refine gv 4 Tryz.func55 _ (K1.calls (w := _) (h := A2.out)) ?_; intro w6 hb; replace j5 := kS j5 hb; replace HB := bS hb; clear hb))
  go_ret
  exact ⟨zr, zB⟩
 ·replace H := ab8 H; obtain ⟨ak6, b77, dy5, H⟩ := H
  replace H := O5 H; obtain ⟨c8, aN6, bQ9, eh2, H⟩ := H
  have eh3 : (9223372036854775807 < 1 + r0.size + 1) = False := eq_false (by have z_ := c8; simp only [ByteArray.size_append] at z_; exact Nat.not_lt.2 z_)
  replace H := O5 H; obtain ⟨c9, aF9, bs6, dy6, H⟩ := H
  have dS0 : (9223372036854775807 < 1 + r0.size + 1 + D2.size) = False := eq_false (by have z_ := c9; simp only [ByteArray.size_append] at z_; exact Nat.not_lt.2 z_)
  replace H := O5 H; obtain ⟨c10, aF1, b92, cq2, H⟩ := H
  have dS1 : (9223372036854775807 < 1 + r0.size + 1 + D2.size + 1) = False := eq_false (by have z_ := c10; simp only [ByteArray.size_append] at z_; exact Nat.not_lt.2 z_)
  obtain rfl := Option.some.inj H
  go_enter Tryz.func61, Tryz.ntmps61
  go_wp2_with (first | ((with_reducible refine l9 (N := 1) rfl ?_); refine bx (cs := #[.string r0, .string D2]) (t := 32) ?_; intro j8 hg w11 o8 hb; have j5 := j4.mk (o8); have L8 := gS hg; have J7 := gS hg; replace HB := bS hb; clear hb o8 hg; have bC8 := cz2 j5.out; have bC9 := fz2 j5.out) | ((with_reducible refine j6 (f := 55) rfl ?_); refine gv 4 Tryz.func55 _ (K1.calls (w := _) (h := A2.out)) ?_; intro w13 hb; replace j5 := kS j5 hb; replace HB := bS hb; clear hb; have bD0 := cz2 j5.out; have bD1 := fz2 j5.out))
  go_ret
  exact ⟨zr, zB⟩
def R5.l0 : Nat → ByteArray → Int → ByteArray → ByteArray → List (G6) → List ByteArray → Option (ByteArray)
 | 0, _, _, _, _, _, _ => none
 | k + 1, x3, x4, a14, X5, Y3, ad9 => if x4 < (Y3.length : Int) then (if x3.size + 3 ≤ 9223372036854775807 then (if 0 ≤ x4 then ((a74.f ((E6 Y3 x4).f0) ((E6 Y3 x4).f1)).bind fun t104 => (if (x3 ++ (⟨#[116, 111, 32]⟩ : ByteArray)).size + t104.size ≤ 9223372036854775807 then (if ((x3 ++ (⟨#[116, 111, 32]⟩ : ByteArray)) ++ t104).size + 2 ≤ 9223372036854775807 then (R5.l0 k (((x3 ++ (⟨#[116, 111, 32]⟩ : ByteArray)) ++ t104) ++ (⟨#[13, 10]⟩ : ByteArray)) (wrap64 (x4 + 1)) a14 X5 Y3 ad9) else (none)) else (none))) else (none)) else (none)) else (if x3.size + 2 ≤ 9223372036854775807 then ((P4.f k ad9).bind fun t105 => (if (x3 ++ (⟨#[13, 10]⟩ : ByteArray)).size + t105.size ≤ 9223372036854775807 then (some ((x3 ++ (⟨#[13, 10]⟩ : ByteArray)) ++ t105)) else (none))) else (none))
def R5.f (k : Nat) (r0 : ByteArray) (D2 : ByteArray) (J2 : List (G6)) (P8 : List ByteArray) : Option (ByteArray) := (a74.f r0 D2).bind fun t102 => (if 5 + t102.size ≤ 9223372036854775807 then (if ((⟨#[102, 114, 111, 109, 32]⟩ : ByteArray) ++ t102).size + 2 ≤ 9223372036854775807 then (R5.l0 k (((⟨#[102, 114, 111, 109, 32]⟩ : ByteArray) ++ t102) ++ (⟨#[13, 10]⟩ : ByteArray)) 0 r0 D2 J2 P8) else (none)) else (none))
set_option maxHeartbeats 8000000 in
set_option maxRecDepth 100000 in
theorem R5.calls (k : Nat) (r0 : ByteArray) (D2 : ByteArray) (ae6 : Option Addr) (ae1 : Nat) (J2 : List (G6)) (a71 : Option Addr) (a73 : Nat) (P8 : List ByteArray) (r : ByteArray) (w : World) (a90 : Kd.C k32 w ae6 J2.length J2) (aj7 : J2.length ≤ ae1) (a09 : Kd.C Kd.string w a71 P8.length P8) (a10 : P8.length ≤ a73) (h : R5.f k r0 D2 J2 P8 = some r) :
  Calls Tryz.prog 60 #[.agg #[.string r0, .string D2, .slice ae6 J2.length ae1, .slice a71 P8.length a73]] w fun e w' => e = .returned (.string r) ∧ Below w.heap.size w w' := by
 have aV0 := Tryz.underlying35
 have as2 := Tryz.underlying32
 have aF5 := j4.mk a90
 have bf4 := j4.mk aj7
 clear a90 aj7
 have ax6 := j4.mk a09
 have aF3 := j4.mk a10
 clear a09 a10
 have HB := j4.mk (Below.refl w.heap.size w)
 have H := h
 clear h
 unfold R5.f at H
 replace H := S2 H; obtain ⟨t102, A2, H⟩ := H
 replace H := ab8 H; obtain ⟨aD1, aZ5, c50, H⟩ := H
 replace H := O5 H; obtain ⟨c4, aD2, bT9, dR3, H⟩ := H
 have eJ3 : (9223372036854775807 < 5 + t102.size + 2) = False := eq_false (by have z_ := c4; simp only [ByteArray.size_append] at z_; exact Nat.not_lt.2 z_)
 have H' := j4.mk H
 clear H
 go_enter Tryz.func60, Tryz.ntmps60
 go_wp2_with (first | ((with_reducible refine l9 (N := 1) rfl ?_); refine bx (cs := #[.string r0, .string D2, .slice ae6 J2.length ae1, .slice a71 P8.length a73]) (t := 35) ?_; intro j8 hg w5 o8 hb; have j5 := j4.mk (o8); have L8 := gS hg; have J7 := gS hg; replace HB := bS hb; clear hb o8 hg; have ct4 := cz4 j5.out; have ct5 := fz4 j5.out) | ((with_reducible refine j6 (f := 61) rfl ?_); refine gv 7 Tryz.func61 _ (a74.calls (w := _) (h := A2.out)) ?_; intro w7 hb; replace j5 := kS j5 hb; replace HB := bS hb; clear hb))
 go_loopg [3, 4] k (fun kq v3 v4 w' => ∃ (E8 : ByteArray) (I3 : Int), v3 = .string E8 ∧ v4 = .int .i64 I3 ∧ j4 (R5.l0 kq E8 I3 r0 D2 J2 P8 = some r) ∧ j4 (kq ≤ k) ∧ j4 (w'.heap[j8]? = some (.cells #[.string r0, .string D2, (.slice ae6 J2.length ae1), (.slice a71 P8.length a73)] 35 (0, 0))) ∧ j4 (Below w.heap.size w w'))
 case atStart => exact ⟨(((⟨#[102, 114, 111, 109, 32]⟩ : ByteArray) ++ t102) ++ (⟨#[13, 10]⟩ : ByteArray)), (0), zs, zs, H', ⟨Nat.le_refl _⟩, ⟨kQ j5⟩, ⟨zB⟩⟩
 case round =>
  clear H'
  obtain ⟨E8, I3, rfl, rfl, HA, HK1, j5, HB⟩ := hrel
  cases gk with
  | zero => exact absurd HA.out (by simp [R5.l0])
  | succ k1 =>
   have H := HA.out
   clear HA
   simp only [R5.l0] at H
   replace H := K2 H; rcases H with ⟨aN6, H⟩ | ⟨aN6, H⟩
   ·replace H := ab8 H; obtain ⟨aF9, bs6, dy6, H⟩ := H
    replace H := S1 H; obtain ⟨aF1, H⟩ := H
    replace H := S2 H; obtain ⟨t104, A11, H⟩ := H
    replace H := O5 H; obtain ⟨c12, ax7, b78, dm5, H⟩ := H
    have dR8 : (9223372036854775807 < E8.size + 3 + t104.size) = False := eq_false (by have z_ := c12; simp only [ByteArray.size_append] at z_; exact Nat.not_lt.2 z_)
    replace H := O5 H; obtain ⟨c13, al5, aV3, cD6, H⟩ := H
    have et6 : (9223372036854775807 < E8.size + 3 + t104.size + 2) = False := eq_false (by have z_ := c13; simp only [ByteArray.size_append] at z_; exact Nat.not_lt.2 z_)
    have H' := j4.mk H
    clear H
    have bD0 := cz4 j5.out
    have bD1 := fz4 j5.out
    have aj1 : 0 ≤ (I3 : Int) := of_decide_eq_true za
    have aj2 : I3 < (J2.length : Int) := of_decide_eq_true za
    obtain ⟨a47, aV4, ah1, aR5⟩ := as1 aF5.out I3 aj1 aj2
    cases aV4
    replace ah1 := kx HB ah1
    replace aR5 := kx HB aR5
    replace aj1 := eq_true aj1
    replace aj2 := eq_true aj2
    go_wp2_with (first | ((with_reducible refine j6 (f := 61) rfl ?_); refine gv 24 Tryz.func61 _ (a74.calls (w := _) (h := A11.out)) ?_; intro w15 hb; replace j5 := kS j5 hb; replace HB := bS hb; clear hb))
    go_roundg k1
    case measure => have := HK1.out; omega
    case rel => exact ⟨(((E8 ++ (⟨#[116, 111, 32]⟩ : ByteArray)) ++ t104) ++ (⟨#[13, 10]⟩ : ByteArray)), (wrap64 (I3 + 1)), zs, zs, H', ⟨by have := HK1.out; omega⟩, ⟨kQ j5⟩, ⟨zB⟩⟩
   ·replace H := ab8 H; obtain ⟨b21, b90, dS2, H⟩ := H
    replace H := S2 H; obtain ⟨t105, A17, H⟩ := H
    replace H := O5 H; obtain ⟨c18, be7, bs7, cN2, H⟩ := H
    have dm6 : (9223372036854775807 < E8.size + 2 + t105.size) = False := eq_false (by have z_ := c18; simp only [ByteArray.size_append] at z_; exact Nat.not_lt.2 z_)
    obtain rfl := Option.some.inj H
    have et7 := cz4 j5.out
    have et8 := fz4 j5.out
    go_wp2_with (first | ((with_reducible refine j6 (f := 103) rfl ?_); refine gv 31 Tryz.func103 #[.slice a71 P8.length a73] (P4.calls (w := _) (hr0 := cB ax6) (hc0 := aF3.out) (h := A17.out)) ?_; rintro w' ⟨nd, rfl⟩))
    go_ret
    exact ⟨zr, zB⟩
end Go.Proofs.YtbncnjgflhoneaaGreatDoor.F
