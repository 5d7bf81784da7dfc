/- Of this claim, merged by program: F15, F45. -/
import Derived.Test.YtbncnjgflhoneaaGreatDoorN02
import Derived.Test.YtbncnjgflhoneaaGreatDoorN03
import Derived.Test.YtbncnjgflhoneaaGreatDoorN12
import Derived.Test.YtbncnjgflhoneaaGreatDoorN13
import Derived.Test.YtbncnjgflhoneaaGreatDoorN14
import Derived.Test.YtbncnjgflhoneaaGreatDoorN15
import Derived.Test.YtbncnjgflhoneaaGreatDoorN17
import Derived.Test.YtbncnjgflhoneaaGreatDoorN18
set_option linter.unusedVariables false
set_option linter.unusedSimpArgs false
namespace Go.Proofs.YtbncnjgflhoneaaGreatDoor.F
open Go.RowKit Go.Proofs.YtbncnjgflhoneaaGreatDoor.Hand Go.Proofs.YtbncnjgflhoneaaGreatDoorW.l8 Go.Proofs.YtbncnjgflhoneaaGreatDoorW.s9 Go.Proofs.YtbncnjgflhoneaaGreatDoorW.y9
mutual
def C3.j1 : Nat → ByteArray → Int → Int → ByteArray → ByteArray → Int → ByteArray → ByteArray → List (G6) → List ByteArray → Option (Int × Int × ByteArray × ByteArray × Int × ByteArray × ByteArray × (List (G6)) × List ByteArray × Bool)
 | 0, _, _, _, _, _, _, _, _, _, _ => none
 | k + 1, x0, af9, a82, at3, aG3, aT4, aH2, aH3, bL4, bL5 => (K8.f k af9 a82 at3 aG3 aT4 aH2 aH3 bL4 bL5).bind fun t136 => (if t136 = true then ((M6.f k af9 a82 at3 aG3 aT4 aH2 aH3 bL4 bL5).bind fun t137 => (if t137.toList = x0.toList then (some (af9, a82, at3, aG3, aT4, aH2, aH3, bL4, bL5, true)) else (some (0, 0, (⟨#[]⟩ : ByteArray), (⟨#[]⟩ : ByteArray), 0, (⟨#[]⟩ : ByteArray), (⟨#[]⟩ : ByteArray), ([] : List (G6)), ([] : List ByteArray), false)))) else (some (0, 0, (⟨#[]⟩ : ByteArray), (⟨#[]⟩ : ByteArray), 0, (⟨#[]⟩ : ByteArray), (⟨#[]⟩ : ByteArray), ([] : List (G6)), ([] : List ByteArray), false)))
def C3.j0 : Nat → ByteArray → ByteArray → ByteArray → Bool → Int → Int → ByteArray → ByteArray → Int → ByteArray → ByteArray → Option (Int × Int × ByteArray × ByteArray × Int × ByteArray × ByteArray × (List (G6)) × List ByteArray × Bool)
 | 0, _, _, _, _, _, _, _, _, _, _, _ => none
 | k + 1, x0, x5, x6, x44, af9, a82, at3, aG3, aT4, aH2, aH3 => if x44 = true then ((strings_Split.f x6 (⟨#[32]⟩ : ByteArray)).bind fun t120 => (if 0 < (t120.length : Int) then ((O8.f (H9 ByteArray.empty t120 0)).bind fun aU1 => (if (t120.length : Int) > 1 then (if 1 < (t120.length : Int) then ((S8.f k (H9 ByteArray.empty t120 1)).bind fun ar3 => (if x5.toList = ([108, 97, 116, 101, 114] : List UInt8) then (if 0 ≤ (wrap64 ((t120.length : Int) - 1)) then (if (wrap64 ((t120.length : Int) - 1)) < (t120.length : Int) then ((O8.f (H9 ByteArray.empty t120 (wrap64 ((t120.length : Int) - 1)))).bind fun cR4 => (C3.j1 k x0 3 aU1.1 ar3.1 ar3.2.1 cR4.1 aH2 aH3 ([] : List (G6)) ([] : List ByteArray))) else (none)) else (none)) else (C3.j1 k x0 2 aU1.1 ar3.1 ar3.2.1 aT4 aH2 aH3 ([] : List (G6)) ([] : List ByteArray)))) else (none)) else (if x5.toList = ([108, 97, 116, 101, 114] : List UInt8) then (if 0 ≤ (wrap64 ((t120.length : Int) - 1)) then (if (wrap64 ((t120.length : Int) - 1)) < (t120.length : Int) then ((O8.f (H9 ByteArray.empty t120 (wrap64 ((t120.length : Int) - 1)))).bind fun bC4 => (C3.j1 k x0 3 aU1.1 at3 aG3 bC4.1 aH2 aH3 ([] : List (G6)) ([] : List ByteArray))) else (none)) else (none)) else (C3.j1 k x0 2 aU1.1 at3 aG3 aT4 aH2 aH3 ([] : List (G6)) ([] : List ByteArray))))) else (none))) else (C3.j1 k x0 af9 a82 at3 aG3 aT4 aH2 aH3 ([] : List (G6)) ([] : List ByteArray))
end
def C3.f (k : Nat) (a0 : ByteArray) : Option (Int × Int × ByteArray × ByteArray × Int × ByteArray × ByteArray × (List (G6)) × List ByteArray × Bool) := if (a0.size : Int) > 820 then (some (0, 0, (⟨#[]⟩ : ByteArray), (⟨#[]⟩ : ByteArray), 0, (⟨#[]⟩ : ByteArray), (⟨#[]⟩ : ByteArray), ([] : List (G6)), ([] : List ByteArray), false)) else ((strings_Cut.f a0 (⟨#[32]⟩ : ByteArray)).bind fun aa9 => (if aa9.1.toList = ([97, 100, 100] : List UInt8) then ((strings_Cut.f aa9.2.1 (⟨#[10]⟩ : ByteArray)).bind fun be8 => ((O8.f be8.1).bind fun ay4 => ((L5.f k be8.2.1).bind fun aD6 => (C3.j1 k a0 1 0 (⟨#[]⟩ : ByteArray) (⟨#[]⟩ : ByteArray) ay4.1 aD6.1 aD6.2.1 aD6.2.2.1 aD6.2.2.2.1)))) else (if aa9.1.toList = ([100, 111, 110, 101] : List UInt8) then (C3.j0 k a0 aa9.1 aa9.2.1 (aa9.1.toList == ([100, 111, 110, 101] : List UInt8)) 0 0 (⟨#[]⟩ : ByteArray) (⟨#[]⟩ : ByteArray) 0 (⟨#[]⟩ : ByteArray) (⟨#[]⟩ : ByteArray)) else (C3.j0 k a0 aa9.1 aa9.2.1 (aa9.1.toList == ([108, 97, 116, 101, 114] : List UInt8)) 0 0 (⟨#[]⟩ : ByteArray) (⟨#[]⟩ : ByteArray) 0 (⟨#[]⟩ : ByteArray) (⟨#[]⟩ : ByteArray)))))
set_option maxHeartbeats 8000000 in
set_option maxRecDepth 100000 in
theorem C3.calls (k : Nat) (a0 : ByteArray) (r1 : Int) (r2 : Int) (r3 : ByteArray) (r4 : ByteArray) (r5 : Int) (r6 : ByteArray) (r7 : ByteArray) (r8 : List (G6)) (r9 : List ByteArray) (r10 : Bool) (w : World) (hG : Laid w) (h : C3.f k a0 = some (r1, r2, r3, r4, r5, r6, r7, r8, r9, r10)) :
  Calls Tryz.prog 15 #[.string a0] w fun e w' => ∃ v7_ v8_ : Value, e = .returned (.tuple #[.agg #[.int .i64 r1, .int .i64 r2, .string r3, .string r4, .int .i64 r5, .string r6, .string r7, v7_, v8_], .bool r10]) ∧ Kd.R k32 32 w' w.heap.size (fun _ => True) v7_ r8 ∧ Kd.R Kd.string 9 w' w.heap.size (fun _ => True) v8_ r9 ∧ Below w.heap.size w w' := by
 have by1 := Tryz.underlying37
 have aV0 := Tryz.underlying35
 have as2 := Tryz.underlying32
 have HG := j4.mk hG
 clear hG
 have HB := j4.mk (Below.refl w.heap.size w)
 have H := h
 clear h
 unfold C3.f at H
 replace H := a29 H; rcases H with ⟨c2, ak5, H⟩ | ⟨c2, ak5, H⟩
 ·have aJ6 : decide (820 < a0.size) = true := decide_eq_true (by omega)
  clear c2
  simp only [Option.some.injEq, Prod.mk.injEq] at H
  obtain ⟨rfl, rfl, rfl, rfl, rfl, rfl, rfl, rfl, rfl, rfl⟩ := H
  go_enter Tryz.func15, Tryz.ntmps15
  go_wp2_with (first | ((with_reducible refine l9 (N := 2) rfl ?_); refine bx (cs := #[.int .i64 0, .int .i64 0, .string ⟨#[]⟩, .string ⟨#[]⟩, .int .i64 0, .string ⟨#[]⟩, .string ⟨#[]⟩, .slice none 0 0, .slice none 0 0]) (t := 37) ?_; intro j8 hg w3 o8 hb; have j5 := j4.mk (o8); have L8 := gS hg; have J7 := gS hg; replace HB := bS hb; clear hb o8 hg; have bY8 := cz9 j5.out; have bY9 := fz9 j5.out))
  refine bodyPost_ret (I2 rfl _ _ j8 37 #[.int .i64 0, .int .i64 0, .string (⟨#[]⟩ : ByteArray), .string (⟨#[]⟩ : ByteArray), .int .i64 0, .string (⟨#[]⟩ : ByteArray), .string (⟨#[]⟩ : ByteArray), .slice none 0 0, .slice none 0 0] (0, 0) _ rfl (kQ j5) Tryz.underlying37 rfl z2_) rfl ?_
  exact ⟨_, _, zr, zn, zn, zB⟩
 ·have aJ6 : decide (820 < a0.size) = false := decide_eq_false (by omega)
  clear c2
  replace H := S2 H; obtain ⟨⟨t103, t104, t105⟩, A5, H⟩ := H
  dsimp only at H
  have HC6 := j4.mk H
  clear H
  go_enter Tryz.func15, Tryz.ntmps15
  go_upto_block 0 with (first | ((with_reducible refine l9 (N := 2) rfl ?_); refine bx (cs := #[.int .i64 0, .int .i64 0, .string ⟨#[]⟩, .string ⟨#[]⟩, .int .i64 0, .string ⟨#[]⟩, .string ⟨#[]⟩, .slice none 0 0, .slice none 0 0]) (t := 37) ?_; intro j8 hg w7 o8 hb; have j5 := j4.mk (o8); have L8 := gS hg; have J7 := gS hg; replace HB := bS hb; clear hb o8 hg) | ((with_reducible refine l9 (N := 4) rfl ?_); refine bx (cs := #[.int .i64 0, .int .i64 0, .string ⟨#[]⟩, .string ⟨#[]⟩, .int .i64 0, .string ⟨#[]⟩, .string ⟨#[]⟩, .slice none 0 0, .slice none 0 0]) (t := 37) ?_; intro o7 hg w8 o8 hb; have j7 := j4.mk (o8); have as7 := gS hg; have al6 := gS hg; have D1 := nS hg j5; have D3 := nG hg j5; replace j5 := kS j5 hb; replace HB := bS hb; clear hb o8 hg) | ((with_reducible refine j6 (f := 39) rfl ?_); refine gv 18 Tryz.func39 _ (strings_Cut.calls (w := _) (hG := gB) (h := A5.out)) ?_; rintro w' ⟨nd, rfl⟩))
  (try simp only [Act.put, List.setIfInBounds_toArray, List.set_cons_zero, List.set_cons_succ])
  go_cut [] (fun wc => ∃ (kq : Nat) (aB5 : Int) (aB6 : Int) (aB7 : ByteArray) (aB8 : ByteArray) (aB9 : Int) (aC0 : ByteArray) (aC1 : ByteArray) (aC2 : List (G6)) (aC3 : List ByteArray) (bL6 : Value) (bL7 : Value), j4 (C3.j1 kq a0 aB5 aB6 aB7 aB8 aB9 aC0 aC1 aC2 aC3 = some (r1, r2, r3, r4, r5, r6, r7, r8, r9, r10)) ∧ j4 (kq ≤ k) ∧ j4 (Kd.R k32 32 wc w.heap.size (fun _ => True) bL6 aC2) ∧ j4 (Kd.R Kd.string 9 wc w.heap.size (fun _ => True) bL7 aC3) ∧ j4 (wc.heap[j8]? = some (.cells #[.int .i64 0, .int .i64 0, .string (⟨#[]⟩ : ByteArray), .string (⟨#[]⟩ : ByteArray), .int .i64 0, .string (⟨#[]⟩ : ByteArray), .string (⟨#[]⟩ : ByteArray), (.slice none 0 0), (.slice none 0 0)] 37 (0, 0))) ∧ j4 (wc.heap[o7]? = some (.cells #[.int .i64 aB5, .int .i64 aB6, .string aB7, .string aB8, .int .i64 aB9, .string aC0, .string aC1, bL6, bL7] 37 (0, 0))) ∧ j4 (Below w.heap.size w wc))
  case first =>
   have H := HC6.out
   clear HC6
   replace H := F6 H; rcases H with ⟨aF9, bs6, H⟩ | ⟨aF9, bs6, H⟩
   ·(first | rw [aF9] | (simp only [Z1, aa5]; rw [aF9]) | skip)
    replace H := S2 H; obtain ⟨⟨t106, t107, t108⟩, A10, H⟩ := H
    dsimp only at H
    replace H := S2 H; obtain ⟨⟨t109, t110⟩, A11, H⟩ := H
    dsimp only at H
    replace H := S2 H; obtain ⟨⟨t111, t112, t113, t116, t119⟩, A12, H⟩ := H
    dsimp only at H
    have H' := j4.mk H
    clear H
    go_wp2_with (first | ((with_reducible refine j6 (f := 39) rfl ?_); refine gv 27 Tryz.func39 _ (strings_Cut.calls (w := _) (hG := gB) (h := A10.out)) ?_; rintro w' ⟨nd, rfl⟩; (try (rw [X9 w8]; generalize hq_ : World.drewN w8 _ = w8; have P5 : j4 (w8.heap[j8]? = some (.cells #[.int .i64 0, .int .i64 0, .string ⟨#[]⟩, .string ⟨#[]⟩, .int .i64 0, .string ⟨#[]⟩, .string ⟨#[]⟩, .slice none 0 0, .slice none 0 0] 37 (0, 0))) := ⟨by rw [← hq_]; exact (kQ j5)⟩; have P6 : j4 (w8.heap[o7]? = some (.cells #[.int .i64 0, .int .i64 0, .string ⟨#[]⟩, .string ⟨#[]⟩, .int .i64 0, .string ⟨#[]⟩, .string ⟨#[]⟩, .slice none 0 0, .slice none 0 0] 37 (0, 0))) := ⟨by rw [← hq_]; exact (kQ j7)⟩; have n2_ : j4 (Below w.heap.size w w8) := ⟨by rw [← hq_]; exact zB⟩; clear j5 j7 HB hq_; have j5 := P5; have j7 := P6; have HB := n2_; clear P5 P6 n2_)); have dX5 := D3.out; have dX6 := D1.out; have bD0 := cz9 j7.out; have bD1 := fz9 j7.out) | ((with_reducible refine j6 (f := 40) rfl ?_); refine gv 34 Tryz.func40 _ (O8.calls (w := _) (hG := gB) (h := A11.out)) ?_; intro w15 hb; replace j5 := kS j5 hb; replace j7 := kP (.cells #[.int .i64 1, .int .i64 0, .string ⟨#[]⟩, .string ⟨#[]⟩, .int .i64 0, .string ⟨#[]⟩, .string ⟨#[]⟩, .slice none 0 0, .slice none 0 0] 37 (0, 0)) j7 hb; replace HB := bS hb; clear hb; have br3 := cz9 j7.out; have br4 := fz9 j7.out) | ((with_reducible refine j6 (f := 41) rfl ?_); refine gl 40 Tryz.func41 _ ((L5.calls (w := _) (hG := gB) (h := A12.out)).mono ?_); rintro e w17 ⟨d07, v117, rfl, ho0, ho1, hb⟩; refine ⟨_, rfl, ?_⟩; have ad7 := lS ho0; have a95 := lS ho1; replace j5 := kS j5 hb; replace j7 := kP (.cells #[.int .i64 1, .int .i64 0, .string ⟨#[]⟩, .string ⟨#[]⟩, .int .i64 t109, .string ⟨#[]⟩, .string ⟨#[]⟩, .slice none 0 0, .slice none 0 0] 37 (0, 0)) j7 hb; replace HB := bS hb; clear hb ho0; (try clear ho1); have cO8 := cz9 j7.out; have cO9 := fz9 j7.out; obtain ⟨d03, cP8, cP9⟩ := Kd.s7 ad7.out; subst cP9; obtain ⟨bx8, bx9, br5⟩ := Kd.s7 a95.out; subst br5))
    go_meet
    case rel => exact ⟨_, (1), (0), ((⟨#[]⟩ : ByteArray)), ((⟨#[]⟩ : ByteArray)), (t109), (t111), (t112), (t113), (t116), (.slice d03 t113.length cP8), (.slice bx8 t116.length bx9), H', ⟨by first | omega | exact Nat.le_refl _⟩, ⟨fM ad7 j7 (fun _ hk => trivial)⟩, ⟨fM a95 j7 (fun _ hk => trivial)⟩, ⟨kQ j5⟩, ⟨kQ j7⟩, ⟨zB⟩⟩
   ·(first | rw [aF9] | (simp only [Z1, aa5]; rw [aF9]) | skip)
    have dB1 := j4.mk H
    clear H
    go_upto_if 44 with (fail)
    go_cut [44] (fun v44 wc => ∃ (kq : Nat) (c82 : Bool), v44 = .bool c82 ∧ j4 (C3.j0 kq a0 t103 t104 c82 0 0 (⟨#[]⟩ : ByteArray) (⟨#[]⟩ : ByteArray) 0 (⟨#[]⟩ : ByteArray) (⟨#[]⟩ : ByteArray) = some (r1, r2, r3, r4, r5, r6, r7, r8, r9, r10)) ∧ j4 (kq ≤ k) ∧ j4 (wc.heap[j8]? = some (.cells #[.int .i64 0, .int .i64 0, .string (⟨#[]⟩ : ByteArray), .string (⟨#[]⟩ : ByteArray), .int .i64 0, .string (⟨#[]⟩ : ByteArray), .string (⟨#[]⟩ : ByteArray), (.slice none 0 0), (.slice none 0 0)] 37 (0, 0))) ∧ j4 (wc.heap[o7]? = some (.cells #[.int .i64 0, .int .i64 0, .string (⟨#[]⟩ : ByteArray), .string (⟨#[]⟩ : ByteArray), .int .i64 0, .string (⟨#[]⟩ : ByteArray), .string (⟨#[]⟩ : ByteArray), (.slice none 0 0), (.slice none 0 0)] 37 (0, 0))) ∧ j4 (Below w.heap.size w wc))
    case first =>
     have H := dB1.out
     clear dB1
     replace H := F6 H; rcases H with ⟨aT9, bs8, H⟩ | ⟨aT9, bs8, H⟩
     ·(first | rw [aT9] | (simp only [Z1, aa5]; rw [aT9]) | skip)
      have H' := j4.mk H
      clear H
      go_wp2
      go_meet
      case rel => exact ⟨_, ((t103.toList == ([100, 111, 110, 101] : List UInt8))), zs, H', ⟨by first | omega | exact Nat.le_refl _⟩, ⟨kQ j5⟩, ⟨kQ j7⟩, ⟨zB⟩⟩
     ·(first | rw [aT9] | (simp only [Z1, aa5]; rw [aT9]) | skip)
      have H' := j4.mk H
      clear H
      go_wp2
      go_meet
      case rel => exact ⟨_, ((t103.toList == ([108, 97, 116, 101, 114] : List UInt8))), zs, H', ⟨by first | omega | exact Nat.le_refl _⟩, ⟨kQ j5⟩, ⟨kQ j7⟩, ⟨zB⟩⟩
    case rest =>
     clear dB1
     obtain ⟨kq, c82, rfl, HA, cR5, j5, j7, HB⟩ := hcut
     cases kq with
     | zero => exact absurd HA.out (by simp [C3.j0])
     | succ eK9 =>
      have H := HA.out
      clear HA
      simp only [C3.j0] at H
      replace H := itb H; rcases H with ⟨rfl, H⟩ | ⟨rfl, H⟩
      ·replace H := S2 H; obtain ⟨t120, A24, H⟩ := H
       replace H := ak4 H; obtain ⟨c25, ci0, H⟩ := H
       have dm7 : decide (0 < t120.length) = true := decide_eq_true (by omega)
       clear c25
       replace H := S2 H; obtain ⟨⟨t124, t125⟩, A26, H⟩ := H
       dsimp only at H
       replace H := a29 H; rcases H with ⟨c27, bV0, H⟩ | ⟨c27, bV0, H⟩
       ·have bV1 : decide (1 < t120.length) = true := decide_eq_true (by omega)
        clear c27
        replace H := ak4 H; obtain ⟨c28, dS6, H⟩ := H
        have dS7 : decide (1 < t120.length) = true := decide_eq_true (by omega)
        clear c28
        replace H := S2 H; obtain ⟨⟨t127, t128, t129⟩, A29, H⟩ := H
        dsimp only at H
        replace H := F6 H; rcases H with ⟨dX7, dX8, H⟩ | ⟨dX7, dX8, H⟩
        ·obtain ⟨cR6, bu9⟩ : ∃ j_ : Int, (wrap64 ((t120.length : Int) - 1)) = j_ := ⟨_, rfl⟩
         first | rw [bu9] at H | simp only [bu9] at H
         (try rw [bu9] at A24)
         (try rw [bu9] at A26)
         (try rw [bu9] at A29)
         have ek2 : (IntKind.i64.wrap ((t120.length : Int) - 1)) = cR6 := (Z1 _).trans bu9
         replace H := S1 H; obtain ⟨ey2, H⟩ := H
         replace H := S1 H; obtain ⟨dT4, H⟩ := H
         replace H := S2 H; obtain ⟨⟨t131, t132⟩, A34, H⟩ := H
         dsimp only at H
         have H' := j4.mk H
         clear H
         go_wp2_with (first | ((with_reducible refine j6 (f := 42) rfl ?_); refine gl 48 Tryz.func42 _ ((strings_Split.calls (w := _) (hG := gB) (h := A24.out)).mono ?_); rintro e w35 ⟨dB2, rfl, ho0, hb⟩; refine ⟨_, rfl, ?_⟩; have a25 := lS ho0; replace j5 := kS j5 hb; replace j7 := kS j7 hb; replace HB := bS hb; clear hb ho0; have cE4 := D3.out; have cE5 := D1.out; have bB9 := cz9 j7.out; have bC0 := fz9 j7.out; obtain ⟨dB3, da0, dB4⟩ := Kd.s7 a25.out; subst dB4; have aR0 : 0 ≤ (0 : Int) := (by omega); have aR1 : 0 < (t120.length : Int) := of_decide_eq_true za; obtain ⟨ax5, bH9, aa8⟩ := Kd.E5 (Kd.y7 a25.out).2.2 0 aR0 aR1; cases bH9; have cR7 : (0 < t120.length) = True := eq_true (by omega); (try rw [show ((0 : Int)).toNat = 0 from rfl] at aa8); (try rw [Addr.add_zero'] at aa8); have ac5 : ax5.block ≠ o7 := Kd.G4 (Kd.U6 a25.out j7.out I1); replace aa8 := (cell_far (p := ⟨o7, 0, none⟩) (by first | (rw [j9]; exact ac5) | (show (Addr.add _ _).block ≠ _; rw [j9]; exact ac5) | exact ac5) (.int .i64 2)).trans aa8; clear ac5; replace aR0 := eq_true aR0; replace aR1 := eq_true aR1) | ((with_reducible refine j6 (f := 40) rfl ?_); refine gv 54 Tryz.func40 _ (O8.calls (w := _) (hG := gB) (h := A26.out)) ?_; intro w39 hb; replace a25 := fS a25 j7 hb; replace j5 := kS j5 hb; replace j7 := kP (.cells #[.int .i64 2, .int .i64 0, .string ⟨#[]⟩, .string ⟨#[]⟩, .int .i64 0, .string ⟨#[]⟩, .string ⟨#[]⟩, .slice none 0 0, .slice none 0 0] 37 (0, 0)) j7 hb; replace HB := bS hb; clear hb; have bP9 := cz9 j7.out; have bQ0 := fz9 j7.out; have c83 : 0 ≤ (1 : Int) := (by omega); have c84 : 1 < (t120.length : Int) := of_decide_eq_true za; obtain ⟨cR8, dB5, aH4⟩ := Kd.E5 (Kd.y7 a25.out).2.2 1 c83 c84; obtain rfl : ax5 = cR8 := (by injection dB5); (try simp only [show (1 : Int).toNat = 1 from rfl, Nat.reduceMul, Nat.reduceEqDiff, Go.Addr.add, ↓reduceIte] at aH4); have dX9 : (1 < t120.length) = True := eq_true (by omega); (try rw [show ((1 : Int)).toNat = 1 from rfl] at aH4); have aH5 : ax5.block ≠ o7 := Kd.G4 (Kd.U6 a25.out j7.out I1); replace aH4 := (cell_far (p := ⟨o7, 1, none⟩) (by first | (rw [j9]; exact aH5) | (show (Addr.add _ _).block ≠ _; rw [j9]; exact aH5) | exact aH5) (.int .i64 t124)).trans aH4; clear aH5; replace c83 := eq_true c83; replace c84 := eq_true c84) | ((with_reducible refine j6 (f := 43) rfl ?_); refine gv 65 Tryz.func43 _ (S8.calls (w := _) (hG := gB) (h := A29.out)) ?_; intro w41 hb; replace a25 := fS a25 j7 hb; replace j5 := kS j5 hb; replace j7 := kP (.cells #[.int .i64 2, .int .i64 t124, .string ⟨#[]⟩, .string ⟨#[]⟩, .int .i64 0, .string ⟨#[]⟩, .string ⟨#[]⟩, .slice none 0 0, .slice none 0 0] 37 (0, 0)) j7 hb; replace HB := bS hb; clear hb; have cM5 := cz9 j7.out; have cM6 := fz9 j7.out; have dB6 : 0 ≤ ((cR6) : Int) := of_decide_eq_true za; have dB7 : (cR6) < (t120.length : Int) := of_decide_eq_true za; obtain ⟨dY0, ek3, aZ1⟩ := Kd.E5 (Kd.y7 a25.out).2.2 (cR6) dB6 dB7; obtain rfl : ax5 = dY0 := (by injection ek3); have bk3 : ax5.block ≠ o7 := Kd.G4 (Kd.U6 a25.out j7.out I1); have bk4 : ax5.block ≠ o7 := Kd.G4 (Kd.U6 a25.out j7.out I1); have bk5 : ax5.block ≠ o7 := Kd.G4 (Kd.U6 a25.out j7.out I1); replace aZ1 := (cell_far (p := ⟨o7, 2, none⟩) (by first | (rw [j9]; exact bk3) | (show (Addr.add _ _).block ≠ _; rw [j9]; exact bk3) | exact bk3) (.string t127)).trans aZ1; replace aZ1 := (cell_far (p := ⟨o7, 3, none⟩) (by first | (rw [j9]; exact bk4) | (show (Addr.add _ _).block ≠ _; rw [j9]; exact bk4) | exact bk4) (.string t128)).trans aZ1; replace aZ1 := (cell_far (p := ⟨o7, 0, none⟩) (by first | (rw [j9]; exact bk5) | (show (Addr.add _ _).block ≠ _; rw [j9]; exact bk5) | exact bk5) (.int .i64 3)).trans aZ1; clear bk3 bk4 bk5; replace dB6 := eq_true dB6; replace dB7 := eq_true dB7) | ((with_reducible refine j6 (f := 40) rfl ?_); refine b35 (some 79) rfl rfl Tryz.func40 z2_ rfl #[.string (H9 ByteArray.empty t120 (cR6))] rfl (by (try simp only [List.map_toArray, List.map_cons, List.map_nil]); first | done | (simp only [bu9]; rfl) | rfl | (simp only [List.length_drop, List.length_take]; rfl)) ?_; refine (O8.calls (w := _) (hG := gB) (h := A34.out)).mono ?_; rintro e w43 ⟨rfl, hb⟩; refine ⟨_, rfl, ?_⟩; replace a25 := fS a25 j7 hb; replace j5 := kS j5 hb; replace j7 := kP (.cells #[.int .i64 3, .int .i64 t124, .string t127, .string t128, .int .i64 0, .string ⟨#[]⟩, .string ⟨#[]⟩, .slice none 0 0, .slice none 0 0] 37 (0, 0)) j7 hb; replace HB := bS hb; clear hb; have cK4 := cz9 j7.out; have cK5 := fz9 j7.out))
         go_meet
         case rel => exact ⟨_, (3), (t124), (t127), (t128), (t131), ((⟨#[]⟩ : ByteArray)), ((⟨#[]⟩ : ByteArray)), (([] : List (G6))), (([] : List ByteArray)), (.slice none 0 0), (.slice none 0 0), H', ⟨by have := cR5.out; first | omega | exact Nat.le_refl _⟩, ⟨zn⟩, ⟨zn⟩, ⟨kQ j5⟩, ⟨kQ j7⟩, ⟨zB⟩⟩
        ·have H' := j4.mk H
         clear H
         go_wp2_with (first | ((with_reducible refine j6 (f := 42) rfl ?_); refine gl 48 Tryz.func42 _ ((strings_Split.calls (w := _) (hG := gB) (h := A24.out)).mono ?_); rintro e w45 ⟨dB2, rfl, ho0, hb⟩; refine ⟨_, rfl, ?_⟩; have a25 := lS ho0; replace j5 := kS j5 hb; replace j7 := kS j7 hb; replace HB := bS hb; clear hb ho0; have di7 := D3.out; have di8 := D1.out; have ci3 := cz9 j7.out; have ci4 := fz9 j7.out; obtain ⟨ek4, ek5, dB8⟩ := Kd.s7 a25.out; subst dB8; have aR0 : 0 ≤ (0 : Int) := (by omega); have aR1 : 0 < (t120.length : Int) := of_decide_eq_true za; obtain ⟨ax5, bH9, aa8⟩ := Kd.E5 (Kd.y7 a25.out).2.2 0 aR0 aR1; cases bH9; have cR7 : (0 < t120.length) = True := eq_true (by omega); (try rw [show ((0 : Int)).toNat = 0 from rfl] at aa8); (try rw [Addr.add_zero'] at aa8); have ac5 : ax5.block ≠ o7 := Kd.G4 (Kd.U6 a25.out j7.out I1); replace aa8 := (cell_far (p := ⟨o7, 0, none⟩) (by first | (rw [j9]; exact ac5) | (show (Addr.add _ _).block ≠ _; rw [j9]; exact ac5) | exact ac5) (.int .i64 2)).trans aa8; clear ac5; replace aR0 := eq_true aR0; replace aR1 := eq_true aR1) | ((with_reducible refine j6 (f := 40) rfl ?_); refine gv 54 Tryz.func40 _ (O8.calls (w := _) (hG := gB) (h := A26.out)) ?_; intro w49 hb; replace a25 := fS a25 j7 hb; replace j5 := kS j5 hb; replace j7 := kP (.cells #[.int .i64 2, .int .i64 0, .string ⟨#[]⟩, .string ⟨#[]⟩, .int .i64 0, .string ⟨#[]⟩, .string ⟨#[]⟩, .slice none 0 0, .slice none 0 0] 37 (0, 0)) j7 hb; replace HB := bS hb; clear hb; have dY1 := cz9 j7.out; have dY2 := fz9 j7.out; have c83 : 0 ≤ (1 : Int) := (by omega); have c84 : 1 < (t120.length : Int) := of_decide_eq_true za; obtain ⟨cR8, dB5, aH4⟩ := Kd.E5 (Kd.y7 a25.out).2.2 1 c83 c84; obtain rfl : ax5 = cR8 := (by injection dB5); (try simp only [show (1 : Int).toNat = 1 from rfl, Nat.reduceMul, Nat.reduceEqDiff, Go.Addr.add, ↓reduceIte] at aH4); have dX9 : (1 < t120.length) = True := eq_true (by omega); (try rw [show ((1 : Int)).toNat = 1 from rfl] at aH4); have aH5 : ax5.block ≠ o7 := Kd.G4 (Kd.U6 a25.out j7.out I1); replace aH4 := (cell_far (p := ⟨o7, 1, none⟩) (by first | (rw [j9]; exact aH5) | (show (Addr.add _ _).block ≠ _; rw [j9]; exact aH5) | exact aH5) (.int .i64 t124)).trans aH4; clear aH5; replace c83 := eq_true c83; replace c84 := eq_true c84) | ((with_reducible refine j6 (f := 43) rfl ?_); refine gv 65 Tryz.func43 _ (S8.calls (w := _) (hG := gB) (h := A29.out)) ?_; intro w51 hb; replace a25 := fS a25 j7 hb; replace j5 := kS j5 hb; replace j7 := kP (.cells #[.int .i64 2, .int .i64 t124, .string ⟨#[]⟩, .string ⟨#[]⟩, .int .i64 0, .string ⟨#[]⟩, .string ⟨#[]⟩, .slice none 0 0, .slice none 0 0] 37 (0, 0)) j7 hb; replace HB := bS hb; clear hb; have dN1 := cz9 j7.out; have dN2 := fz9 j7.out))
         go_meet
         case rel => exact ⟨_, (2), (t124), (t127), (t128), (0), ((⟨#[]⟩ : ByteArray)), ((⟨#[]⟩ : ByteArray)), (([] : List (G6))), (([] : List ByteArray)), (.slice none 0 0), (.slice none 0 0), H', ⟨by have := cR5.out; first | omega | exact Nat.le_refl _⟩, ⟨zn⟩, ⟨zn⟩, ⟨kQ j5⟩, ⟨kQ j7⟩, ⟨zB⟩⟩
       ·have bV1 : decide (1 < t120.length) = false := decide_eq_false (by omega)
        clear c27
        replace H := F6 H; rcases H with ⟨dY3, dY4, H⟩ | ⟨dY3, dY4, H⟩
        ·obtain ⟨cR9, bE7⟩ : ∃ j_ : Int, (wrap64 ((t120.length : Int) - 1)) = j_ := ⟨_, rfl⟩
         first | rw [bE7] at H | simp only [bE7] at H
         (try rw [bE7] at A24)
         (try rw [bE7] at A26)
         have ek6 : (IntKind.i64.wrap ((t120.length : Int) - 1)) = cR9 := (Z1 _).trans bE7
         replace H := S1 H; obtain ⟨ey3, H⟩ := H
         replace H := S1 H; obtain ⟨ey4, H⟩ := H
         replace H := S2 H; obtain ⟨⟨t134, t135⟩, A57, H⟩ := H
         dsimp only at H
         have H' := j4.mk H
         clear H
         go_wp2_with (first | ((with_reducible refine j6 (f := 42) rfl ?_); refine gl 48 Tryz.func42 _ ((strings_Split.calls (w := _) (hG := gB) (h := A24.out)).mono ?_); rintro e w58 ⟨dB2, rfl, ho0, hb⟩; refine ⟨_, rfl, ?_⟩; have a25 := lS ho0; replace j5 := kS j5 hb; replace j7 := kS j7 hb; replace HB := bS hb; clear hb ho0; have dH6 := D3.out; have dH7 := D1.out; have de8 := cz9 j7.out; have de9 := fz9 j7.out; obtain ⟨bw7, bw8, cF1⟩ := Kd.s7 a25.out; subst cF1; have aR0 : 0 ≤ (0 : Int) := (by omega); have aR1 : 0 < (t120.length : Int) := of_decide_eq_true za; obtain ⟨ax5, bH9, aa8⟩ := Kd.E5 (Kd.y7 a25.out).2.2 0 aR0 aR1; cases bH9; have cR7 : (0 < t120.length) = True := eq_true (by omega); (try rw [show ((0 : Int)).toNat = 0 from rfl] at aa8); (try rw [Addr.add_zero'] at aa8); have ac5 : ax5.block ≠ o7 := Kd.G4 (Kd.U6 a25.out j7.out I1); replace aa8 := (cell_far (p := ⟨o7, 0, none⟩) (by first | (rw [j9]; exact ac5) | (show (Addr.add _ _).block ≠ _; rw [j9]; exact ac5) | exact ac5) (.int .i64 2)).trans aa8; clear ac5; replace aR0 := eq_true aR0; replace aR1 := eq_true aR1) | ((with_reducible refine j6 (f := 40) rfl ?_); refine gv 54 Tryz.func40 _ (O8.calls (w := _) (hG := gB) (h := A26.out)) ?_; intro w62 hb; replace a25 := fS a25 j7 hb; replace j5 := kS j5 hb; replace j7 := kP (.cells #[.int .i64 2, .int .i64 0, .string ⟨#[]⟩, .string ⟨#[]⟩, .int .i64 0, .string ⟨#[]⟩, .string ⟨#[]⟩, .slice none 0 0, .slice none 0 0] 37 (0, 0)) j7 hb; replace HB := bS hb; clear hb; have dW8 := cz9 j7.out; have dW9 := fz9 j7.out; have c86 : 0 ≤ ((cR9) : Int) := of_decide_eq_true za; have c88 : (cR9) < (t120.length : Int) := of_decide_eq_true za; obtain ⟨aX6, dB9, aH6⟩ := Kd.E5 (Kd.y7 a25.out).2.2 (cR9) c86 c88; obtain rfl : ax5 = aX6 := (by injection dB9); have aH7 : ax5.block ≠ o7 := Kd.G4 (Kd.U6 a25.out j7.out I1); have bk6 : ax5.block ≠ o7 := Kd.G4 (Kd.U6 a25.out j7.out I1); replace aH6 := (cell_far (p := ⟨o7, 1, none⟩) (by first | (rw [j9]; exact aH7) | (show (Addr.add _ _).block ≠ _; rw [j9]; exact aH7) | exact aH7) (.int .i64 t124)).trans aH6; replace aH6 := (cell_far (p := ⟨o7, 0, none⟩) (by first | (rw [j9]; exact bk6) | (show (Addr.add _ _).block ≠ _; rw [j9]; exact bk6) | exact bk6) (.int .i64 3)).trans aH6; clear aH7 bk6; replace c86 := eq_true c86; replace c88 := eq_true c88) | ((with_reducible refine j6 (f := 40) rfl ?_); refine b35 (some 79) rfl rfl Tryz.func40 z2_ rfl #[.string (H9 ByteArray.empty t120 (cR9))] rfl (by (try simp only [List.map_toArray, List.map_cons, List.map_nil]); first | done | (simp only [bE7]; rfl) | rfl | (simp only [List.length_drop, List.length_take]; rfl)) ?_; refine (O8.calls (w := _) (hG := gB) (h := A57.out)).mono ?_; rintro e w64 ⟨rfl, hb⟩; refine ⟨_, rfl, ?_⟩; replace a25 := fS a25 j7 hb; replace j5 := kS j5 hb; replace j7 := kP (.cells #[.int .i64 3, .int .i64 t124, .string ⟨#[]⟩, .string ⟨#[]⟩, .int .i64 0, .string ⟨#[]⟩, .string ⟨#[]⟩, .slice none 0 0, .slice none 0 0] 37 (0, 0)) j7 hb; replace HB := bS hb; clear hb; have ey5 := cz9 j7.out; have ey6 := fz9 j7.out))
         go_meet
         case rel => exact ⟨_, (3), (t124), ((⟨#[]⟩ : ByteArray)), ((⟨#[]⟩ : ByteArray)), (t134), ((⟨#[]⟩ : ByteArray)), ((⟨#[]⟩ : ByteArray)), (([] : List (G6))), (([] : List ByteArray)), (.slice none 0 0), (.slice none 0 0), H', ⟨by have := cR5.out; first | omega | exact Nat.le_refl _⟩, ⟨zn⟩, ⟨zn⟩, ⟨kQ j5⟩, ⟨kQ j7⟩, ⟨zB⟩⟩
        ·have H' := j4.mk H
         clear H
         go_wp2_with (first | ((with_reducible refine j6 (f := 42) rfl ?_); refine gl 48 Tryz.func42 _ ((strings_Split.calls (w := _) (hG := gB) (h := A24.out)).mono ?_); rintro e w66 ⟨dB2, rfl, ho0, hb⟩; refine ⟨_, rfl, ?_⟩; have a25 := lS ho0; replace j5 := kS j5 hb; replace j7 := kS j7 hb; replace HB := bS hb; clear hb ho0; have cI0 := D3.out; have cI1 := D1.out; have dX0 := cz9 j7.out; have dX1 := fz9 j7.out; obtain ⟨dX2, dX3, dB0⟩ := Kd.s7 a25.out; subst dB0; have aR0 : 0 ≤ (0 : Int) := (by omega); have aR1 : 0 < (t120.length : Int) := of_decide_eq_true za; obtain ⟨ax5, bH9, aa8⟩ := Kd.E5 (Kd.y7 a25.out).2.2 0 aR0 aR1; cases bH9; have cR7 : (0 < t120.length) = True := eq_true (by omega); (try rw [show ((0 : Int)).toNat = 0 from rfl] at aa8); (try rw [Addr.add_zero'] at aa8); have ac5 : ax5.block ≠ o7 := Kd.G4 (Kd.U6 a25.out j7.out I1); replace aa8 := (cell_far (p := ⟨o7, 0, none⟩) (by first | (rw [j9]; exact ac5) | (show (Addr.add _ _).block ≠ _; rw [j9]; exact ac5) | exact ac5) (.int .i64 2)).trans aa8; clear ac5; replace aR0 := eq_true aR0; replace aR1 := eq_true aR1) | ((with_reducible refine j6 (f := 40) rfl ?_); refine gv 54 Tryz.func40 _ (O8.calls (w := _) (hG := gB) (h := A26.out)) ?_; intro w70 hb; replace a25 := fS a25 j7 hb; replace j5 := kS j5 hb; replace j7 := kP (.cells #[.int .i64 2, .int .i64 0, .string ⟨#[]⟩, .string ⟨#[]⟩, .int .i64 0, .string ⟨#[]⟩, .string ⟨#[]⟩, .slice none 0 0, .slice none 0 0] 37 (0, 0)) j7 hb; replace HB := bS hb; clear hb; have ey7 := cz9 j7.out; have ey8 := fz9 j7.out))
         go_meet
         case rel => exact ⟨_, (2), (t124), ((⟨#[]⟩ : ByteArray)), ((⟨#[]⟩ : ByteArray)), (0), ((⟨#[]⟩ : ByteArray)), ((⟨#[]⟩ : ByteArray)), (([] : List (G6))), (([] : List ByteArray)), (.slice none 0 0), (.slice none 0 0), H', ⟨by have := cR5.out; first | omega | exact Nat.le_refl _⟩, ⟨zn⟩, ⟨zn⟩, ⟨kQ j5⟩, ⟨kQ j7⟩, ⟨zB⟩⟩
      ·have H' := j4.mk H
       clear H
       go_wp2
       go_meet
       case rel => exact ⟨_, (0), (0), ((⟨#[]⟩ : ByteArray)), ((⟨#[]⟩ : ByteArray)), (0), ((⟨#[]⟩ : ByteArray)), ((⟨#[]⟩ : ByteArray)), (([] : List (G6))), (([] : List ByteArray)), (.slice none 0 0), (.slice none 0 0), H', ⟨by have := cR5.out; first | omega | exact Nat.le_refl _⟩, ⟨zn⟩, ⟨zn⟩, ⟨kQ j5⟩, ⟨kQ j7⟩, ⟨zB⟩⟩
  case rest =>
   clear HC6
   obtain ⟨kq, aB5, aB6, aB7, aB8, aB9, aC0, aC1, aC2, aC3, bL6, bL7, HA, HJ5, U2, U3, j5, j7, HB⟩ := hcut
   cases kq with
   | zero => exact absurd HA.out (by simp [C3.j1])
   | succ kj5 =>
    have H := HA.out
    clear HA
    simp only [C3.j1] at H
    replace H := S2 H; obtain ⟨t136, A72, H⟩ := H
    replace H := itb H; rcases H with ⟨rfl, H⟩ | ⟨rfl, H⟩
    ·replace H := S2 H; obtain ⟨t137, A74, H⟩ := H
     replace H := F6 H; rcases H with ⟨dY5, dY6, H⟩ | ⟨dY5, dY6, H⟩
     ·simp only [Option.some.injEq, Prod.mk.injEq] at H
      obtain ⟨rfl, rfl, rfl, rfl, rfl, rfl, rfl, rfl, rfl, rfl⟩ := H
      have ey9 := D3.out
      have ez0 := D1.out
      have dY7 := cz9 j7.out
      have dY8 := fz9 j7.out
      obtain ⟨dY9, dZ0, ek7⟩ := Kd.s7 U2.out
      subst ek7
      obtain ⟨dZ1, dZ2, ek8⟩ := Kd.s7 U3.out
      subst ek8
      go_wp2_with (first | ((with_reducible refine j6 (f := 13) rfl ?_); refine gv 84 Tryz.func13 #[.agg #[.int .i64 aB5, .int .i64 aB6, .string aB7, .string aB8, .int .i64 aB9, .string aC0, .string aC1, .slice dY9 aC2.length dZ0, .slice dZ1 aC3.length dZ2]] (K8.calls (w := _) (hG := gB) (a17 := rC U2) (a18 := cL U2) (a19 := rC U3) (a22 := cL U3) (h := A72.out)) ?_; intro w80 hb; replace U2 := rS U2 hb; replace U3 := rS U3 hb; replace j5 := kS j5 hb; replace j7 := kS j7 hb; replace HB := bS hb; clear hb; have dQ4 := cz9 j7.out; have dQ5 := fz9 j7.out) | (go_at_call 10; refine (M6.calls (w := _) (hG := gB) (a17 := rC U2) (a18 := cL U2) (a19 := rC U3) (a22 := cL U3) (h := A74.out)).mono ?_; rintro e w82 ⟨rfl, hb⟩; replace U2 := rS U2 hb; replace U3 := rS U3 hb; replace j5 := kS j5 hb; replace j7 := kS j7 hb; replace HB := bS hb; clear hb; have dQ6 := cz9 j7.out; have dQ7 := fz9 j7.out; have dL5 := cz9 j5.out; have dL6 := fz9 j5.out))
      refine bodyPost_ret (I2 rfl _ _ j8 37 #[.int .i64 aB5, .int .i64 aB6, .string aB7, .string aB8, .int .i64 aB9, .string aC0, .string aC1, .slice dY9 aC2.length dZ0, .slice dZ1 aC3.length dZ2] (0, 0) _ rfl (kQ j5) Tryz.underlying37 rfl z2_) rfl ?_
      exact ⟨_, _, zr, fM U2 j5 (fun _ hk => trivial), fM U3 j5 (fun _ hk => trivial), zB⟩
     ·simp only [Option.some.injEq, Prod.mk.injEq] at H
      obtain ⟨rfl, rfl, rfl, rfl, rfl, rfl, rfl, rfl, rfl, rfl⟩ := H
      have dQ8 := D3.out
      have dQ9 := D1.out
      have ez1 := cz9 j7.out
      have ez2 := fz9 j7.out
      obtain ⟨ek9, el0, el1⟩ := Kd.s7 U2.out
      subst el1
      obtain ⟨dy0, dy1, dy2⟩ := Kd.s7 U3.out
      subst dy2
      go_wp2_with (first | ((with_reducible refine j6 (f := 13) rfl ?_); refine gv 84 Tryz.func13 #[.agg #[.int .i64 aB5, .int .i64 aB6, .string aB7, .string aB8, .int .i64 aB9, .string aC0, .string aC1, .slice ek9 aC2.length el0, .slice dy0 aC3.length dy1]] (K8.calls (w := _) (hG := gB) (a17 := rC U2) (a18 := cL U2) (a19 := rC U3) (a22 := cL U3) (h := A72.out)) ?_; intro w89 hb; replace U2 := rS U2 hb; replace U3 := rS U3 hb; replace j5 := kS j5 hb; replace j7 := kS j7 hb; replace HB := bS hb; clear hb; have ez3 := cz9 j7.out; have ez4 := fz9 j7.out) | (go_at_call 10; refine (M6.calls (w := _) (hG := gB) (a17 := rC U2) (a18 := cL U2) (a19 := rC U3) (a22 := cL U3) (h := A74.out)).mono ?_; rintro e w91 ⟨rfl, hb⟩; replace U2 := rS U2 hb; replace U3 := rS U3 hb; replace j5 := kS j5 hb; replace j7 := kS j7 hb; replace HB := bS hb; clear hb; have dM2 := cz9 j5.out; have dM3 := fz9 j5.out))
      refine bodyPost_ret (I2 rfl _ _ j8 37 #[.int .i64 0, .int .i64 0, .string (⟨#[]⟩ : ByteArray), .string (⟨#[]⟩ : ByteArray), .int .i64 0, .string (⟨#[]⟩ : ByteArray), .string (⟨#[]⟩ : ByteArray), .slice none 0 0, .slice none 0 0] (0, 0) _ rfl (kQ j5) Tryz.underlying37 rfl z2_) rfl ?_
      exact ⟨_, _, zr, zn, zn, zB⟩
    ·simp only [Option.some.injEq, Prod.mk.injEq] at H
     obtain ⟨rfl, rfl, rfl, rfl, rfl, rfl, rfl, rfl, rfl, rfl⟩ := H
     have ez5 := D3.out
     have ez6 := D1.out
     have ez7 := cz9 j7.out
     have ez8 := fz9 j7.out
     obtain ⟨el2, el3, el4⟩ := Kd.s7 U2.out
     subst el4
     obtain ⟨el5, el6, el7⟩ := Kd.s7 U3.out
     subst el7
     go_wp2_with (first | ((with_reducible refine j6 (f := 13) rfl ?_); refine gv 84 Tryz.func13 #[.agg #[.int .i64 aB5, .int .i64 aB6, .string aB7, .string aB8, .int .i64 aB9, .string aC0, .string aC1, .slice el2 aC2.length el3, .slice el5 aC3.length el6]] (K8.calls (w := _) (hG := gB) (a17 := rC U2) (a18 := cL U2) (a19 := rC U3) (a22 := cL U3) (h := A72.out)) ?_; intro w97 hb; replace U2 := rS U2 hb; replace U3 := rS U3 hb; replace j5 := kS j5 hb; replace j7 := kS j7 hb; replace HB := bS hb; clear hb; have ez9 := cz9 j5.out; have eA0 := fz9 j5.out))
     refine bodyPost_ret (I2 rfl _ _ j8 37 #[.int .i64 0, .int .i64 0, .string (⟨#[]⟩ : ByteArray), .string (⟨#[]⟩ : ByteArray), .int .i64 0, .string (⟨#[]⟩ : ByteArray), .string (⟨#[]⟩ : ByteArray), .slice none 0 0, .slice none 0 0] (0, 0) _ rfl (kQ j5) Tryz.underlying37 rfl z2_) rfl ?_
     exact ⟨_, _, zr, zn, zn, zB⟩
mutual
def D6.j0 : Nat → List ByteArray → List ByteArray → Bool → Int → Int → ByteArray → ByteArray → Int → ByteArray → ByteArray → Option (Int × Int × ByteArray × ByteArray × Int × ByteArray × ByteArray × (List (G6)) × List ByteArray)
 | 0, _, _, _, _, _, _, _, _, _, _ => none
 | k + 1, x3, x4, x19, aT5, aM3, aM4, aM5, aM6, aH8, aH9 => if x19 = true then (if 1 < (x4.length : Int) then ((F4.f k (H9 ByteArray.empty x4 1)).bind fun t112 => (if 1 < (x3.length : Int) then ((a86.f k (H9 ByteArray.empty x3 1)).bind fun az7 => (some (1, aM3, aM4, aM5, t112, az7.1, az7.2.1, az7.2.2.1, az7.2.2.2.1))) else (none))) else (none)) else (if 0 < (x4.length : Int) then (if (H9 ByteArray.empty x4 0).toList = ([100, 111, 110, 101] : List UInt8) then (D6.j1 k x4 ((x4.length : Int) == 3) aT5 aM3 aM4 aM5 aM6 aH8 aH9) else (D6.j1 k x4 false aT5 aM3 aM4 aM5 aM6 aH8 aH9)) else (none))
def D6.j1 : Nat → List ByteArray → Bool → Int → Int → ByteArray → ByteArray → Int → ByteArray → ByteArray → Option (Int × Int × ByteArray × ByteArray × Int × ByteArray × ByteArray × (List (G6)) × List ByteArray)
 | 0, _, _, _, _, _, _, _, _, _ => none
 | k + 1, x4, x49, aT5, aM3, aM4, aM5, aM6, aH8, aH9 => if x49 = true then (if 1 < (x4.length : Int) then ((F4.f k (H9 ByteArray.empty x4 1)).bind fun t126 => (if 2 < (x4.length : Int) then ((D0.f k (H9 ByteArray.empty x4 2)).bind fun bW1 => (some (2, t126, bW1.1, bW1.2.1, aM6, aH8, aH9, ([] : List (G6)), ([] : List ByteArray)))) else (none))) else (none)) else (if 0 < (x4.length : Int) then (if (H9 ByteArray.empty x4 0).toList = ([108, 97, 116, 101, 114] : List UInt8) then (D6.j2 k x4 ((x4.length : Int) == 4) aT5 aM3 aM4 aM5 aM6 aH8 aH9) else (D6.j2 k x4 false aT5 aM3 aM4 aM5 aM6 aH8 aH9)) else (none))
def D6.j2 : Nat → List ByteArray → Bool → Int → Int → ByteArray → ByteArray → Int → ByteArray → ByteArray → Option (Int × Int × ByteArray × ByteArray × Int × ByteArray × ByteArray × (List (G6)) × List ByteArray)
 | 0, _, _, _, _, _, _, _, _, _ => none
 | k + 1, x4, x74, aT5, aM3, aM4, aM5, aM6, aH8, aH9 => if x74 = true then (if 1 < (x4.length : Int) then ((F4.f k (H9 ByteArray.empty x4 1)).bind fun t134 => (if 2 < (x4.length : Int) then ((D0.f k (H9 ByteArray.empty x4 2)).bind fun bW2 => (if 3 < (x4.length : Int) then ((F4.f k (H9 ByteArray.empty x4 3)).bind fun t141 => (some (3, t134, bW2.1, bW2.2.1, t141, aH8, aH9, ([] : List (G6)), ([] : List ByteArray)))) else (none))) else (none))) else (none)) else (some (aT5, aM3, aM4, aM5, aM6, aH8, aH9, ([] : List (G6)), ([] : List ByteArray)))
end
def D6.f (k : Nat) (a0 : ByteArray) : Option (Int × Int × ByteArray × ByteArray × Int × ByteArray × ByteArray × (List (G6)) × List ByteArray) := (G5.f k a0 10 1).bind fun t102 => (if 0 < (t102.length : Int) then ((G5.f k (H9 ByteArray.empty t102 0) 32 4).bind fun t106 => (if 0 < (t106.length : Int) then (if (H9 ByteArray.empty t106 0).toList = ([97, 100, 100] : List UInt8) then (if (t106.length : Int) = 2 then (D6.j0 k t102 t106 ((t102.length : Int) == 2) 0 0 (⟨#[]⟩ : ByteArray) (⟨#[]⟩ : ByteArray) 0 (⟨#[]⟩ : ByteArray) (⟨#[]⟩ : ByteArray)) else (D6.j0 k t102 t106 false 0 0 (⟨#[]⟩ : ByteArray) (⟨#[]⟩ : ByteArray) 0 (⟨#[]⟩ : ByteArray) (⟨#[]⟩ : ByteArray))) else (D6.j0 k t102 t106 false 0 0 (⟨#[]⟩ : ByteArray) (⟨#[]⟩ : ByteArray) 0 (⟨#[]⟩ : ByteArray) (⟨#[]⟩ : ByteArray))) else (none))) else (none))
set_option maxHeartbeats 8000000 in
set_option maxRecDepth 100000 in
theorem D6.calls (k : Nat) (a0 : ByteArray) (r1 : Int) (r2 : Int) (r3 : ByteArray) (r4 : ByteArray) (r5 : Int) (r6 : ByteArray) (r7 : ByteArray) (r8 : List (G6)) (r9 : List ByteArray) (w : World) (h : D6.f k a0 = some (r1, r2, r3, r4, r5, r6, r7, r8, r9)) :
  Calls Tryz.prog 45 #[.string a0] w fun e w' => ∃ v7_ v8_ : Value, e = .returned (.agg #[.int .i64 r1, .int .i64 r2, .string r3, .string r4, .int .i64 r5, .string r6, .string r7, v7_, v8_]) ∧ Kd.R k32 32 w' w.heap.size (fun _ => True) v7_ r8 ∧ Kd.R Kd.string 9 w' w.heap.size (fun _ => True) v8_ r9 ∧ Below w.heap.size w w' := by
 have by1 := Tryz.underlying37
 have aV0 := Tryz.underlying35
 have as2 := Tryz.underlying32
 have HB := j4.mk (Below.refl w.heap.size w)
 have H := h
 clear h
 unfold D6.f at H
 replace H := S2 H; obtain ⟨t102, A2, H⟩ := H
 replace H := ak4 H; obtain ⟨c3, aD1, H⟩ := H
 have aZ5 : decide (0 < t102.length) = true := decide_eq_true (by omega)
 clear c3
 replace H := S2 H; obtain ⟨t106, A4, H⟩ := H
 have HC5 := j4.mk H
 clear H
 go_enter Tryz.func45, Tryz.ntmps45
 go_upto_region 4 with (first | ((with_reducible refine l9 (N := 2) rfl ?_); (try (refine Q4 (by rfl) ?_; dsimp only)); refine bx (cs := #[.int .i64 0, .int .i64 0, .string ⟨#[]⟩, .string ⟨#[]⟩, .int .i64 0, .string ⟨#[]⟩, .string ⟨#[]⟩, .slice none 0 0, .slice none 0 0]) (t := 37) ?_; intro j8 hg w6 o8 hb; have j5 := j4.mk (o8); have L8 := gS hg; have J7 := gS hg; replace HB := bS hb; clear hb o8 hg) | ((with_reducible refine j6 (f := 84) rfl ?_); refine gl 13 Tryz.func84 _ ((G5.calls (w := _) (h := A2.out)).mono ?_); rintro e w7 ⟨bH6, rfl, ho0, hb⟩; refine ⟨_, rfl, ?_⟩; have U8 := lS ho0; replace j5 := kS j5 hb; replace HB := bS hb; clear hb ho0; obtain ⟨Ao8, co8, eo8⟩ := Kd.s7 U8.out; subst eo8; have aS4 : 0 ≤ (0 : Int) := (by omega); have aS5 : 0 < (t102.length : Int) := of_decide_eq_true za; obtain ⟨ay5, bJ7, ae0⟩ := Kd.E5 (Kd.y7 U8.out).2.2 0 aS4 aS5; cases bJ7; have dn3 : (0 < t102.length) = True := eq_true (by omega); (try rw [show ((0 : Int)).toNat = 0 from rfl] at ae0); (try rw [Addr.add_zero'] at ae0); replace aS4 := eq_true aS4; replace aS5 := eq_true aS5) | ((with_reducible refine j6 (f := 84) rfl ?_); refine gl 17 Tryz.func84 _ ((G5.calls (w := _) (h := A4.out)).mono ?_); rintro e w9 ⟨v107, rfl, ho0, hb⟩; refine ⟨_, rfl, ?_⟩; have P7 := j4.mk (Kd.T9 (Kd.as0 ho0 (Kd.aa3 (rO U8))) (bZ)); replace U8 := j4.mk (Kd.ab6 (rO U8) (Kd.J6 ho0) hb); replace j5 := kS j5 hb; replace HB := bS hb; clear hb ho0) | ((with_reducible refine l9 (N := 5) rfl ?_); (try (refine Q4 (by rfl) ?_; dsimp only)); refine bx (cs := #[.int .i64 0, .int .i64 0, .string ⟨#[]⟩, .string ⟨#[]⟩, .int .i64 0, .string ⟨#[]⟩, .string ⟨#[]⟩, .slice none 0 0, .slice none 0 0]) (t := 37) ?_; intro K0 hg w10 o8 hb; replace U8 := rS U8 hb; replace P7 := rS P7 hb; have I6 := j4.mk (o8); have eA1 := gS hg; have eA2 := gS hg; have aP3 := nS hg j5; have aP4 := nG hg j5; replace j5 := kS j5 hb; replace HB := bS hb; clear hb o8 hg; have dl5 := aP4.out; have dl6 := aP3.out; have bC8 := cz9 I6.out; have bC9 := fz9 I6.out))
 (try simp only [Act.put, List.setIfInBounds_toArray, List.set_cons_zero, List.set_cons_succ])
 go_cut [19] (fun v19 wc => ∃ (kq : Nat) (cS0 : Bool), v19 = .bool cS0 ∧ j4 (D6.j0 kq t102 t106 cS0 0 0 (⟨#[]⟩ : ByteArray) (⟨#[]⟩ : ByteArray) 0 (⟨#[]⟩ : ByteArray) (⟨#[]⟩ : ByteArray) = some (r1, r2, r3, r4, r5, r6, r7, r8, r9)) ∧ j4 (kq ≤ k) ∧ j4 (Kd.R Kd.string 9 wc w.heap.size (fun k_ => some k_ ≠ (v107 : Value).ownBlock) (.slice (some ay5) t102.length co8) t102) ∧ j4 (Kd.R Kd.string 9 wc w.heap.size (fun k_ => some k_ ≠ ((.slice (some ay5) t102.length co8) : Value).ownBlock) v107 t106) ∧ j4 (wc.heap[j8]? = some (.cells #[.int .i64 0, .int .i64 0, .string (⟨#[]⟩ : ByteArray), .string (⟨#[]⟩ : ByteArray), .int .i64 0, .string (⟨#[]⟩ : ByteArray), .string (⟨#[]⟩ : ByteArray), (.slice none 0 0), (.slice none 0 0)] 37 (0, 0))) ∧ j4 (wc.heap[K0]? = some (.cells #[.int .i64 0, .int .i64 0, .string (⟨#[]⟩ : ByteArray), .string (⟨#[]⟩ : ByteArray), .int .i64 0, .string (⟨#[]⟩ : ByteArray), .string (⟨#[]⟩ : ByteArray), (.slice none 0 0), (.slice none 0 0)] 37 (0, 0))) ∧ j4 (Below w.heap.size w wc))
 case first =>
  have H := HC5.out
  clear HC5
  replace H := ak4 H; obtain ⟨c13, al5, H⟩ := H
  have aV3 : decide (0 < t106.length) = true := decide_eq_true (by omega)
  clear c13
  (first | rw [al5] | (simp only [Z1, aa5]; rw [al5]) | skip)
  replace H := F6 H; rcases H with ⟨aL5, b24, H⟩ | ⟨aL5, b24, H⟩
  ·replace H := F6 H; rcases H with ⟨aN7, b79, H⟩ | ⟨aN7, b79, H⟩
   ·have H' := j4.mk H
    clear H
    obtain ⟨da1, da2, dC0⟩ := Kd.s7 P7.out
    subst dC0
    have bv0 : 0 ≤ (0 : Int) := (by omega)
    have bv1 : 0 < (t106.length : Int) := of_decide_eq_true za
    obtain ⟨ag2, cS1, H8⟩ := Kd.E5 (Kd.y7 P7.out).2.2 0 bv0 bv1
    cases cS1
    have dn8 : (0 < t106.length) = True := eq_true (by omega)
    (try rw [show ((0 : Int)).toNat = 0 from rfl] at H8)
    (try rw [Addr.add_zero'] at H8)
    have an5 : ag2.block ≠ K0 := Kd.G4 (Kd.U6 P7.out I6.out I1)
    have an6 : ag2.block ≠ K0 := Kd.G4 (Kd.U6 P7.out I6.out I1)
    have an7 : ag2.block ≠ K0 := Kd.G4 (Kd.U6 P7.out I6.out I1)
    have an8 : ag2.block ≠ K0 := Kd.G4 (Kd.U6 P7.out I6.out I1)
    have an9 : ag2.block ≠ K0 := Kd.G4 (Kd.U6 P7.out I6.out I1)
    have ao0 : ag2.block ≠ K0 := Kd.G4 (Kd.U6 P7.out I6.out I1)
    have ao1 : ag2.block ≠ K0 := Kd.G4 (Kd.U6 P7.out I6.out I1)
    have ao2 : ag2.block ≠ K0 := Kd.G4 (Kd.U6 P7.out I6.out I1)
    have ao3 : ag2.block ≠ K0 := Kd.G4 (Kd.U6 P7.out I6.out I1)
    replace H8 := (cell_far (p := ⟨K0, 0, none⟩) (by first | (rw [j9]; exact an5) | (show (Addr.add _ _).block ≠ _; rw [j9]; exact an5) | exact an5) (.int .i64 0)).trans H8
    replace H8 := (cell_far (p := ⟨K0, 1, none⟩) (by first | (rw [j9]; exact an6) | (show (Addr.add _ _).block ≠ _; rw [j9]; exact an6) | exact an6) (.int .i64 0)).trans H8
    replace H8 := (cell_far (p := ⟨K0, 2, none⟩) (by first | (rw [j9]; exact an7) | (show (Addr.add _ _).block ≠ _; rw [j9]; exact an7) | exact an7) (.string (⟨#[]⟩ : ByteArray))).trans H8
    replace H8 := (cell_far (p := ⟨K0, 3, none⟩) (by first | (rw [j9]; exact an8) | (show (Addr.add _ _).block ≠ _; rw [j9]; exact an8) | exact an8) (.string (⟨#[]⟩ : ByteArray))).trans H8
    replace H8 := (cell_far (p := ⟨K0, 4, none⟩) (by first | (rw [j9]; exact an9) | (show (Addr.add _ _).block ≠ _; rw [j9]; exact an9) | exact an9) (.int .i64 0)).trans H8
    replace H8 := (cell_far (p := ⟨K0, 5, none⟩) (by first | (rw [j9]; exact ao0) | (show (Addr.add _ _).block ≠ _; rw [j9]; exact ao0) | exact ao0) (.string (⟨#[]⟩ : ByteArray))).trans H8
    replace H8 := (cell_far (p := ⟨K0, 6, none⟩) (by first | (rw [j9]; exact ao1) | (show (Addr.add _ _).block ≠ _; rw [j9]; exact ao1) | exact ao1) (.string (⟨#[]⟩ : ByteArray))).trans H8
    replace H8 := (cell_far (p := ⟨K0, 7, none⟩) (by first | (rw [j9]; exact ao2) | (show (Addr.add _ _).block ≠ _; rw [j9]; exact ao2) | exact ao2) (.slice none 0 0)).trans H8
    replace H8 := (cell_far (p := ⟨K0, 8, none⟩) (by first | (rw [j9]; exact ao3) | (show (Addr.add _ _).block ≠ _; rw [j9]; exact ao3) | exact ao3) (.slice none 0 0)).trans H8
    clear an5 an6
    clear an7 an8
    clear an9 ao0
    clear ao1 ao2
    clear ao3
    replace bv0 := eq_true bv0
    replace bv1 := eq_true bv1
    go_wp2
    go_meet
    case rel => exact ⟨_, (((t102.length : Int) == 2)), zs, H', ⟨by first | omega | exact Nat.le_refl _⟩, ⟨fM U8 I6 (fun _ hk => hk.1.2)⟩, ⟨fM P7 I6 (fun _ hk => hk.1.2)⟩, ⟨kQ j5⟩, ⟨kQ I6⟩, ⟨zB⟩⟩
   ·have H' := j4.mk H
    clear H
    obtain ⟨br6, bc0, c32⟩ := Kd.s7 P7.out
    subst c32
    have bv0 : 0 ≤ (0 : Int) := (by omega)
    have bv1 : 0 < (t106.length : Int) := of_decide_eq_true za
    obtain ⟨ag2, cS1, H8⟩ := Kd.E5 (Kd.y7 P7.out).2.2 0 bv0 bv1
    cases cS1
    have dn8 : (0 < t106.length) = True := eq_true (by omega)
    (try rw [show ((0 : Int)).toNat = 0 from rfl] at H8)
    (try rw [Addr.add_zero'] at H8)
    have an5 : ag2.block ≠ K0 := Kd.G4 (Kd.U6 P7.out I6.out I1)
    have an6 : ag2.block ≠ K0 := Kd.G4 (Kd.U6 P7.out I6.out I1)
    have an7 : ag2.block ≠ K0 := Kd.G4 (Kd.U6 P7.out I6.out I1)
    have an8 : ag2.block ≠ K0 := Kd.G4 (Kd.U6 P7.out I6.out I1)
    have an9 : ag2.block ≠ K0 := Kd.G4 (Kd.U6 P7.out I6.out I1)
    have ao0 : ag2.block ≠ K0 := Kd.G4 (Kd.U6 P7.out I6.out I1)
    have ao1 : ag2.block ≠ K0 := Kd.G4 (Kd.U6 P7.out I6.out I1)
    have ao2 : ag2.block ≠ K0 := Kd.G4 (Kd.U6 P7.out I6.out I1)
    have ao3 : ag2.block ≠ K0 := Kd.G4 (Kd.U6 P7.out I6.out I1)
    replace H8 := (cell_far (p := ⟨K0, 0, none⟩) (by first | (rw [j9]; exact an5) | (show (Addr.add _ _).block ≠ _; rw [j9]; exact an5) | exact an5) (.int .i64 0)).trans H8
    replace H8 := (cell_far (p := ⟨K0, 1, none⟩) (by first | (rw [j9]; exact an6) | (show (Addr.add _ _).block ≠ _; rw [j9]; exact an6) | exact an6) (.int .i64 0)).trans H8
    replace H8 := (cell_far (p := ⟨K0, 2, none⟩) (by first | (rw [j9]; exact an7) | (show (Addr.add _ _).block ≠ _; rw [j9]; exact an7) | exact an7) (.string (⟨#[]⟩ : ByteArray))).trans H8
    replace H8 := (cell_far (p := ⟨K0, 3, none⟩) (by first | (rw [j9]; exact an8) | (show (Addr.add _ _).block ≠ _; rw [j9]; exact an8) | exact an8) (.string (⟨#[]⟩ : ByteArray))).trans H8
    replace H8 := (cell_far (p := ⟨K0, 4, none⟩) (by first | (rw [j9]; exact an9) | (show (Addr.add _ _).block ≠ _; rw [j9]; exact an9) | exact an9) (.int .i64 0)).trans H8
    replace H8 := (cell_far (p := ⟨K0, 5, none⟩) (by first | (rw [j9]; exact ao0) | (show (Addr.add _ _).block ≠ _; rw [j9]; exact ao0) | exact ao0) (.string (⟨#[]⟩ : ByteArray))).trans H8
    replace H8 := (cell_far (p := ⟨K0, 6, none⟩) (by first | (rw [j9]; exact ao1) | (show (Addr.add _ _).block ≠ _; rw [j9]; exact ao1) | exact ao1) (.string (⟨#[]⟩ : ByteArray))).trans H8
    replace H8 := (cell_far (p := ⟨K0, 7, none⟩) (by first | (rw [j9]; exact ao2) | (show (Addr.add _ _).block ≠ _; rw [j9]; exact ao2) | exact ao2) (.slice none 0 0)).trans H8
    replace H8 := (cell_far (p := ⟨K0, 8, none⟩) (by first | (rw [j9]; exact ao3) | (show (Addr.add _ _).block ≠ _; rw [j9]; exact ao3) | exact ao3) (.slice none 0 0)).trans H8
    clear an5 an6
    clear an7 an8
    clear an9 ao0
    clear ao1 ao2
    clear ao3
    replace bv0 := eq_true bv0
    replace bv1 := eq_true bv1
    go_wp2
    go_meet
    case rel => exact ⟨_, (false), zs, H', ⟨by first | omega | exact Nat.le_refl _⟩, ⟨fM U8 I6 (fun _ hk => hk.1.2)⟩, ⟨fM P7 I6 (fun _ hk => hk.1.2)⟩, ⟨kQ j5⟩, ⟨kQ I6⟩, ⟨zB⟩⟩
  ·have H' := j4.mk H
   clear H
   obtain ⟨cx3, cx4, dC1⟩ := Kd.s7 P7.out
   subst dC1
   have bv0 : 0 ≤ (0 : Int) := (by omega)
   have bv1 : 0 < (t106.length : Int) := of_decide_eq_true za
   obtain ⟨ag2, cS1, H8⟩ := Kd.E5 (Kd.y7 P7.out).2.2 0 bv0 bv1
   cases cS1
   have dn8 : (0 < t106.length) = True := eq_true (by omega)
   (try rw [show ((0 : Int)).toNat = 0 from rfl] at H8)
   (try rw [Addr.add_zero'] at H8)
   have an5 : ag2.block ≠ K0 := Kd.G4 (Kd.U6 P7.out I6.out I1)
   have an6 : ag2.block ≠ K0 := Kd.G4 (Kd.U6 P7.out I6.out I1)
   have an7 : ag2.block ≠ K0 := Kd.G4 (Kd.U6 P7.out I6.out I1)
   have an8 : ag2.block ≠ K0 := Kd.G4 (Kd.U6 P7.out I6.out I1)
   have an9 : ag2.block ≠ K0 := Kd.G4 (Kd.U6 P7.out I6.out I1)
   have ao0 : ag2.block ≠ K0 := Kd.G4 (Kd.U6 P7.out I6.out I1)
   have ao1 : ag2.block ≠ K0 := Kd.G4 (Kd.U6 P7.out I6.out I1)
   have ao2 : ag2.block ≠ K0 := Kd.G4 (Kd.U6 P7.out I6.out I1)
   have ao3 : ag2.block ≠ K0 := Kd.G4 (Kd.U6 P7.out I6.out I1)
   replace H8 := (cell_far (p := ⟨K0, 0, none⟩) (by first | (rw [j9]; exact an5) | (show (Addr.add _ _).block ≠ _; rw [j9]; exact an5) | exact an5) (.int .i64 0)).trans H8
   replace H8 := (cell_far (p := ⟨K0, 1, none⟩) (by first | (rw [j9]; exact an6) | (show (Addr.add _ _).block ≠ _; rw [j9]; exact an6) | exact an6) (.int .i64 0)).trans H8
   replace H8 := (cell_far (p := ⟨K0, 2, none⟩) (by first | (rw [j9]; exact an7) | (show (Addr.add _ _).block ≠ _; rw [j9]; exact an7) | exact an7) (.string (⟨#[]⟩ : ByteArray))).trans H8
   replace H8 := (cell_far (p := ⟨K0, 3, none⟩) (by first | (rw [j9]; exact an8) | (show (Addr.add _ _).block ≠ _; rw [j9]; exact an8) | exact an8) (.string (⟨#[]⟩ : ByteArray))).trans H8
   replace H8 := (cell_far (p := ⟨K0, 4, none⟩) (by first | (rw [j9]; exact an9) | (show (Addr.add _ _).block ≠ _; rw [j9]; exact an9) | exact an9) (.int .i64 0)).trans H8
   replace H8 := (cell_far (p := ⟨K0, 5, none⟩) (by first | (rw [j9]; exact ao0) | (show (Addr.add _ _).block ≠ _; rw [j9]; exact ao0) | exact ao0) (.string (⟨#[]⟩ : ByteArray))).trans H8
   replace H8 := (cell_far (p := ⟨K0, 6, none⟩) (by first | (rw [j9]; exact ao1) | (show (Addr.add _ _).block ≠ _; rw [j9]; exact ao1) | exact ao1) (.string (⟨#[]⟩ : ByteArray))).trans H8
   replace H8 := (cell_far (p := ⟨K0, 7, none⟩) (by first | (rw [j9]; exact ao2) | (show (Addr.add _ _).block ≠ _; rw [j9]; exact ao2) | exact ao2) (.slice none 0 0)).trans H8
   replace H8 := (cell_far (p := ⟨K0, 8, none⟩) (by first | (rw [j9]; exact ao3) | (show (Addr.add _ _).block ≠ _; rw [j9]; exact ao3) | exact ao3) (.slice none 0 0)).trans H8
   clear an5 an6
   clear an7 an8
   clear an9 ao0
   clear ao1 ao2
   clear ao3
   replace bv0 := eq_true bv0
   replace bv1 := eq_true bv1
   go_wp2
   go_meet
   case rel => exact ⟨_, (false), zs, H', ⟨by first | omega | exact Nat.le_refl _⟩, ⟨fM U8 I6 (fun _ hk => hk.1.2)⟩, ⟨fM P7 I6 (fun _ hk => hk.1.2)⟩, ⟨kQ j5⟩, ⟨kQ I6⟩, ⟨zB⟩⟩
 case rest =>
  clear HC5
  obtain ⟨kq, cS0, rfl, HA, HJ4, aN0, L9, j5, I6, HB⟩ := hcut
  cases kq with
  | zero => exact absurd HA.out (by simp [D6.j0])
  | succ kj4 =>
   have H := HA.out
   clear HA
   simp only [D6.j0] at H
   replace H := itb H; rcases H with ⟨rfl, H⟩ | ⟨rfl, H⟩
   ·replace H := ak4 H; obtain ⟨c20, aL3, H⟩ := H
    have b22 : decide (1 < t106.length) = true := decide_eq_true (by omega)
    clear c20
    replace H := S2 H; obtain ⟨t112, A21, H⟩ := H
    replace H := ak4 H; obtain ⟨c22, aT9, H⟩ := H
    have bs8 : decide (1 < t102.length) = true := decide_eq_true (by omega)
    clear c22
    replace H := S2 H; obtain ⟨⟨t114, t115, t116, t119, t122⟩, A23, H⟩ := H
    dsimp only at H
    simp only [Option.some.injEq, Prod.mk.injEq] at H
    obtain ⟨rfl, rfl, rfl, rfl, rfl, rfl, rfl, rfl, rfl⟩ := H
    have cG0 := aP4.out
    have cG1 := aP3.out
    have dm1 := cz9 I6.out
    have dm2 := fz9 I6.out
    obtain ⟨eh7, eh8, dy8⟩ := Kd.s7 L9.out
    subst dy8
    have c04 : 0 ≤ (1 : Int) := (by omega)
    have c05 : 1 < (t106.length : Int) := of_decide_eq_true za
    obtain ⟨bA9, ds6, aG4⟩ := Kd.E5 (Kd.y7 L9.out).2.2 1 c04 c05
    cases ds6
    (try simp only [show (1 : Int).toNat = 1 from rfl, Nat.reduceMul, Nat.reduceEqDiff, Go.Addr.add, ↓reduceIte] at aG4)
    have eA3 : (1 < t106.length) = True := eq_true (by omega)
    (try rw [show ((1 : Int)).toNat = 1 from rfl] at aG4)
    have bk7 : bA9.block ≠ K0 := Kd.G4 (Kd.U6 L9.out I6.out I1)
    replace aG4 := (cell_far (p := ⟨K0, 0, none⟩) (by first | (rw [j9]; exact bk7) | (show (Addr.add _ _).block ≠ _; rw [j9]; exact bk7) | exact bk7) (.int .i64 1)).trans aG4
    clear bk7
    replace c04 := eq_true c04
    replace c05 := eq_true c05
    go_wp2_with (first | ((with_reducible refine j6 (f := 85) rfl ?_); refine gv 38 Tryz.func85 _ (F4.calls (w := _) (h := A21.out)) ?_; rintro w' ⟨nd, rfl⟩; have dC2 : 0 ≤ (1 : Int) := (by omega); have dC3 : 1 < (t102.length : Int) := of_decide_eq_true za; obtain ⟨dZ3, el8, aM7⟩ := Kd.E5 (Kd.y7 aN0.out).2.2 1 dC2 dC3; obtain rfl : ay5 = dZ3 := (by injection el8); (try simp only [show (1 : Int).toNat = 1 from rfl, Nat.reduceMul, Nat.reduceEqDiff, Go.Addr.add, ↓reduceIte] at aM7); have eA4 : (1 < t102.length) = True := eq_true (by omega); (try rw [show ((1 : Int)).toNat = 1 from rfl] at aM7); have bk8 : ay5.block ≠ K0 := Kd.G4 (Kd.U6 aN0.out I6.out I1); have bk9 : ay5.block ≠ K0 := Kd.G4 (Kd.U6 aN0.out I6.out I1); replace aM7 := (cell_far (p := ⟨K0, 0, none⟩) (by first | (rw [j9]; exact bk8) | (show (Addr.add _ _).block ≠ _; rw [j9]; exact bk8) | exact bk8) (.int .i64 1)).trans aM7; replace aM7 := ((show ∀ (W : World) (a : Addr), (W.drewN nd).cell? a = W.cell? a from fun _ _ => rfl) _ _).trans aM7; replace aM7 := (cell_far (p := ⟨K0, 4, none⟩) (by first | (rw [j9]; exact bk9) | (show (Addr.add _ _).block ≠ _; rw [j9]; exact bk9) | exact bk9) (.int .i64 t112)).trans aM7; clear bk8 bk9; replace dC2 := eq_true dC2; replace dC3 := eq_true dC3) | ((with_reducible refine j6 (f := 86) rfl ?_); refine gl 44 Tryz.func86 _ ((a86.calls (w := _) (h := A23.out)).mono ?_); rintro e w27 ⟨v117, dx5, rfl, ho0, ho1, hb⟩; refine ⟨_, rfl, ?_⟩; have a95 := lS ho0; have P0 := j4.mk (Kd.T9 (Kd.as0 (Kd.as0 ho1 (Kd.aa3 (fO aN0 I6))) (Kd.aa3 (fO L9 I6))) (bZ)); replace aN0 := j4.mk (Kd.ab6 (fO aN0 I6) (Kd.J6 ho1) hb); replace L9 := j4.mk (Kd.ab6 (fO L9 I6) (Kd.J6 ho1) hb); replace j5 := kS j5 hb; replace I6 := kP (.cells #[.int .i64 1, .int .i64 0, .string ⟨#[]⟩, .string ⟨#[]⟩, .int .i64 t112, .string ⟨#[]⟩, .string ⟨#[]⟩, .slice none 0 0, .slice none 0 0] 37 (0, 0)) I6 hb; replace HB := bS hb; clear hb ho0; (try clear ho1)) | ((with_reducible refine l9 (N := 6) rfl ?_); (try (refine Q4 (by rfl) ?_; dsimp only)); refine bx (cs := #[.string ⟨#[]⟩, .string ⟨#[]⟩, .slice none 0 0, .slice none 0 0]) (t := 35) ?_; intro bg3 hg w28 o8 hb; replace aN0 := rS aN0 hb; replace L9 := rS L9 hb; replace a95 := rS a95 hb; replace P0 := rS P0 hb; have cr4 := j4.mk (o8); have eA5 := gS hg; have eA6 := gS hg; have cx5 := nS hg j5; have cx6 := nG hg j5; replace j5 := kS j5 hb; have cx7 := nS hg I6; have cx8 := nG hg I6; replace I6 := kS I6 hb; replace HB := bS hb; clear hb o8 hg; have bB4 := cx6.out; have bB5 := cx5.out; have bp6 := cx8.out; have bp7 := cx7.out; have bR6 := cz4 cr4.out; have bR7 := fz4 cr4.out; obtain ⟨X6, X2, bx1⟩ := Kd.s7 a95.out; subst bx1; obtain ⟨a15, a16, bP8⟩ := Kd.s7 P0.out; subst bP8; have ci1 := cz9 I6.out; have ci2 := fz9 I6.out; have cM1 := cz9 j5.out; have cM2 := fz9 j5.out))
    refine bodyPost_ret (results_cell_row rfl _ _ j8 37 #[.int .i64 1, .int .i64 0, .string (⟨#[]⟩ : ByteArray), .string (⟨#[]⟩ : ByteArray), .int .i64 t112, .string t114, .string t115, .slice X6 t116.length X2, .slice a15 t119.length a16] (0, 0) _ rfl (kQ j5) Tryz.underlying37 rfl z2_) rfl ?_
    exact ⟨_, _, zr, by (with_reducible repeat (first | apply Kd.N9 | apply Kd.M8 | apply Kd.O0)); exact Kd.E0 (Kd.M9 (p := ⟨j8, 8, none⟩) (Kd.M9 (p := ⟨j8, 7, none⟩) (Kd.M9 (p := ⟨j8, 6, none⟩) (Kd.M9 (p := ⟨j8, 5, none⟩) (Kd.M9 (p := ⟨j8, 4, none⟩) (Kd.M9 (p := ⟨j8, 3, none⟩) (Kd.M9 (p := ⟨j8, 2, none⟩) (Kd.M9 (p := ⟨j8, 1, none⟩) (Kd.M9 (p := ⟨j8, 0, none⟩) (Kd.M9 (p := ⟨K0, 8, none⟩) (Kd.M9 (p := ⟨K0, 7, none⟩) (Kd.M9 (p := ⟨K0, 6, none⟩) (Kd.M9 (p := ⟨K0, 5, none⟩) (Kd.M9 (p := ⟨bg3, 3, none⟩) (Kd.M9 (p := ⟨bg3, 2, none⟩) (Kd.M9 (p := ⟨bg3, 1, none⟩) (Kd.M9 (p := ⟨bg3, 0, none⟩) (Kd.z8 (Kd.z8 (Kd.z8 a95.out cr4.out I1) I6.out I1) j5.out I1) (fun _ hk => hk.1.1.2) (.string t114)) (fun _ hk => hk.1.1.2) (.string t115)) (fun _ hk => hk.1.1.2) (.slice X6 t116.length X2)) (fun _ hk => hk.1.1.2) (.slice a15 t119.length a16)) (fun _ hk => hk.1.2) (.string t114)) (fun _ hk => hk.1.2) (.string t115)) (fun _ hk => hk.1.2) (.slice X6 t116.length X2)) (fun _ hk => hk.1.2) (.slice a15 t119.length a16)) (fun _ hk => hk.2) (.int .i64 1)) (fun _ hk => hk.2) (.int .i64 0)) (fun _ hk => hk.2) (.string (⟨#[]⟩ : ByteArray))) (fun _ hk => hk.2) (.string (⟨#[]⟩ : ByteArray))) (fun _ hk => hk.2) (.int .i64 t112)) (fun _ hk => hk.2) (.string t114)) (fun _ hk => hk.2) (.string t115)) (fun _ hk => hk.2) (.slice X6 t116.length X2)) (fun _ hk => hk.2) (.slice a15 t119.length a16)) (fun _ hk => trivial), by (with_reducible repeat (first | apply Kd.N9 | apply Kd.M8 | apply Kd.O0)); exact Kd.E0 (Kd.M9 (p := ⟨j8, 8, none⟩) (Kd.M9 (p := ⟨j8, 7, none⟩) (Kd.M9 (p := ⟨j8, 6, none⟩) (Kd.M9 (p := ⟨j8, 5, none⟩) (Kd.M9 (p := ⟨j8, 4, none⟩) (Kd.M9 (p := ⟨j8, 3, none⟩) (Kd.M9 (p := ⟨j8, 2, none⟩) (Kd.M9 (p := ⟨j8, 1, none⟩) (Kd.M9 (p := ⟨j8, 0, none⟩) (Kd.M9 (p := ⟨K0, 8, none⟩) (Kd.M9 (p := ⟨K0, 7, none⟩) (Kd.M9 (p := ⟨K0, 6, none⟩) (Kd.M9 (p := ⟨K0, 5, none⟩) (Kd.M9 (p := ⟨bg3, 3, none⟩) (Kd.M9 (p := ⟨bg3, 2, none⟩) (Kd.M9 (p := ⟨bg3, 1, none⟩) (Kd.M9 (p := ⟨bg3, 0, none⟩) (Kd.z8 (Kd.z8 (Kd.z8 P0.out cr4.out I1) I6.out I1) j5.out I1) (fun _ hk => hk.1.1.2) (.string t114)) (fun _ hk => hk.1.1.2) (.string t115)) (fun _ hk => hk.1.1.2) (.slice X6 t116.length X2)) (fun _ hk => hk.1.1.2) (.slice a15 t119.length a16)) (fun _ hk => hk.1.2) (.string t114)) (fun _ hk => hk.1.2) (.string t115)) (fun _ hk => hk.1.2) (.slice X6 t116.length X2)) (fun _ hk => hk.1.2) (.slice a15 t119.length a16)) (fun _ hk => hk.2) (.int .i64 1)) (fun _ hk => hk.2) (.int .i64 0)) (fun _ hk => hk.2) (.string (⟨#[]⟩ : ByteArray))) (fun _ hk => hk.2) (.string (⟨#[]⟩ : ByteArray))) (fun _ hk => hk.2) (.int .i64 t112)) (fun _ hk => hk.2) (.string t114)) (fun _ hk => hk.2) (.string t115)) (fun _ hk => hk.2) (.slice X6 t116.length X2)) (fun _ hk => hk.2) (.slice a15 t119.length a16)) (fun _ hk => trivial), zB⟩
   ·have dC4 := j4.mk H
    clear H
    go_upto_region 9 with (fail)
    go_cut [49] (fun v49 wc => ∃ (kq : Nat) (c90 : Bool), v49 = .bool c90 ∧ j4 (D6.j1 kq t106 c90 0 0 (⟨#[]⟩ : ByteArray) (⟨#[]⟩ : ByteArray) 0 (⟨#[]⟩ : ByteArray) (⟨#[]⟩ : ByteArray) = some (r1, r2, r3, r4, r5, r6, r7, r8, r9)) ∧ j4 (kq ≤ kj4) ∧ j4 (Kd.R Kd.string 9 wc w.heap.size (fun _ => True) v107 t106) ∧ j4 (wc.heap[j8]? = some (.cells #[.int .i64 0, .int .i64 0, .string (⟨#[]⟩ : ByteArray), .string (⟨#[]⟩ : ByteArray), .int .i64 0, .string (⟨#[]⟩ : ByteArray), .string (⟨#[]⟩ : ByteArray), (.slice none 0 0), (.slice none 0 0)] 37 (0, 0))) ∧ j4 (wc.heap[K0]? = some (.cells #[.int .i64 0, .int .i64 0, .string (⟨#[]⟩ : ByteArray), .string (⟨#[]⟩ : ByteArray), .int .i64 0, .string (⟨#[]⟩ : ByteArray), .string (⟨#[]⟩ : ByteArray), (.slice none 0 0), (.slice none 0 0)] 37 (0, 0))) ∧ j4 (Below w.heap.size w wc))
    case first =>
     have H := dC4.out
     clear dC4
     replace H := ak4 H; obtain ⟨c37, dn9, H⟩ := H
     have eA7 : decide (0 < t106.length) = true := decide_eq_true (by omega)
     clear c37
     (first | rw [dn9] | (simp only [Z1, aa5]; rw [dn9]) | skip)
     replace H := F6 H; rcases H with ⟨cS2, cS3, H⟩ | ⟨cS2, cS3, H⟩
     ·have H' := j4.mk H
      clear H
      obtain ⟨dC5, cX5, cu9⟩ := Kd.s7 L9.out
      subst cu9
      have c92 : 0 ≤ (0 : Int) := (by omega)
      have c94 : 0 < (t106.length : Int) := of_decide_eq_true za
      obtain ⟨dZ4, dC6, ba3⟩ := Kd.E5 (Kd.y7 L9.out).2.2 0 c92 c94
      cases dC6
      have dZ5 : (0 < t106.length) = True := eq_true (by omega)
      (try rw [show ((0 : Int)).toNat = 0 from rfl] at ba3)
      (try rw [Addr.add_zero'] at ba3)
      replace c92 := eq_true c92
      replace c94 := eq_true c94
      go_wp2
      go_meet
      case rel => exact ⟨_, (((t106.length : Int) == 3)), zs, H', ⟨by have := HJ4.out; first | omega | exact Nat.le_refl _⟩, ⟨by (with_reducible repeat (first | apply Kd.N9 | apply Kd.M8 | apply Kd.O0)); exact Kd.E0 L9.out (fun _ hk => trivial)⟩, ⟨kQ j5⟩, ⟨kQ I6⟩, ⟨zB⟩⟩
     ·have H' := j4.mk H
      clear H
      obtain ⟨dr5, dr6, ct9⟩ := Kd.s7 L9.out
      subst ct9
      have c92 : 0 ≤ (0 : Int) := (by omega)
      have c94 : 0 < (t106.length : Int) := of_decide_eq_true za
      obtain ⟨dZ4, dC6, ba3⟩ := Kd.E5 (Kd.y7 L9.out).2.2 0 c92 c94
      cases dC6
      have dZ5 : (0 < t106.length) = True := eq_true (by omega)
      (try rw [show ((0 : Int)).toNat = 0 from rfl] at ba3)
      (try rw [Addr.add_zero'] at ba3)
      replace c92 := eq_true c92
      replace c94 := eq_true c94
      go_wp2
      go_meet
      case rel => exact ⟨_, (false), zs, H', ⟨by have := HJ4.out; first | omega | exact Nat.le_refl _⟩, ⟨by (with_reducible repeat (first | apply Kd.N9 | apply Kd.M8 | apply Kd.O0)); exact Kd.E0 L9.out (fun _ hk => trivial)⟩, ⟨kQ j5⟩, ⟨kQ I6⟩, ⟨zB⟩⟩
    case rest =>
     clear dC4
     obtain ⟨kq, c90, rfl, HA, dZ6, L9, j5, I6, HB⟩ := hcut
     cases kq with
     | zero => exact absurd HA.out (by simp [D6.j1])
     | succ el9 =>
      have H := HA.out
      clear HA
      simp only [D6.j1] at H
      replace H := itb H; rcases H with ⟨rfl, H⟩ | ⟨rfl, H⟩
      ·replace H := ak4 H; obtain ⟨c42, dM8, H⟩ := H
       have eA8 : decide (1 < t106.length) = true := decide_eq_true (by omega)
       clear c42
       replace H := S2 H; obtain ⟨t126, A43, H⟩ := H
       replace H := ak4 H; obtain ⟨c44, bE2, H⟩ := H
       have eA9 : decide (2 < t106.length) = true := decide_eq_true (by omega)
       clear c44
       replace H := S2 H; obtain ⟨⟨t128, t129, t130⟩, A45, H⟩ := H
       dsimp only at H
       simp only [Option.some.injEq, Prod.mk.injEq] at H
       obtain ⟨rfl, rfl, rfl, rfl, rfl, rfl, rfl, rfl, rfl⟩ := H
       have di7 := aP4.out
       have di8 := aP3.out
       have ci3 := cz9 I6.out
       have ci4 := fz9 I6.out
       obtain ⟨ek4, ek5, dB8⟩ := Kd.s7 L9.out
       subst dB8
       have dC7 : 0 ≤ (1 : Int) := (by omega)
       have dC8 : 1 < (t106.length : Int) := of_decide_eq_true za
       obtain ⟨cr5, em0, bl0⟩ := Kd.E5 (Kd.y7 L9.out).2.2 1 dC7 dC8
       cases em0
       (try simp only [show (1 : Int).toNat = 1 from rfl, Nat.reduceMul, Nat.reduceEqDiff, Go.Addr.add, ↓reduceIte] at bl0)
       have eB0 : (1 < t106.length) = True := eq_true (by omega)
       (try rw [show ((1 : Int)).toNat = 1 from rfl] at bl0)
       have bl1 : cr5.block ≠ K0 := Kd.G4 (Kd.U6 L9.out I6.out I1)
       replace bl0 := (cell_far (p := ⟨K0, 0, none⟩) (by first | (rw [j9]; exact bl1) | (show (Addr.add _ _).block ≠ _; rw [j9]; exact bl1) | exact bl1) (.int .i64 2)).trans bl0
       clear bl1
       replace dC7 := eq_true dC7
       replace dC8 := eq_true dC8
       go_wp2_with (first | ((with_reducible refine j6 (f := 85) rfl ?_); refine gv 63 Tryz.func85 _ (F4.calls (w := _) (h := A43.out)) ?_; rintro w' ⟨nd, rfl⟩; have dC9 : 0 ≤ (2 : Int) := (by omega); have dD0 : 2 < (t106.length : Int) := of_decide_eq_true za; obtain ⟨dZ7, em1, aM8⟩ := Kd.E5 (Kd.y7 L9.out).2.2 2 dC9 dD0; obtain rfl : cr5 = dZ7 := (by injection em1); (try simp only [show (2 : Int).toNat = 2 from rfl, Nat.reduceMul, Nat.reduceEqDiff, Go.Addr.add, ↓reduceIte] at aM8); have eB1 : (2 < t106.length) = True := eq_true (by omega); (try rw [show ((2 : Int)).toNat = 2 from rfl] at aM8); have bl2 : cr5.block ≠ K0 := Kd.G4 (Kd.U6 L9.out I6.out I1); have bl3 : cr5.block ≠ K0 := Kd.G4 (Kd.U6 L9.out I6.out I1); replace aM8 := (cell_far (p := ⟨K0, 0, none⟩) (by first | (rw [j9]; exact bl2) | (show (Addr.add _ _).block ≠ _; rw [j9]; exact bl2) | exact bl2) (.int .i64 2)).trans aM8; replace aM8 := ((show ∀ (W : World) (a : Addr), (W.drewN nd).cell? a = W.cell? a from fun _ _ => rfl) _ _).trans aM8; replace aM8 := (cell_far (p := ⟨K0, 1, none⟩) (by first | (rw [j9]; exact bl3) | (show (Addr.add _ _).block ≠ _; rw [j9]; exact bl3) | exact bl3) (.int .i64 t126)).trans aM8; clear bl2 bl3; replace dC9 := eq_true dC9; replace dD0 := eq_true dD0) | ((with_reducible refine j6 (f := 87) rfl ?_); refine gv 69 Tryz.func87 _ (D0.calls (w := _) (h := A45.out)) ?_; intro w49 hb; replace L9 := fS L9 I6 hb; replace j5 := kS j5 hb; replace I6 := kP (.cells #[.int .i64 2, .int .i64 t126, .string ⟨#[]⟩, .string ⟨#[]⟩, .int .i64 0, .string ⟨#[]⟩, .string ⟨#[]⟩, .slice none 0 0, .slice none 0 0] 37 (0, 0)) I6 hb; replace HB := bS hb; clear hb) | ((with_reducible refine l9 (N := 8) rfl ?_); (try (refine Q4 (by rfl) ?_; dsimp only)); refine bx (cs := #[.string ⟨#[]⟩, .string ⟨#[]⟩]) (t := 32) ?_; intro do0 hg w50 o8 hb; replace L9 := rS L9 hb; have Y9 := j4.mk (o8); have dZ8 := gS hg; have dZ9 := gS hg; have cx9 := nS hg j5; have cy0 := nG hg j5; replace j5 := kS j5 hb; have cy1 := nS hg I6; have cy2 := nG hg I6; replace I6 := kS I6 hb; replace HB := bS hb; clear hb o8 hg; have de6 := cy0.out; have de7 := cx9.out; have dH4 := cy2.out; have dH5 := cy1.out; have eB2 := cz2 Y9.out; have eB3 := fz2 Y9.out; have cE6 := cz9 I6.out; have cE7 := fz9 I6.out; have dh1 := cz9 j5.out; have dh2 := fz9 j5.out))
       refine bodyPost_ret (results_cell_row rfl _ _ j8 37 #[.int .i64 2, .int .i64 t126, .string t128, .string t129, .int .i64 0, .string (⟨#[]⟩ : ByteArray), .string (⟨#[]⟩ : ByteArray), .slice none 0 0, .slice none 0 0] (0, 0) _ rfl (kQ j5) Tryz.underlying37 rfl z2_) rfl ?_
       exact ⟨_, _, zr, zn, zn, zB⟩
      ·have dD1 := j4.mk H
       clear H
       go_upto_region 14 with (fail)
       go_cut [74] (fun v74 wc => ∃ (kq : Nat) (c95 : Bool), v74 = .bool c95 ∧ j4 (D6.j2 kq t106 c95 0 0 (⟨#[]⟩ : ByteArray) (⟨#[]⟩ : ByteArray) 0 (⟨#[]⟩ : ByteArray) (⟨#[]⟩ : ByteArray) = some (r1, r2, r3, r4, r5, r6, r7, r8, r9)) ∧ j4 (kq ≤ el9) ∧ j4 (Kd.R Kd.string 9 wc w.heap.size (fun _ => True) v107 t106) ∧ j4 (wc.heap[j8]? = some (.cells #[.int .i64 0, .int .i64 0, .string (⟨#[]⟩ : ByteArray), .string (⟨#[]⟩ : ByteArray), .int .i64 0, .string (⟨#[]⟩ : ByteArray), .string (⟨#[]⟩ : ByteArray), (.slice none 0 0), (.slice none 0 0)] 37 (0, 0))) ∧ j4 (wc.heap[K0]? = some (.cells #[.int .i64 0, .int .i64 0, .string (⟨#[]⟩ : ByteArray), .string (⟨#[]⟩ : ByteArray), .int .i64 0, .string (⟨#[]⟩ : ByteArray), .string (⟨#[]⟩ : ByteArray), (.slice none 0 0), (.slice none 0 0)] 37 (0, 0))) ∧ j4 (Below w.heap.size w wc))
       case first =>
        have H := dD1.out
        clear dD1
        replace H := ak4 H; obtain ⟨c57, do1, H⟩ := H
        have eB4 : decide (0 < t106.length) = true := decide_eq_true (by omega)
        clear c57
        (first | rw [do1] | (simp only [Z1, aa5]; rw [do1]) | skip)
        replace H := F6 H; rcases H with ⟨dh3, dh4, H⟩ | ⟨dh3, dh4, H⟩
        ·have H' := j4.mk H
         clear H
         obtain ⟨eL0, eL1, em2⟩ := Kd.s7 L9.out
         subst em2
         have c96 : 0 ≤ (0 : Int) := (by omega)
         have c97 : 0 < (t106.length : Int) := of_decide_eq_true za
         obtain ⟨e00, dD2, ba4⟩ := Kd.E5 (Kd.y7 L9.out).2.2 0 c96 c97
         cases dD2
         have e01 : (0 < t106.length) = True := eq_true (by omega)
         (try rw [show ((0 : Int)).toNat = 0 from rfl] at ba4)
         (try rw [Addr.add_zero'] at ba4)
         replace c96 := eq_true c96
         replace c97 := eq_true c97
         go_wp2
         go_meet
         case rel => exact ⟨_, (((t106.length : Int) == 4)), zs, H', ⟨by have := HJ4.out; have := dZ6.out; first | omega | exact Nat.le_refl _⟩, ⟨rO L9⟩, ⟨kQ j5⟩, ⟨kQ I6⟩, ⟨zB⟩⟩
        ·have H' := j4.mk H
         clear H
         obtain ⟨d06, cQ5, cQ6⟩ := Kd.s7 L9.out
         subst cQ6
         have c96 : 0 ≤ (0 : Int) := (by omega)
         have c97 : 0 < (t106.length : Int) := of_decide_eq_true za
         obtain ⟨e00, dD2, ba4⟩ := Kd.E5 (Kd.y7 L9.out).2.2 0 c96 c97
         cases dD2
         have e01 : (0 < t106.length) = True := eq_true (by omega)
         (try rw [show ((0 : Int)).toNat = 0 from rfl] at ba4)
         (try rw [Addr.add_zero'] at ba4)
         replace c96 := eq_true c96
         replace c97 := eq_true c97
         go_wp2
         go_meet
         case rel => exact ⟨_, (false), zs, H', ⟨by have := HJ4.out; have := dZ6.out; first | omega | exact Nat.le_refl _⟩, ⟨rO L9⟩, ⟨kQ j5⟩, ⟨kQ I6⟩, ⟨zB⟩⟩
       case rest =>
        clear dD1
        obtain ⟨kq, c95, rfl, HA, eL2, L9, j5, I6, HB⟩ := hcut
        cases kq with
        | zero => exact absurd HA.out (by simp [D6.j2])
        | succ eL3 =>
         have H := HA.out
         clear HA
         simp only [D6.j2] at H
         replace H := itb H; rcases H with ⟨rfl, H⟩ | ⟨rfl, H⟩
         ·replace H := ak4 H; obtain ⟨c62, eB5, H⟩ := H
          have eB6 : decide (1 < t106.length) = true := decide_eq_true (by omega)
          clear c62
          replace H := S2 H; obtain ⟨t134, A63, H⟩ := H
          replace H := ak4 H; obtain ⟨c64, eB7, H⟩ := H
          have eB8 : decide (2 < t106.length) = true := decide_eq_true (by omega)
          clear c64
          replace H := S2 H; obtain ⟨⟨t136, t137, t138⟩, A65, H⟩ := H
          dsimp only at H
          replace H := ak4 H; obtain ⟨c66, eB9, H⟩ := H
          have eC0 : decide (3 < t106.length) = true := decide_eq_true (by omega)
          clear c66
          replace H := S2 H; obtain ⟨t141, A67, H⟩ := H
          simp only [Option.some.injEq, Prod.mk.injEq] at H
          obtain ⟨rfl, rfl, rfl, rfl, rfl, rfl, rfl, rfl, rfl⟩ := H
          have cf4 := aP4.out
          have cf5 := aP3.out
          have bS0 := cz9 I6.out
          have bS1 := fz9 I6.out
          obtain ⟨a83, a65, c23⟩ := Kd.s7 L9.out
          subst c23
          have c86 : 0 ≤ (1 : Int) := (by omega)
          have c88 : 1 < (t106.length : Int) := of_decide_eq_true za
          obtain ⟨aX6, dB9, aH6⟩ := Kd.E5 (Kd.y7 L9.out).2.2 1 c86 c88
          cases dB9
          (try simp only [show (1 : Int).toNat = 1 from rfl, Nat.reduceMul, Nat.reduceEqDiff, Go.Addr.add, ↓reduceIte] at aH6)
          have eC1 : (1 < t106.length) = True := eq_true (by omega)
          (try rw [show ((1 : Int)).toNat = 1 from rfl] at aH6)
          have aH7 : aX6.block ≠ K0 := Kd.G4 (Kd.U6 L9.out I6.out I1)
          replace aH6 := (cell_far (p := ⟨K0, 0, none⟩) (by first | (rw [j9]; exact aH7) | (show (Addr.add _ _).block ≠ _; rw [j9]; exact aH7) | exact aH7) (.int .i64 3)).trans aH6
          clear aH7
          replace c86 := eq_true c86
          replace c88 := eq_true c88
          go_wp2_with (first | ((with_reducible refine j6 (f := 85) rfl ?_); refine gv 88 Tryz.func85 _ (F4.calls (w := _) (h := A63.out)) ?_; rintro w' ⟨nd, rfl⟩; have dD3 : 0 ≤ (2 : Int) := (by omega); have dD4 : 2 < (t106.length : Int) := of_decide_eq_true za; obtain ⟨e02, em3, aM9⟩ := Kd.E5 (Kd.y7 L9.out).2.2 2 dD3 dD4; obtain rfl : aX6 = e02 := (by injection em3); (try simp only [show (2 : Int).toNat = 2 from rfl, Nat.reduceMul, Nat.reduceEqDiff, Go.Addr.add, ↓reduceIte] at aM9); have eC2 : (2 < t106.length) = True := eq_true (by omega); (try rw [show ((2 : Int)).toNat = 2 from rfl] at aM9); have bl4 : aX6.block ≠ K0 := Kd.G4 (Kd.U6 L9.out I6.out I1); have bl5 : aX6.block ≠ K0 := Kd.G4 (Kd.U6 L9.out I6.out I1); replace aM9 := (cell_far (p := ⟨K0, 0, none⟩) (by first | (rw [j9]; exact bl4) | (show (Addr.add _ _).block ≠ _; rw [j9]; exact bl4) | exact bl4) (.int .i64 3)).trans aM9; replace aM9 := ((show ∀ (W : World) (a : Addr), (W.drewN nd).cell? a = W.cell? a from fun _ _ => rfl) _ _).trans aM9; replace aM9 := (cell_far (p := ⟨K0, 1, none⟩) (by first | (rw [j9]; exact bl5) | (show (Addr.add _ _).block ≠ _; rw [j9]; exact bl5) | exact bl5) (.int .i64 t134)).trans aM9; clear bl4 bl5; replace dD3 := eq_true dD3; replace dD4 := eq_true dD4) | ((with_reducible refine j6 (f := 87) rfl ?_); refine gv 94 Tryz.func87 _ (D0.calls (w := _) (h := A65.out)) ?_; intro w71 hb; replace L9 := fS L9 I6 hb; replace j5 := kS j5 hb; replace I6 := kP (.cells #[.int .i64 3, .int .i64 t134, .string ⟨#[]⟩, .string ⟨#[]⟩, .int .i64 0, .string ⟨#[]⟩, .string ⟨#[]⟩, .slice none 0 0, .slice none 0 0] 37 (0, 0)) I6 hb; replace HB := bS hb; clear hb) | ((with_reducible refine l9 (N := 10) rfl ?_); (try (refine Q4 (by rfl) ?_; dsimp only)); refine bx (cs := #[.string ⟨#[]⟩, .string ⟨#[]⟩]) (t := 32) ?_; intro cr6 hg w72 o8 hb; replace L9 := rS L9 hb; have cr7 := j4.mk (o8); have eC3 := gS hg; have eC4 := gS hg; have cy3 := nS hg j5; have cy4 := nG hg j5; replace j5 := kS j5 hb; have cy5 := nS hg I6; have cy6 := nG hg I6; replace I6 := kS I6 hb; replace HB := bS hb; clear hb o8 hg; have eC5 := cy4.out; have eC6 := cy3.out; have eC7 := cy6.out; have eC8 := cy5.out; have dQ0 := cz2 cr7.out; have dQ1 := fz2 cr7.out; have eC9 := cz9 I6.out; have eD0 := fz9 I6.out; have dD5 : 0 ≤ (3 : Int) := (by omega); have dD6 : 3 < (t106.length : Int) := of_decide_eq_true za; obtain ⟨e03, em4, aC8⟩ := Kd.E5 (Kd.y7 L9.out).2.2 3 dD5 dD6; obtain rfl : aX6 = e03 := (by injection em4); (try simp only [show (3 : Int).toNat = 3 from rfl, Nat.reduceMul, Nat.reduceEqDiff, Go.Addr.add, ↓reduceIte] at aC8); have eD1 : (3 < t106.length) = True := eq_true (by omega); (try rw [show ((3 : Int)).toNat = 3 from rfl] at aC8); have bl6 : aX6.block ≠ cr6 := Kd.G4 (Kd.U6 L9.out cr7.out I1); have bl7 : aX6.block ≠ cr6 := Kd.G4 (Kd.U6 L9.out cr7.out I1); have bl8 : aX6.block ≠ K0 := Kd.G4 (Kd.U6 L9.out I6.out I1); have bl9 : aX6.block ≠ K0 := Kd.G4 (Kd.U6 L9.out I6.out I1); replace aC8 := (cell_far (p := ⟨cr6, 0, none⟩) (by first | (rw [j9]; exact bl6) | (show (Addr.add _ _).block ≠ _; rw [j9]; exact bl6) | exact bl6) (.string t136)).trans aC8; replace aC8 := (cell_far (p := ⟨cr6, 1, none⟩) (by first | (rw [j9]; exact bl7) | (show (Addr.add _ _).block ≠ _; rw [j9]; exact bl7) | exact bl7) (.string t137)).trans aC8; replace aC8 := (cell_far (p := ⟨K0, 2, none⟩) (by first | (rw [j9]; exact bl8) | (show (Addr.add _ _).block ≠ _; rw [j9]; exact bl8) | exact bl8) (.string t136)).trans aC8; replace aC8 := (cell_far (p := ⟨K0, 3, none⟩) (by first | (rw [j9]; exact bl9) | (show (Addr.add _ _).block ≠ _; rw [j9]; exact bl9) | exact bl9) (.string t137)).trans aC8; clear bl6 bl7 bl8 bl9; replace dD5 := eq_true dD5; replace dD6 := eq_true dD6) | ((with_reducible refine j6 (f := 85) rfl ?_); refine gv 102 Tryz.func85 _ (F4.calls (w := _) (h := A67.out)) ?_; rintro w' ⟨nd, rfl⟩; have dY7 := cz9 j5.out; have dY8 := fz9 j5.out))
          refine bodyPost_ret (results_cell_row rfl _ _ j8 37 #[.int .i64 3, .int .i64 t134, .string t136, .string t137, .int .i64 t141, .string (⟨#[]⟩ : ByteArray), .string (⟨#[]⟩ : ByteArray), .slice none 0 0, .slice none 0 0] (0, 0) _ rfl (kQ j5) Tryz.underlying37 rfl z2_) rfl ?_
          exact ⟨_, _, zr, zn, zn, zB⟩
         ·simp only [Option.some.injEq, Prod.mk.injEq] at H
          obtain ⟨rfl, rfl, rfl, rfl, rfl, rfl, rfl, rfl, rfl⟩ := H
          have dQ2 := aP4.out
          have dQ3 := aP3.out
          have dW5 := cz9 I6.out
          have dW6 := fz9 I6.out
          have eD2 := cz9 j5.out
          have eD3 := fz9 j5.out
          go_wp2
          refine bodyPost_ret (results_cell_row rfl _ _ j8 37 #[.int .i64 0, .int .i64 0, .string (⟨#[]⟩ : ByteArray), .string (⟨#[]⟩ : ByteArray), .int .i64 0, .string (⟨#[]⟩ : ByteArray), .string (⟨#[]⟩ : ByteArray), .slice none 0 0, .slice none 0 0] (0, 0) _ rfl (kQ j5) Tryz.underlying37 rfl z2_) rfl ?_
          exact ⟨_, _, zr, zn, zn, zB⟩
end Go.Proofs.YtbncnjgflhoneaaGreatDoor.F
