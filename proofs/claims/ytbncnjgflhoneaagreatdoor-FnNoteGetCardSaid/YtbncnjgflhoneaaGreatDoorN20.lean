/- Of this claim, merged by program: F17, Q12, F82, F83, F44, F16, QS. -/
import Derived.Test.YtbncnjgflhoneaaGreatDoorN02
import Derived.Test.YtbncnjgflhoneaaGreatDoorN13
import Derived.Test.YtbncnjgflhoneaaGreatDoorN14
import Derived.Test.YtbncnjgflhoneaaGreatDoorN18
import Derived.Test.YtbncnjgflhoneaaGreatDoorN19
set_option linter.unusedVariables false
set_option linter.unusedSimpArgs false
namespace Go.Proofs.YtbncnjgflhoneaaGreatDoor.F
open Go.RowKit Go.Proofs.YtbncnjgflhoneaaGreatDoor.Hand Go.Proofs.YtbncnjgflhoneaaGreatDoorW.l8 Go.Proofs.YtbncnjgflhoneaaGreatDoorW.s9 Go.Proofs.YtbncnjgflhoneaaGreatDoorW.y9
def a88.f (k : Nat) (a0 : ByteArray) : Option (Int × Int × ByteArray × ByteArray × Int × ByteArray × ByteArray × (List (G6)) × List ByteArray × Bool) := if (a0.size : Int) > 820 then (some (0, 0, (⟨#[]⟩ : ByteArray), (⟨#[]⟩ : ByteArray), 0, (⟨#[]⟩ : ByteArray), (⟨#[]⟩ : ByteArray), ([] : List (G6)), ([] : List ByteArray), false)) else ((D6.f k a0).bind fun D9 => ((S6.f k D9.1 D9.2.1 D9.2.2.1 D9.2.2.2.1 D9.2.2.2.2.1 D9.2.2.2.2.2.1 D9.2.2.2.2.2.2.1 D9.2.2.2.2.2.2.2.1 D9.2.2.2.2.2.2.2.2).bind fun t116 => (if t116 = true then ((E4.f k D9.1 D9.2.1 D9.2.2.1 D9.2.2.2.1 D9.2.2.2.2.1 D9.2.2.2.2.2.1 D9.2.2.2.2.2.2.1 D9.2.2.2.2.2.2.2.1 D9.2.2.2.2.2.2.2.2).bind fun t117 => (if t117.toList = a0.toList then (some (D9.1, D9.2.1, D9.2.2.1, D9.2.2.2.1, D9.2.2.2.2.1, D9.2.2.2.2.2.1, D9.2.2.2.2.2.2.1, D9.2.2.2.2.2.2.2.1, D9.2.2.2.2.2.2.2.2, true)) else (some (0, 0, (⟨#[]⟩ : ByteArray), (⟨#[]⟩ : ByteArray), 0, (⟨#[]⟩ : ByteArray), (⟨#[]⟩ : ByteArray), ([] : List (G6)), ([] : List ByteArray), false)))) else (some (0, 0, (⟨#[]⟩ : ByteArray), (⟨#[]⟩ : ByteArray), 0, (⟨#[]⟩ : ByteArray), (⟨#[]⟩ : ByteArray), ([] : List (G6)), ([] : List ByteArray), false)))))
set_option maxHeartbeats 8000000 in
set_option maxRecDepth 100000 in
theorem a88.calls (k : Nat) (a0 : ByteArray) (r1 : Int) (r2 : Int) (r3 : ByteArray) (r4 : ByteArray) (r5 : Int) (r6 : ByteArray) (r7 : ByteArray) (r8 : List (G6)) (r9 : List ByteArray) (r10 : Bool) (w : World) (h : a88.f k a0 = some (r1, r2, r3, r4, r5, r6, r7, r8, r9, r10)) :
  Calls Tryz.prog 17 #[.string a0] w fun e w' => ∃ v7_ v8_ : Value, e = .returned (.tuple #[.agg #[.int .i64 r1, .int .i64 r2, .string r3, .string r4, .int .i64 r5, .string r6, .string r7, v7_, v8_], .bool r10]) ∧ Kd.R k32 32 w' w.heap.size (fun _ => True) v7_ r8 ∧ Kd.R Kd.string 9 w' w.heap.size (fun _ => True) v8_ r9 ∧ Below w.heap.size w w' := by
 have by1 := Tryz.underlying37
 have HB := j4.mk (Below.refl w.heap.size w)
 have H := h
 clear h
 unfold a88.f at H
 replace H := a29 H; rcases H with ⟨c2, ak5, H⟩ | ⟨c2, ak5, H⟩
 ·have aJ6 : decide (820 < a0.size) = true := decide_eq_true (by omega)
  clear c2
  simp only [Option.some.injEq, Prod.mk.injEq] at H
  obtain ⟨rfl, rfl, rfl, rfl, rfl, rfl, rfl, rfl, rfl, rfl⟩ := H
  go_enter Tryz.func17, Tryz.ntmps17
  go_wp2_with (first | ((with_reducible refine l9 (N := 2) rfl ?_); refine bx (cs := #[.int .i64 0, .int .i64 0, .string ⟨#[]⟩, .string ⟨#[]⟩, .int .i64 0, .string ⟨#[]⟩, .string ⟨#[]⟩, .slice none 0 0, .slice none 0 0]) (t := 37) ?_; intro j8 hg w3 o8 hb; have j5 := j4.mk (o8); have L8 := gS hg; have J7 := gS hg; replace HB := bS hb; clear hb o8 hg; have bY8 := cz9 j5.out; have bY9 := fz9 j5.out))
  refine bodyPost_ret (I2 rfl _ _ j8 37 #[.int .i64 0, .int .i64 0, .string (⟨#[]⟩ : ByteArray), .string (⟨#[]⟩ : ByteArray), .int .i64 0, .string (⟨#[]⟩ : ByteArray), .string (⟨#[]⟩ : ByteArray), .slice none 0 0, .slice none 0 0] (0, 0) _ rfl (kQ j5) Tryz.underlying37 rfl z2_) rfl ?_
  exact ⟨_, _, zr, zn, zn, zB⟩
 ·have aJ6 : decide (820 < a0.size) = false := decide_eq_false (by omega)
  clear c2
  replace H := S2 H; obtain ⟨⟨t102, t103, t104, t105, t106, t107, t108, t109, t112⟩, A5, H⟩ := H
  dsimp only at H
  replace H := S2 H; obtain ⟨t116, A6, H⟩ := H
  replace H := itb H; rcases H with ⟨rfl, H⟩ | ⟨rfl, H⟩
  ·replace H := S2 H; obtain ⟨t117, A8, H⟩ := H
   replace H := F6 H; rcases H with ⟨aF9, bs6, H⟩ | ⟨aF9, bs6, H⟩
   ·simp only [Option.some.injEq, Prod.mk.injEq] at H
    obtain ⟨rfl, rfl, rfl, rfl, rfl, rfl, rfl, rfl, rfl, rfl⟩ := H
    go_enter Tryz.func17, Tryz.ntmps17
    go_wp2_with (first | ((with_reducible refine l9 (N := 2) rfl ?_); refine bx (cs := #[.int .i64 0, .int .i64 0, .string ⟨#[]⟩, .string ⟨#[]⟩, .int .i64 0, .string ⟨#[]⟩, .string ⟨#[]⟩, .slice none 0 0, .slice none 0 0]) (t := 37) ?_; intro j8 hg w10 o8 hb; have j5 := j4.mk (o8); have L8 := gS hg; have J7 := gS hg; replace HB := bS hb; clear hb o8 hg) | ((with_reducible refine j6 (f := 45) rfl ?_); refine gl 10 Tryz.func45 _ ((D6.calls (w := _) (h := A5.out)).mono ?_); rintro e w11 ⟨bb7, cu2, rfl, ho0, ho1, hb⟩; refine ⟨_, rfl, ?_⟩; have O9 := lS ho0; have R2 := lS ho1; replace j5 := kS j5 hb; replace HB := bS hb; clear hb ho0; (try clear ho1)) | ((with_reducible refine l9 (N := 4) rfl ?_); refine bx (cs := #[.int .i64 0, .int .i64 0, .string ⟨#[]⟩, .string ⟨#[]⟩, .int .i64 0, .string ⟨#[]⟩, .string ⟨#[]⟩, .slice none 0 0, .slice none 0 0]) (t := 37) ?_; intro aE2 hg w12 o8 hb; replace O9 := rS O9 hb; replace R2 := rS R2 hb; have Y8 := j4.mk (o8); have cr1 := gS hg; have cr2 := gS hg; have ar0 := nS hg j5; have ar1 := nG hg j5; replace j5 := kS j5 hb; replace HB := bS hb; clear hb o8 hg; have dX5 := ar1.out; have dX6 := ar0.out; have bD0 := cz9 Y8.out; have bD1 := fz9 Y8.out; obtain ⟨ao4, am3, c03⟩ := Kd.s7 O9.out; subst c03; obtain ⟨da1, da2, dC0⟩ := Kd.s7 R2.out; subst dC0) | ((with_reducible refine j6 (f := 23) rfl ?_); refine gv 12 Tryz.func23 #[.agg #[.int .i64 t102, .int .i64 t103, .string t104, .string t105, .int .i64 t106, .string t107, .string t108, .slice ao4 t109.length am3, .slice da1 t112.length da2]] (S6.calls (w := _) (a17 := by refine (Kd.y7 (e := 32) (base := w.heap.size) (ok := fun k_ => True) (n := t109.length) (c := am3) ?_).2.2; exact (fO O9 Y8)) (a18 := cL O9) (a19 := (Kd.y7 (fO R2 Y8)).2.2) (a22 := cL R2) (h := A6.out)) ?_; intro w17 hb; replace O9 := fS O9 Y8 hb; replace R2 := fS R2 Y8 hb; replace j5 := kS j5 hb; replace Y8 := kP (.cells #[.int .i64 t102, .int .i64 t103, .string t104, .string t105, .int .i64 t106, .string t107, .string t108, .slice ao4 t109.length am3, .slice da1 t112.length da2] 37 (0, 0)) Y8 hb; replace HB := bS hb; clear hb; have cO8 := cz9 Y8.out; have cO9 := fz9 Y8.out) | (go_at_call 24; refine (E4.calls (w := _) (a17 := rC O9) (a18 := cL O9) (a19 := rC R2) (a22 := cL R2) (h := A8.out)).mono ?_; rintro e w19 ⟨rfl, hb⟩; replace O9 := rS O9 hb; replace R2 := rS R2 hb; replace j5 := kS j5 hb; replace Y8 := kS Y8 hb; replace HB := bS hb; clear hb; have cI6 := cz9 Y8.out; have cI7 := fz9 Y8.out; have dk7 := cz9 j5.out; have dk8 := fz9 j5.out))
    refine bodyPost_ret (I2 rfl _ _ j8 37 #[.int .i64 t102, .int .i64 t103, .string t104, .string t105, .int .i64 t106, .string t107, .string t108, .slice ao4 t109.length am3, .slice da1 t112.length da2] (0, 0) _ rfl (kQ j5) Tryz.underlying37 rfl z2_) rfl ?_
    exact ⟨_, _, zr, fM O9 j5 (fun _ hk => trivial), fM R2 j5 (fun _ hk => trivial), zB⟩
   ·simp only [Option.some.injEq, Prod.mk.injEq] at H
    obtain ⟨rfl, rfl, rfl, rfl, rfl, rfl, rfl, rfl, rfl, rfl⟩ := H
    go_enter Tryz.func17, Tryz.ntmps17
    go_wp2_with (first | ((with_reducible refine l9 (N := 2) rfl ?_); refine bx (cs := #[.int .i64 0, .int .i64 0, .string ⟨#[]⟩, .string ⟨#[]⟩, .int .i64 0, .string ⟨#[]⟩, .string ⟨#[]⟩, .slice none 0 0, .slice none 0 0]) (t := 37) ?_; intro j8 hg w22 o8 hb; have j5 := j4.mk (o8); have L8 := gS hg; have J7 := gS hg; replace HB := bS hb; clear hb o8 hg) | ((with_reducible refine j6 (f := 45) rfl ?_); refine gl 10 Tryz.func45 _ ((D6.calls (w := _) (h := A5.out)).mono ?_); rintro e w23 ⟨bb7, cu2, rfl, ho0, ho1, hb⟩; refine ⟨_, rfl, ?_⟩; have O9 := lS ho0; have R2 := lS ho1; replace j5 := kS j5 hb; replace HB := bS hb; clear hb ho0; (try clear ho1)) | ((with_reducible refine l9 (N := 4) rfl ?_); refine bx (cs := #[.int .i64 0, .int .i64 0, .string ⟨#[]⟩, .string ⟨#[]⟩, .int .i64 0, .string ⟨#[]⟩, .string ⟨#[]⟩, .slice none 0 0, .slice none 0 0]) (t := 37) ?_; intro aE2 hg w24 o8 hb; replace O9 := rS O9 hb; replace R2 := rS R2 hb; have Y8 := j4.mk (o8); have cr1 := gS hg; have cr2 := gS hg; have ar0 := nS hg j5; have ar1 := nG hg j5; replace j5 := kS j5 hb; replace HB := bS hb; clear hb o8 hg; have cG2 := ar1.out; have cG3 := ar0.out; have bR4 := cz9 Y8.out; have bR5 := fz9 Y8.out; obtain ⟨e04, dD7, em5⟩ := Kd.s7 O9.out; subst em5; obtain ⟨c63, bV2, cQ0⟩ := Kd.s7 R2.out; subst cQ0) | ((with_reducible refine j6 (f := 23) rfl ?_); refine gv 12 Tryz.func23 #[.agg #[.int .i64 t102, .int .i64 t103, .string t104, .string t105, .int .i64 t106, .string t107, .string t108, .slice e04 t109.length dD7, .slice c63 t112.length bV2]] (S6.calls (w := _) (a17 := by refine (Kd.y7 (e := 32) (base := w.heap.size) (ok := fun k_ => True) (n := t109.length) (c := dD7) ?_).2.2; exact (fO O9 Y8)) (a18 := cL O9) (a19 := (Kd.y7 (fO R2 Y8)).2.2) (a22 := cL R2) (h := A6.out)) ?_; intro w29 hb; replace O9 := fS O9 Y8 hb; replace R2 := fS R2 Y8 hb; replace j5 := kS j5 hb; replace Y8 := kP (.cells #[.int .i64 t102, .int .i64 t103, .string t104, .string t105, .int .i64 t106, .string t107, .string t108, .slice e04 t109.length dD7, .slice c63 t112.length bV2] 37 (0, 0)) Y8 hb; replace HB := bS hb; clear hb; have cq0 := cz9 Y8.out; have cq1 := fz9 Y8.out) | (go_at_call 24; refine (E4.calls (w := _) (a17 := rC O9) (a18 := cL O9) (a19 := rC R2) (a22 := cL R2) (h := A8.out)).mono ?_; rintro e w31 ⟨rfl, hb⟩; replace O9 := rS O9 hb; replace R2 := rS R2 hb; replace j5 := kS j5 hb; replace Y8 := kS Y8 hb; replace HB := bS hb; clear hb; have bD2 := cz9 j5.out; have bD3 := fz9 j5.out))
    refine bodyPost_ret (I2 rfl _ _ j8 37 #[.int .i64 0, .int .i64 0, .string (⟨#[]⟩ : ByteArray), .string (⟨#[]⟩ : ByteArray), .int .i64 0, .string (⟨#[]⟩ : ByteArray), .string (⟨#[]⟩ : ByteArray), .slice none 0 0, .slice none 0 0] (0, 0) _ rfl (kQ j5) Tryz.underlying37 rfl z2_) rfl ?_
    exact ⟨_, _, zr, zn, zn, zB⟩
  ·simp only [Option.some.injEq, Prod.mk.injEq] at H
   obtain ⟨rfl, rfl, rfl, rfl, rfl, rfl, rfl, rfl, rfl, rfl⟩ := H
   go_enter Tryz.func17, Tryz.ntmps17
   go_wp2_with (first | ((with_reducible refine l9 (N := 2) rfl ?_); refine bx (cs := #[.int .i64 0, .int .i64 0, .string ⟨#[]⟩, .string ⟨#[]⟩, .int .i64 0, .string ⟨#[]⟩, .string ⟨#[]⟩, .slice none 0 0, .slice none 0 0]) (t := 37) ?_; intro j8 hg w33 o8 hb; have j5 := j4.mk (o8); have L8 := gS hg; have J7 := gS hg; replace HB := bS hb; clear hb o8 hg) | ((with_reducible refine j6 (f := 45) rfl ?_); refine gl 10 Tryz.func45 _ ((D6.calls (w := _) (h := A5.out)).mono ?_); rintro e w34 ⟨bb7, cu2, rfl, ho0, ho1, hb⟩; refine ⟨_, rfl, ?_⟩; have O9 := lS ho0; have R2 := lS ho1; replace j5 := kS j5 hb; replace HB := bS hb; clear hb ho0; (try clear ho1)) | ((with_reducible refine l9 (N := 4) rfl ?_); refine bx (cs := #[.int .i64 0, .int .i64 0, .string ⟨#[]⟩, .string ⟨#[]⟩, .int .i64 0, .string ⟨#[]⟩, .string ⟨#[]⟩, .slice none 0 0, .slice none 0 0]) (t := 37) ?_; intro aE2 hg w35 o8 hb; replace O9 := rS O9 hb; replace R2 := rS R2 hb; have Y8 := j4.mk (o8); have cr1 := gS hg; have cr2 := gS hg; have ar0 := nS hg j5; have ar1 := nG hg j5; replace j5 := kS j5 hb; replace HB := bS hb; clear hb o8 hg; have cE4 := ar1.out; have cE5 := ar0.out; have bB9 := cz9 Y8.out; have bC0 := fz9 Y8.out; obtain ⟨dB3, da0, dB4⟩ := Kd.s7 O9.out; subst dB4; obtain ⟨dC5, cX5, cu9⟩ := Kd.s7 R2.out; subst cu9) | ((with_reducible refine j6 (f := 23) rfl ?_); refine gv 12 Tryz.func23 #[.agg #[.int .i64 t102, .int .i64 t103, .string t104, .string t105, .int .i64 t106, .string t107, .string t108, .slice dB3 t109.length da0, .slice dC5 t112.length cX5]] (S6.calls (w := _) (a17 := by refine (Kd.y7 (e := 32) (base := w.heap.size) (ok := fun k_ => True) (n := t109.length) (c := da0) ?_).2.2; exact (fO O9 Y8)) (a18 := cL O9) (a19 := (Kd.y7 (fO R2 Y8)).2.2) (a22 := cL R2) (h := A6.out)) ?_; intro w40 hb; replace O9 := fS O9 Y8 hb; replace R2 := fS R2 Y8 hb; replace j5 := kS j5 hb; replace Y8 := kP (.cells #[.int .i64 t102, .int .i64 t103, .string t104, .string t105, .int .i64 t106, .string t107, .string t108, .slice dB3 t109.length da0, .slice dC5 t112.length cX5] 37 (0, 0)) Y8 hb; replace HB := bS hb; clear hb; have cq6 := cz9 j5.out; have cq7 := fz9 j5.out))
   refine bodyPost_ret (I2 rfl _ _ j8 37 #[.int .i64 0, .int .i64 0, .string (⟨#[]⟩ : ByteArray), .string (⟨#[]⟩ : ByteArray), .int .i64 0, .string (⟨#[]⟩ : ByteArray), .string (⟨#[]⟩ : ByteArray), .slice none 0 0, .slice none 0 0] (0, 0) _ rfl (kQ j5) Tryz.underlying37 rfl z2_) rfl ?_
   exact ⟨_, _, zr, zn, zn, zB⟩
end Go.Proofs.YtbncnjgflhoneaaGreatDoor.F
namespace Go.Proofs.YtbncnjgflhoneaaGreatDoor.Hand
open Go.RowKit Go.Proofs.YtbncnjgflhoneaaGreatDoor.F Go.Proofs.YtbncnjgflhoneaaGreatDoorW.l8 Go.Proofs.YtbncnjgflhoneaaGreatDoorW.s9 Go.Proofs.YtbncnjgflhoneaaGreatDoorW.y9
abbrev aK4 : Type := Int × Int × ByteArray × ByteArray × Int × ByteArray × ByteArray × List G6 × List ByteArray
abbrev bW3 : Type := Int × Int × ByteArray × ByteArray × Int × ByteArray × ByteArray × List G6 × List ByteArray × Bool
def az0 : bW3 := (0, 0, B [], B [], 0, B [], B [], [], [], false)
def bE8 : aK4 := (0, 0, B [], B [], 0, B [], B [], [], [])
def okC (l : List UInt8) (kind id : Int) (au ad : ByteArray) (now : Int) (u d : ByteArray) (ts : List G6) (body : List ByteArray) : Bool := ap4 kind id au ad now u d ts body && decide (aj8 kind id au ad now u d ts body = l)
def by9 (l : List UInt8) (kind id : Int) (au ad : ByteArray) (now : Int) (u d : ByteArray) (ts : List G6) (body : List ByteArray) : bW3 := if okC l kind id au ad now u d ts body = true then (kind, id, au, ad, now, u, d, ts, body, true) else az0
def bv2 (au ad u d : ByteArray) (ts : List G6) (body : List ByteArray) : Prop := av3 u d ts body ∧ au.size ≤ 1073741824 ∧ ad.size ≤ 1073741824
def okN (l : List UInt8) (n : aK4) : Bool := okC l n.1 n.2.1 n.2.2.1 n.2.2.2.1 n.2.2.2.2.1 n.2.2.2.2.2.1 n.2.2.2.2.2.2.1 n.2.2.2.2.2.2.2.1 n.2.2.2.2.2.2.2.2
def c98 (l : List UInt8) (n : aK4) : bW3 := by9 l n.1 n.2.1 n.2.2.1 n.2.2.2.1 n.2.2.2.2.1 n.2.2.2.2.2.1 n.2.2.2.2.2.2.1 n.2.2.2.2.2.2.2.1 n.2.2.2.2.2.2.2.2
def bd4 (n : aK4) : Prop := bv2 n.2.2.1 n.2.2.2.1 n.2.2.2.2.2.1 n.2.2.2.2.2.2.1 n.2.2.2.2.2.2.2.1 n.2.2.2.2.2.2.2.2
theorem Ev.one {α : Type} {g : Nat → Option α} {a b : α} (h : Ev g a) (k : Ev g b) : a = b := by
 obtain ⟨K, h⟩ := h
 obtain ⟨K', k⟩ := k
 exact Option.some.inj ((h (max K K') (by omega)).symm.trans (k (max K K') (by omega)))
theorem au6 {u d : ByteArray} {ts : List G6} {body : List ByteArray} (h : aD7 u d ts body = true) : u = B [] ∧ d = B [] ∧ ts = [] ∧ body = [] := by
 unfold aD7 at h
 rw [Bool.and_eq_true, Bool.and_eq_true] at h
 obtain ⟨h1, h2, h3⟩ := h
 obtain ⟨hu, hd⟩ := ap6 h1
 exact ⟨hu, hd, List.eq_nil_of_length_eq_zero (of_decide_eq_true h2), List.eq_nil_of_length_eq_zero (of_decide_eq_true h3)⟩
theorem al4 : av3 (B []) (B []) [] [] := ⟨by decide, by decide, fun x h => absurd h (by simp), fun x h => absurd h (by simp), by simp, by simp⟩
theorem aI4 (s : ByteArray) (kind id : Int) (au ad : ByteArray) (now : Int) (u d : ByteArray) (ts : List G6) (body : List ByteArray) (h : bv2 au ad u d ts body) :
  Ev (fun k => C3.j1 k s kind id au ad now u d ts body) (by9 s.data.toList kind id au ad now u d ts body) := by
 obtain ⟨hs, hau, had⟩ := h
 have hn := aW7 kind id au ad now u d ts body hs had
 have hp := aX0 kind id au ad now u d ts body hs hau had
 unfold by9 okC
 refine Ev.step (f := fun k => (K8.f k kind id au ad now u d ts body).bind fun t136 => (if t136 = true then ((M6.f k kind id au ad now u d ts body).bind fun t137 => (if t137.toList = s.toList then (some (kind, id, au, ad, now, u, d, ts, body, true)) else (some az0))) else (some az0))) (fun k => by rw [C3.j1]; rfl) ?_
 cases hb : ap4 kind id au ad now u d ts body
 ·rw [hb] at hn
  exact Ev.call hn (h := fun _ => some az0) (fun k => if_neg (by decide)) (Ev.now _)
 ·rw [hb] at hn
  unfold bK3 at hp
  rw [if_pos hb] at hp
  refine Ev.call hn (fun k => if_pos rfl) (Ev.call hp (h := fun _ => some (if (true && decide (aj8 kind id au ad now u d ts body = s.data.toList)) = true then (kind, id, au, ad, now, u, d, ts, body, true) else az0)) (fun k => ?_) (Ev.now _))
  rw [ab7, toL, Bool.true_and]
  by_cases hq : aj8 kind id au ad now u d ts body = s.data.toList
  ·rw [if_pos hq, if_pos (decide_eq_true hq)]
  ·rw [if_neg hq, if_neg (by simpa using hq)]
theorem c99 (s : ByteArray) (hs : s.size ≤ 1073741824) (c : UInt8) : strings_Split.f s (⟨#[c]⟩ : ByteArray) = some ((cutAt c s.data.toList).map B) := by
 unfold strings_Split.f
 rw [if_pos ⟨by omega, Nat.le_refl 1⟩]
 exact congrArg some (dn7 _ _ (bc2 c s.size s (Nat.le_refl _)))
theorem bv3 (c : UInt8) : ∀ l : List UInt8, ∀ x ∈ cutAt c l, x.length ≤ l.length
 | [], x, hx => by
  rw [cutAt, List.mem_singleton] at hx
  subst hx
  exact Nat.le_refl _
 | a :: l, x, hx => by
  rw [cutAt] at hx
  by_cases e : a = c
  ·rw [if_pos e] at hx
   rcases List.mem_cons.1 hx with rfl | hx
   ·exact Nat.zero_le _
   ·have := bv3 c l x hx
    rw [List.length_cons]
    omega
  ·rw [if_neg e] at hx
   have := bU7 [a] _ _ (bv3 c l) x hx
   simpa using this
def aC4 (l : List UInt8) : List (List UInt8) := cutAt 32 (Lib.cut l [32]).2.1
def b28 (w : List (List UInt8)) : ByteArray × ByteArray × Bool := if 1 < w.length then an4 (w.getD 1 []) else (B [], B [], false)
def b29 (l : List UInt8) : aK4 :=
 if (Lib.cut l [32]).1 = [97, 100, 100] then (1, 0, B [], B [], (ay6 (Lib.cut (Lib.cut l [32]).2.1 [10]).1).1, (aM2 (Lib.cut (Lib.cut l [32]).2.1 [10]).2.1).1, (aM2 (Lib.cut (Lib.cut l [32]).2.1 [10]).2.1).2.1, (aM2 (Lib.cut (Lib.cut l [32]).2.1 [10]).2.1).2.2.1, (aM2 (Lib.cut (Lib.cut l [32]).2.1 [10]).2.1).2.2.2.1)
 else if (Lib.cut l [32]).1 = [100, 111, 110, 101] then (2, (ay6 ((aC4 l).getD 0 [])).1, (b28 (aC4 l)).1, (b28 (aC4 l)).2.1, 0, B [], B [], [], [])
 else if (Lib.cut l [32]).1 = [108, 97, 116, 101, 114] then (3, (ay6 ((aC4 l).getD 0 [])).1, (b28 (aC4 l)).1, (b28 (aC4 l)).2.1, (ay6 ((aC4 l).getD ((aC4 l).length - 1) [])).1, B [], B [], [], [])
 else bE8
theorem b52 (l : List UInt8) (h : l.length ≤ 1073741824) : O8.f (B l) = some (ay6 l) := by
 unfold O8.f
 rw [if_pos (by rw [D8]; omega), M5]
theorem bL8 (w : List (List UInt8)) (i : Nat) (h : i < w.length) : H9 ByteArray.empty (w.map B) (i : Int) = B (w.getD i []) := by
 rw [aI3 _ _ i (by rw [List.length_map]; exact h), List.getElem_map, List.getD_eq_getElem?_getD, List.getElem?_eq_getElem h]
 rfl
theorem cr8 (w : List (List UInt8)) (n : Nat) (h : ∀ x ∈ w, x.length ≤ n) (i : Nat) : (w.getD i []).length ≤ n := by
 rw [List.getD_eq_getElem?_getD]
 cases hq : w[i]? with
 | none => exact Nat.zero_le _
 | some x => exact h x (List.mem_of_getElem? hq)
theorem bW4 (c : UInt8) (l : List UInt8) : (cutAt c l).length ≤ l.length + 1 := by
 rw [bd3 c l]
 generalize cutAt c l = w
 induction w with
 | nil => exact Nat.le_refl _
 | cons x w ih => rw [List.map_cons, List.sum_cons, List.length_cons]; omega
theorem bW5 (w : List (List UInt8)) (h : ∀ x ∈ w, x.length ≤ 820) : (b28 w).1.size ≤ 1073741824 ∧ (b28 w).2.1.size ≤ 1073741824 := by
 unfold b28
 split
 ·have h1 := bt6 (w.getD 1 [])
  have h2 := cr8 w 820 h 1
  exact ⟨by omega, by omega⟩
 ·exact ⟨by decide, by decide⟩
theorem bE9 (s : ByteArray) (word rest : List UInt8) (hr : rest.length ≤ 820) (late : Bool) (hw : late = true ↔ word = [108, 97, 116, 101, 114]) :
  Ev (fun k => C3.j0 k s (B word) (B rest) true 0 0 (B []) (B []) 0 (B []) (B [])) (by9 s.data.toList (if late = true then 3 else 2) (ay6 ((cutAt 32 rest).getD 0 [])).1 (b28 (cutAt 32 rest)).1 (b28 (cutAt 32 rest)).2.1 (if late = true then (ay6 ((cutAt 32 rest).getD ((cutAt 32 rest).length - 1) [])).1 else 0) (B []) (B []) [] []) := by
 have hne := List.length_pos_iff.2 (aO3 32 rest)
 have hle := bv3 32 rest
 have hlen := bW4 32 rest
 have hsm := bW5 (cutAt 32 rest) (fun x hx => by have := hle x hx; omega)
 have base : ∀ k, C3.j0 (k + 1) s (B word) (B rest) true 0 0 (B []) (B []) 0 (B []) (B []) = ((some ((cutAt 32 rest).map B) : Option (List ByteArray))).bind fun t120 => (if 0 < (t120.length : Int) then ((O8.f (H9 ByteArray.empty t120 0)).bind fun aU1 => (if (t120.length : Int) > 1 then (if 1 < (t120.length : Int) then ((S8.f k (H9 ByteArray.empty t120 1)).bind fun ar3 => (if (B word).toList = ([108, 97, 116, 101, 114] : List UInt8) then (if 0 ≤ (wrap64 ((t120.length : Int) - 1)) then (if (wrap64 ((t120.length : Int) - 1)) < (t120.length : Int) then ((O8.f (H9 ByteArray.empty t120 (wrap64 ((t120.length : Int) - 1)))).bind fun cR4 => (C3.j1 k s 3 aU1.1 ar3.1 ar3.2.1 cR4.1 (B []) (B []) ([] : List (G6)) ([] : List ByteArray))) else (none)) else (none)) else (C3.j1 k s 2 aU1.1 ar3.1 ar3.2.1 0 (B []) (B []) ([] : List (G6)) ([] : List ByteArray)))) else (none)) else (if (B word).toList = ([108, 97, 116, 101, 114] : List UInt8) then (if 0 ≤ (wrap64 ((t120.length : Int) - 1)) then (if (wrap64 ((t120.length : Int) - 1)) < (t120.length : Int) then ((O8.f (H9 ByteArray.empty t120 (wrap64 ((t120.length : Int) - 1)))).bind fun bC4 => (C3.j1 k s 3 aU1.1 (B []) (B []) bC4.1 (B []) (B []) ([] : List (G6)) ([] : List ByteArray))) else (none)) else (none)) else (C3.j1 k s 2 aU1.1 (B []) (B []) 0 (B []) (B []) ([] : List (G6)) ([] : List ByteArray))))) else (none)) := fun k => by
  rw [C3.j0, if_pos rfl, c99 (B rest) (by rw [D8]; omega), M5]
 revert base hsm hlen hle hne
 generalize cutAt 32 rest = w
 intro hne hle hlen hsm base
 have hd : ∀ i, (w.getD i []).length ≤ 820 := fun i => cr8 w _ (fun x hx => by have := hle x hx; omega) i
 have hml : (w.map B).length = w.length := List.length_map ..
 have hr0 : H9 ByteArray.empty (w.map B) 0 = B (w.getD 0 []) := bL8 w 0 hne
 have hrl : H9 ByteArray.empty (w.map B) (((w.map B).length : Int) - 1) = B (w.getD (w.length - 1) []) := by
  rw [show ((w.map B).length : Int) - 1 = ((w.length - 1 : Nat) : Int) by omega]
  exact bL8 w _ (by omega)
 have hwr : wrap64 (((w.map B).length : Int) - 1) = ((w.map B).length : Int) - 1 := Y5 (by omega) (by omega)
 have d0 := b52 (w.getD 0 []) (by have := hd 0; omega)
 have dl := b52 (w.getD (w.length - 1) []) (by have := hd (w.length - 1); omega)
 unfold b28 at hsm ⊢
 by_cases h1 : 1 < w.length
 ·have hr1 : H9 ByteArray.empty (w.map B) 1 = B (w.getD 1 []) := bL8 w 1 h1
  have ha := bf9 (B (w.getD 1 [])) (by rw [D8]; have := hd 1; omega)
  rw [M5] at ha
  rw [if_pos h1] at hsm ⊢
  cases hl : late
  ·have hl' : ¬ word = [108, 97, 116, 101, 114] := fun e => by have := hw.2 e; rw [hl] at this; cases this
   refine Ev.step (f := fun k => (S8.f k (B (w.getD 1 []))).bind fun ar3 => (C3.j1 k s 2 (ay6 (w.getD 0 [])).1 ar3.1 ar3.2.1 0 (B []) (B []) [] [])) (fun k => ?_) (Ev.bind ha (aI4 s 2 _ _ _ 0 (B []) (B []) [] [] ⟨al4, hsm⟩))
   rw [base, Option.bind_some, if_pos (by omega), hr0, d0, Option.bind_some, if_pos (by omega), if_pos (by omega), hr1, ab7]
   refine congrArg _ (funext fun x => ?_)
   exact if_neg hl'
  ·have hl' : word = [108, 97, 116, 101, 114] := hw.1 hl
   refine Ev.step (f := fun k => (S8.f k (B (w.getD 1 []))).bind fun ar3 => (C3.j1 k s 3 (ay6 (w.getD 0 [])).1 ar3.1 ar3.2.1 (ay6 (w.getD (w.length - 1) [])).1 (B []) (B []) [] [])) (fun k => ?_) (Ev.bind ha (aI4 s 3 _ _ _ _ (B []) (B []) [] [] ⟨al4, hsm⟩))
   rw [base, Option.bind_some, if_pos (by omega), hr0, d0, Option.bind_some, if_pos (by omega), if_pos (by omega), hr1, ab7]
   refine congrArg _ (funext fun x => ?_)
   rw [if_pos hl', hwr, if_pos (by omega), if_pos (by omega), hrl, dl, Option.bind_some]
 ·rw [if_neg h1] at hsm ⊢
  cases hl : late
  ·have hl' : ¬ word = [108, 97, 116, 101, 114] := fun e => by have := hw.2 e; rw [hl] at this; cases this
   refine Ev.step (f := fun k => C3.j1 k s 2 (ay6 (w.getD 0 [])).1 (B []) (B []) 0 (B []) (B []) [] []) (fun k => ?_) (aI4 s 2 _ _ _ 0 (B []) (B []) [] [] ⟨al4, hsm⟩)
   rw [base, Option.bind_some, if_pos (by omega), hr0, d0, Option.bind_some, if_neg (by omega), ab7, if_neg hl']
  ·have hl' : word = [108, 97, 116, 101, 114] := hw.1 hl
   refine Ev.step (f := fun k => C3.j1 k s 3 (ay6 (w.getD 0 [])).1 (B []) (B []) (ay6 (w.getD (w.length - 1) [])).1 (B []) (B []) [] []) (fun k => ?_) (aI4 s 3 _ _ _ _ (B []) (B []) [] [] ⟨al4, hsm⟩)
   rw [base, Option.bind_some, if_pos (by omega), hr0, d0, Option.bind_some, if_neg (by omega), ab7, if_pos hl', hwr, if_pos (by omega), if_pos (by omega), hrl, dl, Option.bind_some]
theorem bg4 (s : ByteArray) : Ev (fun k => C3.f k s) (if s.data.toList.length > 820 then az0 else c98 s.data.toList (b29 s.data.toList)) := by
 have hl := E3 s
 by_cases h8 : s.size > 820
 ·rw [if_pos (by omega)]
  refine Ev.congr (f := fun _ => some az0) (fun k => ?_) (Ev.now _)
  unfold C3.f
  rw [if_pos (by omega)]
  rfl
 rw [if_neg (by omega)]
 have hc := aS8 [32] s.data.toList
 have step : ∀ k, C3.f k s = (strings_Cut.f s (⟨#[32]⟩ : ByteArray)).bind fun aa9 => (if aa9.1.toList = ([97, 100, 100] : List UInt8) then ((strings_Cut.f aa9.2.1 (⟨#[10]⟩ : ByteArray)).bind fun be8 => ((O8.f be8.1).bind fun ay4 => ((L5.f k be8.2.1).bind fun aD6 => (C3.j1 k s 1 0 (⟨#[]⟩ : ByteArray) (⟨#[]⟩ : ByteArray) ay4.1 aD6.1 aD6.2.1 aD6.2.2.1 aD6.2.2.2.1)))) else (if aa9.1.toList = ([100, 111, 110, 101] : List UInt8) then (C3.j0 k s aa9.1 aa9.2.1 (aa9.1.toList == ([100, 111, 110, 101] : List UInt8)) 0 0 (⟨#[]⟩ : ByteArray) (⟨#[]⟩ : ByteArray) 0 (⟨#[]⟩ : ByteArray) (⟨#[]⟩ : ByteArray)) else (C3.j0 k s aa9.1 aa9.2.1 (aa9.1.toList == ([108, 97, 116, 101, 114] : List UInt8)) 0 0 (⟨#[]⟩ : ByteArray) (⟨#[]⟩ : ByteArray) 0 (⟨#[]⟩ : ByteArray) (⟨#[]⟩ : ByteArray)))) := fun k => by
  unfold C3.f
  rw [if_neg (by omega)]
 have e : strings_Cut.f s (⟨#[32]⟩ : ByteArray) = some (B (Lib.cut s.data.toList [32]).1, B (Lib.cut s.data.toList [32]).2.1, (Lib.cut s.data.toList [32]).2.2) := ap5 s _ (by omega)
 refine Ev.congr (fun k => (step k).trans (by rw [e, Option.bind_some, ab7])) ?_
 unfold b29 aC4
 generalize Lib.cut s.data.toList [32] = c at *
 obtain ⟨word, rest, fl⟩ := c
 have hc1 : rest.length ≤ 820 := by
  have h2 : rest.length ≤ s.data.toList.length := hc.2
  omega
 have hc2 := aS8 [10] rest
 show Ev (fun k => if word = [97, 100, 100] then ((strings_Cut.f (B rest) (⟨#[10]⟩ : ByteArray)).bind _) else _) (c98 s.data.toList (if word = [97, 100, 100] then _ else if word = [100, 111, 110, 101] then _ else if word = [108, 97, 116, 101, 114] then _ else bE8))
 by_cases hA : word = [97, 100, 100]
 ·rw [if_pos hA]
  have e2 : strings_Cut.f (B rest) (⟨#[10]⟩ : ByteArray) = some (B (Lib.cut rest [10]).1, B (Lib.cut rest [10]).2.1, (Lib.cut rest [10]).2.2) := by
   have := ap5 (B rest) (⟨#[10]⟩ : ByteArray) (by rw [D8]; omega)
   rw [M5] at this
   exact this
  have e3 := b52 (Lib.cut rest [10]).1 (by omega)
  have hm := bu5 (B (Lib.cut rest [10]).2.1)
  rw [M5] at hm
  refine Ev.congr (f := fun k => (L5.f k (B (Lib.cut rest [10]).2.1)).bind fun aD6 => (C3.j1 k s 1 0 (B []) (B []) (ay6 (Lib.cut rest [10]).1).1 aD6.1 aD6.2.1 aD6.2.2.1 aD6.2.2.2.1)) (fun k => ?_) (Ev.bind hm (aI4 s 1 0 (B []) (B []) _ _ _ _ _ ⟨bV4 _, by decide, by decide⟩))
  refine (if_pos hA).trans ?_
  rw [e2, Option.bind_some]
  show (O8.f (B (Lib.cut rest [10]).1)).bind _ = _
  rw [e3, Option.bind_some]
  rfl
 rw [if_neg hA]
 by_cases hD : word = [100, 111, 110, 101]
 ·rw [if_pos hD]
  have h := bE9 s word rest hc1 false (by rw [hD]; decide)
  refine Ev.congr (fun k => ?_) h
  refine (if_neg hA).trans ((if_pos hD).trans ?_)
  show C3.j0 k s (B word) (B rest) (word == _) 0 0 _ _ 0 _ _ = _
  rw [show (word == ([100, 111, 110, 101] : List UInt8)) = true from beq_iff_eq.2 hD]
  rfl
 rw [if_neg hD]
 by_cases hL : word = [108, 97, 116, 101, 114]
 ·rw [if_pos hL]
  have h := bE9 s word rest hc1 true (by rw [hL]; decide)
  refine Ev.congr (fun k => ?_) h
  refine (if_neg hA).trans ((if_neg hD).trans ?_)
  show C3.j0 k s (B word) (B rest) (word == _) 0 0 _ _ 0 _ _ = _
  rw [show (word == ([108, 97, 116, 101, 114] : List UInt8)) = true from beq_iff_eq.2 hL]
  rfl
 ·rw [if_neg hL]
  have h := aI4 s 0 0 (B []) (B []) 0 (B []) (B []) [] [] ⟨al4, by decide, by decide⟩
  refine Ev.congr (fun k => ?_) (Ev.step (g := fun k => C3.j0 k s (B word) (B rest) false 0 0 (B []) (B []) 0 (B []) (B [])) (fun k => by rw [C3.j0, if_neg (by decide)]) h)
  refine (if_neg hA).trans ((if_neg hD).trans ?_)
  show C3.j0 k s (B word) (B rest) (word == _) 0 0 _ _ 0 _ _ = _
  rw [show (word == ([108, 97, 116, 101, 114] : List UInt8)) = false from beq_eq_false_iff_ne.2 hL]
  rfl
theorem al8 {l : List UInt8} {c : UInt8} (h : ∀ x ∈ l, 48 ≤ x.toNat ∧ x.toNat ≤ 57) (hc : c.toNat < 48) : c ∉ l := fun hx => by have := h c hx; omega
theorem aP5 {u d : ByteArray} (h : U9 u d = true) {c : UInt8} (hc : bK6 c = false) : c ∉ J3 u d := fun hx => by
 have := b49 (u := u) (d := d) (by rw [h, Bool.or_true]) c hx
 rw [hc] at this
 cases this
theorem ca0 {kind id : Int} {au ad : ByteArray} {now : Int} {u d : ByteArray} {ts : List G6} {body : List ByteArray} (h : ap4 kind id au ad now u d ts body = true) : b29 (aj8 kind id au ad now u d ts body) = (kind, id, au, ad, now, u, d, ts, body) := by
 rcases au5 h with ⟨rfl, hm, n0, n9, rfl, hn⟩ | ⟨rfl, hb, i1, i9, ha, rfl⟩ | ⟨rfl, hb, i1, i9, ha, n0, n9⟩
 ·obtain ⟨rfl, rfl⟩ := ap6 hn
  have e : aj8 1 0 (B []) (B []) now u d ts body = [97, 100, 100] ++ 32 :: (Lib.itoa now ++ 10 :: aa1 u d ts body) := rfl
  have c1 : Lib.cut (aj8 1 0 (B []) (B []) now u d ts body) [32] = ([97, 100, 100], Lib.itoa now ++ 10 :: aa1 u d ts body, true) := by rw [e]; exact aL9 32 _ _ (by decide)
  have c2 : Lib.cut (Lib.itoa now ++ 10 :: aa1 u d ts body) [10] = (Lib.itoa now, aa1 u d ts body, true) := aL9 10 _ _ (al8 (ap7 now n0 n9) (by decide))
  unfold b29
  rw [c1, if_pos rfl]
  show (1, 0, B [], B [], (ay6 (Lib.cut (Lib.itoa now ++ 10 :: aa1 u d ts body) [10]).1).1, _) = _
  rw [c2]
  show (1, 0, B [], B [], (ay6 (Lib.itoa now)).1, (aM2 (aa1 u d ts body)).1, _) = _
  rw [aY9 now n0 n9, c68 hm (aX5 hm)]
 ·obtain ⟨rfl, rfl, rfl, rfl⟩ := au6 hb
  have e : aj8 2 id au ad 0 (B []) (B []) [] [] = [100, 111, 110, 101] ++ 32 :: (Lib.itoa id ++ 32 :: J3 au ad) := rfl
  have c1 : Lib.cut (aj8 2 id au ad 0 (B []) (B []) [] []) [32] = ([100, 111, 110, 101], Lib.itoa id ++ 32 :: J3 au ad, true) := by rw [e]; exact aL9 32 _ _ (by decide)
  have hw : aC4 (aj8 2 id au ad 0 (B []) (B []) [] []) = [Lib.itoa id, J3 au ad] := by
   unfold aC4
   rw [c1]
   show cutAt 32 (Lib.itoa id ++ 32 :: J3 au ad) = _
   rw [aO7 32 _ _ (al8 (ap7 id (by omega) (by omega)) (by decide)), aX3 32 _ (aP5 ha (by decide))]
  unfold b29
  rw [c1, if_neg (show ¬ ([100, 111, 110, 101] : List UInt8) = [97, 100, 100] by decide), if_pos rfl, hw]
  show (2, (ay6 (Lib.itoa id)).1, (an4 (J3 au ad)).1, (an4 (J3 au ad)).2.1, _) = _
  rw [aY9 id (by omega) (by omega), aT0 (by rw [ha, Bool.or_true])]
 ·obtain ⟨rfl, rfl, rfl, rfl⟩ := au6 hb
  have e : aj8 3 id au ad now (B []) (B []) [] [] = [108, 97, 116, 101, 114] ++ 32 :: (Lib.itoa id ++ 32 :: (J3 au ad ++ 32 :: Lib.itoa now)) := rfl
  have c1 : Lib.cut (aj8 3 id au ad now (B []) (B []) [] []) [32] = ([108, 97, 116, 101, 114], Lib.itoa id ++ 32 :: (J3 au ad ++ 32 :: Lib.itoa now), true) := by rw [e]; exact aL9 32 _ _ (by decide)
  have hw : aC4 (aj8 3 id au ad now (B []) (B []) [] []) = [Lib.itoa id, J3 au ad, Lib.itoa now] := by
   unfold aC4
   rw [c1]
   show cutAt 32 (Lib.itoa id ++ 32 :: (J3 au ad ++ 32 :: Lib.itoa now)) = _
   rw [aO7 32 _ _ (al8 (ap7 id (by omega) (by omega)) (by decide)), aO7 32 _ _ (aP5 ha (by decide)), aX3 32 _ (al8 (ap7 now n0 n9) (by decide))]
  unfold b29
  rw [c1, if_neg (show ¬ ([108, 97, 116, 101, 114] : List UInt8) = [97, 100, 100] by decide), if_neg (show ¬ ([108, 97, 116, 101, 114] : List UInt8) = [100, 111, 110, 101] by decide), if_pos rfl, hw]
  show (3, (ay6 (Lib.itoa id)).1, (an4 (J3 au ad)).1, (an4 (J3 au ad)).2.1, (ay6 (Lib.itoa now)).1, _) = _
  rw [aY9 id (by omega) (by omega), aY9 now n0 n9, aT0 (by rw [ha, Bool.or_true])]
theorem bg5 (w : List UInt8) (h : w.length ≤ 536870912) : (ad5 w).1.size ≤ 1073741824 ∧ (ad5 w).2.1.size ≤ 1073741824 := by
 have := bt7 w
 exact ⟨by omega, by omega⟩
theorem bW6 (w0 w1 w2 w3 : List UInt8) (h2 : w2.length ≤ 536870912) {v1 v3 : Int} (h1 : Ev (fun k => F4.f k (B w1)) v1) (h3 : Ev (fun k => F4.f k (B w3)) v3) :
  Ev (fun k => D6.j2 k ([w0, w1, w2, w3].map B) true 0 0 (B []) (B []) 0 (B []) (B [])) (3, v1, (ad5 w2).1, (ad5 w2).2.1, v3, B [], B [], [], []) := by
 have ha := ay9 (B w2) (by rw [D8]; omega)
 rw [M5] at ha
 refine Ev.step (f := fun k => (F4.f k (B w1)).bind fun t134 => ((D0.f k (B w2)).bind fun bW2 => ((F4.f k (B w3)).bind fun t141 => (some (3, t134, bW2.1, bW2.2.1, t141, B [], B [], ([] : List (G6)), ([] : List ByteArray)))))) (fun k => by rw [D6.j2]; rfl) ?_
 exact Ev.bind h1 (Ev.bind ha (Ev.bind h3 (Ev.now _)))
theorem bW7 (w0 w1 w2 : List UInt8) (h2 : w2.length ≤ 536870912) {v1 : Int} (h1 : Ev (fun k => F4.f k (B w1)) v1) :
  Ev (fun k => D6.j1 k ([w0, w1, w2].map B) true 0 0 (B []) (B []) 0 (B []) (B [])) (2, v1, (ad5 w2).1, (ad5 w2).2.1, 0, B [], B [], [], []) := by
 have ha := ay9 (B w2) (by rw [D8]; omega)
 rw [M5] at ha
 refine Ev.step (f := fun k => (F4.f k (B w1)).bind fun t126 => ((D0.f k (B w2)).bind fun bW1 => (some (2, t126, bW1.1, bW1.2.1, 0, B [], B [], ([] : List (G6)), ([] : List ByteArray))))) (fun k => by rw [D6.j1]; rfl) ?_
 exact Ev.bind h1 (Ev.bind ha (Ev.now _))
theorem bW8 (h0 h1 w0 w1 : List UInt8) {v1 : Int} (hv : Ev (fun k => F4.f k (B w1)) v1) :
  Ev (fun k => D6.j0 k ([h0, h1].map B) ([w0, w1].map B) true 0 0 (B []) (B []) 0 (B []) (B [])) (1, 0, B [], B [], v1, (aP2 h1).1, (aP2 h1).2.1, (aP2 h1).2.2.1, (aP2 h1).2.2.2.1) := by
 have hm := bu7 (B h1)
 rw [M5] at hm
 refine Ev.step (f := fun k => (F4.f k (B w1)).bind fun t112 => ((a86.f k (B h1)).bind fun az7 => (some (1, 0, B [], B [], t112, az7.1, az7.2.1, az7.2.2.1, az7.2.2.2.1)))) (fun k => by rw [D6.j0]; rfl) ?_
 exact Ev.bind hv (Ev.bind hm (Ev.now _))
theorem aP6 (w : List ByteArray) : Ev (fun k => D6.j2 k w false 0 0 (B []) (B []) 0 (B []) (B [])) bE8 :=
 Ev.step (f := fun _ => some bE8) (fun k => by rw [D6.j2]; rfl) (Ev.now _)
theorem bF0 (w0 : List UInt8) (r : List (List UInt8)) {q : aK4} (h : Ev (fun k => D6.j2 k ((w0 :: r).map B) (if w0 = [108, 97, 116, 101, 114] then ((((w0 :: r).map B).length : Int) == 4) else false) 0 0 (B []) (B []) 0 (B []) (B [])) q) :
  Ev (fun k => D6.j1 k ((w0 :: r).map B) false 0 0 (B []) (B []) 0 (B []) (B [])) q := by
 refine Ev.step (fun k => ?_) h
 rw [D6.j1, if_neg (by decide), if_pos (by rw [List.map_cons, List.length_cons]; omega), show H9 ByteArray.empty ((w0 :: r).map B) 0 = B w0 from rfl, ab7]
 split <;> rfl
theorem bd5 (h : List ByteArray) (w0 : List UInt8) (r : List (List UInt8)) {q : aK4} (hq : Ev (fun k => D6.j1 k ((w0 :: r).map B) (if w0 = [100, 111, 110, 101] then ((((w0 :: r).map B).length : Int) == 3) else false) 0 0 (B []) (B []) 0 (B []) (B [])) q) :
  Ev (fun k => D6.j0 k h ((w0 :: r).map B) false 0 0 (B []) (B []) 0 (B []) (B [])) q := by
 refine Ev.step (fun k => ?_) hq
 rw [D6.j0, if_neg (by decide), if_pos (by rw [List.map_cons, List.length_cons]; omega), show H9 ByteArray.empty ((w0 :: r).map B) 0 = B w0 from rfl, ab7]
 split <;> rfl
theorem bm0 (s : ByteArray) (hs : s.size ≤ 536870912) (h0 : List UInt8) (hr : List (List UInt8)) (w0 : List UInt8) (wr : List (List UInt8)) (hh : ab3 10 1 s.data.toList = h0 :: hr) (hw : ab3 32 4 h0 = w0 :: wr) {q : aK4}
  (hq : Ev (fun k => D6.j0 k ((h0 :: hr).map B) ((w0 :: wr).map B) (if w0 = [97, 100, 100] then (if (((w0 :: wr).map B).length : Int) = 2 then ((((h0 :: hr).map B).length : Int) == 2) else false) else false) 0 0 (B []) (B []) 0 (B []) (B [])) q) :
  Ev (fun k => D6.f k s) q := by
 have hl := E3 s
 have hhl := (aT1 10 s.data.toList 1).2 h0 (by rw [hh]; simp)
 have c1 := aY7 s (by omega) 10 1 (by decide)
 have c2 := aY7 (B h0) (by rw [D8]; omega) 32 4 (by decide)
 rw [hh] at c1
 rw [M5, hw] at c2
 unfold D6.f
 refine Ev.bind c1 ?_
 refine Ev.congr (f := fun k => (G5.f k (B h0) 32 4).bind fun t106 => (if 0 < (t106.length : Int) then (if (H9 ByteArray.empty t106 0).toList = ([97, 100, 100] : List UInt8) then (if (t106.length : Int) = 2 then (D6.j0 k ((h0 :: hr).map B) t106 ((((h0 :: hr).map B).length : Int) == 2) 0 0 (B []) (B []) 0 (B []) (B [])) else (D6.j0 k ((h0 :: hr).map B) t106 false 0 0 (B []) (B []) 0 (B []) (B []))) else (D6.j0 k ((h0 :: hr).map B) t106 false 0 0 (B []) (B []) 0 (B []) (B []))) else (none))) (fun k => ?_) ?_
 ·exact if_pos (by rw [List.map_cons, List.length_cons]; omega)
 ·refine Ev.bind c2 (Ev.congr (fun k => ?_) hq)
  show (if 0 < (((w0 :: wr).map B).length : Int) then _ else _) = _
  rw [if_pos (by rw [List.map_cons, List.length_cons]; omega), show H9 ByteArray.empty ((w0 :: wr).map B) 0 = B w0 from rfl, ab7]
  split
  ·split <;> rfl
  ·rfl
theorem bF1 (c : UInt8) (m : Nat) (l : List UInt8) : ∃ x r, ab3 c m l = x :: r := by
 cases h : ab3 c m l with
 | nil => exact absurd h (bk1 c m l)
 | cons x r => exact ⟨x, r, rfl⟩
theorem ca1 (s : ByteArray) (hs : s.size ≤ 820) : ∃ q : aK4, Ev (fun k => D6.f k s) q ∧ bd4 q := by
 have hl := E3 s
 obtain ⟨h0, hr, hh⟩ := bF1 10 1 s.data.toList
 obtain ⟨w0, wr, hw⟩ := bF1 32 4 h0
 have hhl := (aT1 10 s.data.toList 1).2 h0 (by rw [hh]; simp)
 have hwl := (aT1 32 h0 4).2
 rw [hw] at hwl
 have num : ∀ x ∈ w0 :: wr, ∃ v, Ev (fun k => F4.f k (B x)) v := fun x hx => c81 (B x) (by rw [D8]; have := hwl x hx; omega)
 have zs : bd4 bE8 := ⟨al4, by decide, by decide⟩
 have later : ∃ q : aK4, Ev (fun k => D6.j2 k ((w0 :: wr).map B) (if w0 = [108, 97, 116, 101, 114] then ((((w0 :: wr).map B).length : Int) == 4) else false) 0 0 (B []) (B []) 0 (B []) (B [])) q ∧ bd4 q := by
  by_cases hL : w0 = [108, 97, 116, 101, 114]
  ·rw [if_pos hL]
   match wr, hwl, num with
   | [w1, w2, w3], hwl, num =>
    obtain ⟨v1, e1⟩ := num w1 (by simp)
    obtain ⟨v3, e3⟩ := num w3 (by simp)
    have h2 := hwl w2 (by simp)
    exact ⟨_, bW6 w0 w1 w2 w3 (by omega) e1 e3, al4, bg5 w2 (by omega)⟩
   | [], _, _ => exact ⟨_, aP6 _, zs⟩
   | [_], _, _ => exact ⟨_, aP6 _, zs⟩
   | [_, _], _, _ => exact ⟨_, aP6 _, zs⟩
   | w1 :: w2 :: w3 :: w4 :: r, _, _ =>
    refine ⟨bE8, Ev.congr (fun k => ?_) (aP6 ((w0 :: w1 :: w2 :: w3 :: w4 :: r).map B)), zs⟩
    rw [show ((((w0 :: w1 :: w2 :: w3 :: w4 :: r).map B).length : Int) == 4) = false from beq_eq_false_iff_ne.2 (by simp only [List.length_map, List.length_cons]; omega)]
  ·rw [if_neg hL]
   exact ⟨_, aP6 _, zs⟩
 have done : ∃ q : aK4, Ev (fun k => D6.j1 k ((w0 :: wr).map B) (if w0 = [100, 111, 110, 101] then ((((w0 :: wr).map B).length : Int) == 3) else false) 0 0 (B []) (B []) 0 (B []) (B [])) q ∧ bd4 q := by
  obtain ⟨q, hq, hq'⟩ := later
  have no := bF0 w0 wr hq
  by_cases hD : w0 = [100, 111, 110, 101]
  ·rw [if_pos hD]
   match wr, hwl, num, no with
   | [w1, w2], hwl, num, _ =>
    obtain ⟨v1, e1⟩ := num w1 (by simp)
    have h2 := hwl w2 (by simp)
    exact ⟨_, bW7 w0 w1 w2 (by omega) e1, al4, bg5 w2 (by omega)⟩
   | [], _, _, no => exact ⟨q, no, hq'⟩
   | [_], _, _, no => exact ⟨q, no, hq'⟩
   | w1 :: w2 :: w3 :: r, _, _, no =>
    refine ⟨q, Ev.congr (fun k => ?_) no, hq'⟩
    rw [show ((((w0 :: w1 :: w2 :: w3 :: r).map B).length : Int) == 3) = false from beq_eq_false_iff_ne.2 (by simp only [List.length_map, List.length_cons]; omega)]
  ·rw [if_neg hD]
   exact ⟨q, no, hq'⟩
 obtain ⟨q, hq, hq'⟩ := done
 have no := bd5 ((h0 :: hr).map B) w0 wr hq
 have top : ∃ q : aK4, Ev (fun k => D6.j0 k ((h0 :: hr).map B) ((w0 :: wr).map B) (if w0 = [97, 100, 100] then (if (((w0 :: wr).map B).length : Int) = 2 then ((((h0 :: hr).map B).length : Int) == 2) else false) else false) 0 0 (B []) (B []) 0 (B []) (B [])) q ∧ bd4 q := by
  by_cases hA : w0 = [97, 100, 100]
  ·rw [if_pos hA]
   by_cases h2 : (((w0 :: wr).map B).length : Int) = 2
   ·rw [if_pos h2]
    cases h3 : ((((h0 :: hr).map B).length : Int) == 2)
    ·exact ⟨q, no, hq'⟩
    ·have h3 := beq_iff_eq.1 h3
     simp only [List.length_map, List.length_cons] at h2 h3
     match wr, hr, h2, h3, num with
     | [w1], [h1], _, _, num =>
      obtain ⟨v1, e1⟩ := num w1 (by simp)
      exact ⟨_, bW8 h0 h1 w0 w1 e1, bV9 _, (by decide : (B []).size ≤ 1073741824), (by decide : (B []).size ≤ 1073741824)⟩
     | [], _, h2, _, _ => simp at h2
     | _ :: _ :: _, _, h2, _, _ => simp at h2; omega
     | [_], [], _, h3, _ => simp at h3
     | [_], _ :: _ :: _, _, h3, _ => simp at h3; omega
   ·rw [if_neg h2]
    exact ⟨q, no, hq'⟩
  ·rw [if_neg hA]
   exact ⟨q, no, hq'⟩
 obtain ⟨q, hq, hq'⟩ := top
 exact ⟨q, bm0 s (by omega) h0 hr w0 wr hh hw hq, hq'⟩
end Go.Proofs.YtbncnjgflhoneaaGreatDoor.Hand
namespace Go.Proofs.YtbncnjgflhoneaaGreatDoor.F
open Go.RowKit Go.Proofs.YtbncnjgflhoneaaGreatDoor.Hand Go.Proofs.YtbncnjgflhoneaaGreatDoorW.l8 Go.Proofs.YtbncnjgflhoneaaGreatDoorW.s9 Go.Proofs.YtbncnjgflhoneaaGreatDoorW.y9
attribute [local go_sem high] bz9
def V2.l0 : Nat → List (G6) → List (G6) → Int → Option (Bool)
 | 0, _, _, _ => none
 | k + 1, x0, x1, x5 => if x5 < (x0.length : Int) then (if 0 ≤ x5 then (if x5 < (x1.length : Int) then (if (!((((E6 x0 x5).f0).toList) == (((E6 x1 x5).f0).toList)) || (!((((E6 x0 x5).f1).toList) == (((E6 x1 x5).f1).toList)))) = true then (some false) else (V2.l0 k x0 x1 (wrap64 (x5 + 1)))) else (none)) else (none)) else (some true)
def V2.f (k : Nat) (l0 : List (G6)) (l1 : List (G6)) : Option (Bool) := if (l0.length : Int) = (l1.length : Int) then (V2.l0 k l0 l1 0) else (some false)
set_option maxHeartbeats 8000000 in
set_option maxRecDepth 100000 in
theorem V2.calls (k : Nat) (A0 : Option Addr) (c0 : Nat) (l0 : List (G6)) (A1 : Option Addr) (c1 : Nat) (l1 : List (G6)) (r : Bool) (w : World) (hr0 : Kd.C k32 w A0 l0.length l0) (hc0 : l0.length ≤ c0) (hr1 : Kd.C k32 w A1 l1.length l1) (hc1 : l1.length ≤ c1) (h : V2.f k l0 l1 = some r) :
  Calls Tryz.prog 82 #[.slice A0 l0.length c0, .slice A1 l1.length c1] w fun e w' => e = .returned (.bool r) ∧ O7 w w' := by
 have as2 := Tryz.underlying32
 have HR0 := j4.mk hr0
 have HC0 := j4.mk hc0
 clear hr0 hc0
 have HR1 := j4.mk hr1
 have HC1 := j4.mk hc1
 clear hr1 hc1
 have H := h
 clear h
 unfold V2.f at H
 replace H := be3 H; rcases H with ⟨c3, aD1, aZ5, H⟩ | ⟨c3, aD1, aZ5, H⟩
 ·have c50 : (l0.length == l1.length) = true := by first | simpa using c3 | (simp at c3 ⊢; omega)
  clear c3
  have H' := j4.mk H
  clear H
  go_enter Tryz.func82, Tryz.ntmps82
  go_wp2
  repeat (go_quiet (fail); try go_wp2)
  go_loopg [5] k (fun kq v5 w' => ∃ (Z3 : Int), v5 = .int .i64 Z3 ∧ j4 (V2.l0 kq l0 l1 Z3 = some r) ∧ j4 (kq ≤ k) ∧ O7 w w')
  case atStart => exact ⟨(0), zs, H', ⟨Nat.le_refl _⟩, zD⟩
  case round =>
   clear H'
   obtain ⟨Z3, rfl, HA, HK1, ⟨m1, rfl⟩⟩ := hrel
   cases gk with
   | zero => exact absurd HA.out (by simp [V2.l0])
   | succ k1 =>
    have H := HA.out
    clear HA
    simp only [V2.l0] at H
    replace H := K2 H; rcases H with ⟨aD2, H⟩ | ⟨aD2, H⟩
    ·replace H := S1 H; obtain ⟨ap1, H⟩ := H
     replace H := S1 H; obtain ⟨am1, H⟩ := H
     replace H := aY5 H; rcases H with ⟨c7, H⟩ | ⟨c7, H⟩
     ·have ak6 : (!((((E6 l0 Z3).f0).toList) == (((E6 l1 Z3).f0).toList)) || (!((((E6 l0 Z3).f1).toList) == (((E6 l1 Z3).f1).toList)))) = true := c7
      clear c7
      obtain rfl := Option.some.inj H
      have ak7 : 0 ≤ (Z3 : Int) := of_decide_eq_true za
      have ak8 : Z3 < (l0.length : Int) := of_decide_eq_true za
      obtain ⟨b67, aQ4, ax3, da3⟩ := as1 HR0.out Z3 ak7 ak8
      cases aQ4
      replace ak7 := eq_true ak7
      replace ak8 := eq_true ak8
      have aA4 : 0 ≤ (Z3 : Int) := of_decide_eq_true za
      have aA5 : Z3 < (l1.length : Int) := of_decide_eq_true za
      obtain ⟨aT8, bb5, at2, aS3⟩ := as1 HR1.out Z3 aA4 aA5
      cases bb5
      replace aA4 := eq_true aA4
      replace aA5 := eq_true aA5
      go_wp2
      repeat (go_quiet (fail); try go_wp2)
      go_ret
      exact ⟨zs, zD⟩
     ·have ak6 : (!((((E6 l0 Z3).f0).toList) == (((E6 l1 Z3).f0).toList)) || (!((((E6 l0 Z3).f1).toList) == (((E6 l1 Z3).f1).toList)))) = false := by simpa using c7
      clear c7
      have H' := j4.mk H
      clear H
      have ak7 : 0 ≤ (Z3 : Int) := of_decide_eq_true za
      have ak8 : Z3 < (l0.length : Int) := of_decide_eq_true za
      obtain ⟨b67, aQ4, ax3, da3⟩ := as1 HR0.out Z3 ak7 ak8
      cases aQ4
      replace ak7 := eq_true ak7
      replace ak8 := eq_true ak8
      have aA4 : 0 ≤ (Z3 : Int) := of_decide_eq_true za
      have aA5 : Z3 < (l1.length : Int) := of_decide_eq_true za
      obtain ⟨aT8, bb5, at2, aS3⟩ := as1 HR1.out Z3 aA4 aA5
      cases bb5
      replace aA4 := eq_true aA4
      replace aA5 := eq_true aA5
      go_wp2
      repeat (go_quiet (fail); try go_wp2)
      go_roundg k1
      case measure => have := HK1.out; omega
      case rel => exact ⟨(wrap64 (Z3 + 1)), zs, H', ⟨by have := HK1.out; omega⟩, zD⟩
    ·obtain rfl := Option.some.inj H
     go_wp2
     repeat (go_quiet (fail); try go_wp2)
     go_ret
     exact ⟨zs, zD⟩
 ·have c50 : (l0.length == l1.length) = false := by first | simpa using c3 | (simp at c3 ⊢; omega)
  obtain rfl := Option.some.inj H
  go_enter Tryz.func82, Tryz.ntmps82
  go_wp2
  repeat (go_quiet (fail); try go_wp2)
  go_ret
  exact ⟨zs, zD⟩
end Go.Proofs.YtbncnjgflhoneaaGreatDoor.F
namespace Go.Proofs.YtbncnjgflhoneaaGreatDoor.F
open Go.RowKit Go.Proofs.YtbncnjgflhoneaaGreatDoor.Hand Go.Proofs.YtbncnjgflhoneaaGreatDoorW.l8 Go.Proofs.YtbncnjgflhoneaaGreatDoorW.s9 Go.Proofs.YtbncnjgflhoneaaGreatDoorW.y9
def X0.l0 : Nat → List ByteArray → List ByteArray → Int → Option (Bool)
 | 0, _, _, _ => none
 | k + 1, x0, x1, x5 => if x5 < (x0.length : Int) then (if 0 ≤ x5 then (if x5 < (x1.length : Int) then (if (H9 ByteArray.empty x0 x5).toList = (H9 ByteArray.empty x1 x5).toList then (X0.l0 k x0 x1 (wrap64 (x5 + 1))) else (some false)) else (none)) else (none)) else (some true)
def X0.f (k : Nat) (l0 : List ByteArray) (l1 : List ByteArray) : Option (Bool) := if (l0.length : Int) = (l1.length : Int) then (X0.l0 k l0 l1 0) else (some false)
set_option maxHeartbeats 8000000 in
set_option maxRecDepth 100000 in
theorem X0.calls (k : Nat) (A0 : Option Addr) (c0 : Nat) (l0 : List ByteArray) (A1 : Option Addr) (c1 : Nat) (l1 : List ByteArray) (r : Bool) (w : World) (hr0 : Kd.C Kd.string w A0 l0.length l0) (hc0 : l0.length ≤ c0) (hr1 : Kd.C Kd.string w A1 l1.length l1) (hc1 : l1.length ≤ c1) (h : X0.f k l0 l1 = some r) :
  Calls Tryz.prog 83 #[.slice A0 l0.length c0, .slice A1 l1.length c1] w fun e w' => e = .returned (.bool r) ∧ O7 w w' := by
 have HR0 := j4.mk hr0
 have HC0 := j4.mk hc0
 clear hr0 hc0
 have HR1 := j4.mk hr1
 have HC1 := j4.mk hc1
 clear hr1 hc1
 have H := h
 clear h
 unfold X0.f at H
 replace H := be3 H; rcases H with ⟨c3, aD1, aZ5, H⟩ | ⟨c3, aD1, aZ5, H⟩
 ·have c50 : (l0.length == l1.length) = true := by first | simpa using c3 | (simp at c3 ⊢; omega)
  clear c3
  have H' := j4.mk H
  clear H
  go_enter Tryz.func83, Tryz.ntmps83
  go_wp2
  repeat (go_quiet (fail); try go_wp2)
  go_loopg [5] k (fun kq v5 w' => ∃ (Z3 : Int), v5 = .int .i64 Z3 ∧ j4 (X0.l0 kq l0 l1 Z3 = some r) ∧ j4 (kq ≤ k) ∧ O7 w w')
  case atStart => exact ⟨(0), zs, H', ⟨Nat.le_refl _⟩, zD⟩
  case round =>
   clear H'
   obtain ⟨Z3, rfl, HA, HK1, ⟨m1, rfl⟩⟩ := hrel
   cases gk with
   | zero => exact absurd HA.out (by simp [X0.l0])
   | succ k1 =>
    have H := HA.out
    clear HA
    simp only [X0.l0] at H
    replace H := K2 H; rcases H with ⟨aD2, H⟩ | ⟨aD2, H⟩
    ·replace H := S1 H; obtain ⟨ap1, H⟩ := H
     replace H := S1 H; obtain ⟨am1, H⟩ := H
     replace H := F6 H; rcases H with ⟨ak6, b77, H⟩ | ⟨ak6, b77, H⟩
     ·have H' := j4.mk H
      clear H
      have ak7 : 0 ≤ (Z3 : Int) := of_decide_eq_true za
      have ak8 : Z3 < (l0.length : Int) := of_decide_eq_true za
      obtain ⟨b67, aQ4, ax3⟩ := Kd.E5 HR0.out Z3 ak7 ak8
      cases aQ4
      replace ak7 := eq_true ak7
      replace ak8 := eq_true ak8
      have aA4 : 0 ≤ (Z3 : Int) := of_decide_eq_true za
      have aA5 : Z3 < (l1.length : Int) := of_decide_eq_true za
      obtain ⟨aT8, bb5, at2⟩ := Kd.E5 HR1.out Z3 aA4 aA5
      cases bb5
      replace aA4 := eq_true aA4
      replace aA5 := eq_true aA5
      go_wp2
      repeat (go_quiet (fail); try go_wp2)
      go_roundg k1
      case measure => have := HK1.out; omega
      case rel => exact ⟨(wrap64 (Z3 + 1)), zs, H', ⟨by have := HK1.out; omega⟩, zD⟩
     ·obtain rfl := Option.some.inj H
      have ak7 : 0 ≤ (Z3 : Int) := of_decide_eq_true za
      have ak8 : Z3 < (l0.length : Int) := of_decide_eq_true za
      obtain ⟨b67, aQ4, ax3⟩ := Kd.E5 HR0.out Z3 ak7 ak8
      cases aQ4
      replace ak7 := eq_true ak7
      replace ak8 := eq_true ak8
      have aA4 : 0 ≤ (Z3 : Int) := of_decide_eq_true za
      have aA5 : Z3 < (l1.length : Int) := of_decide_eq_true za
      obtain ⟨aT8, bb5, at2⟩ := Kd.E5 HR1.out Z3 aA4 aA5
      cases bb5
      replace aA4 := eq_true aA4
      replace aA5 := eq_true aA5
      go_wp2
      repeat (go_quiet (fail); try go_wp2)
      go_ret
      exact ⟨zs, zD⟩
    ·obtain rfl := Option.some.inj H
     go_wp2
     repeat (go_quiet (fail); try go_wp2)
     go_ret
     exact ⟨zs, zD⟩
 ·have c50 : (l0.length == l1.length) = false := by first | simpa using c3 | (simp at c3 ⊢; omega)
  obtain rfl := Option.some.inj H
  go_enter Tryz.func83, Tryz.ntmps83
  go_wp2
  repeat (go_quiet (fail); try go_wp2)
  go_ret
  exact ⟨zs, zD⟩
attribute [local go_sem high] bz9
def ap8.f (k : Nat) (r0 : ByteArray) (D2 : ByteArray) (J2 : List (G6)) (P8 : List ByteArray) (R8 : ByteArray) (Y1 : ByteArray) (ad4 : List (G6)) (am2 : List ByteArray) : Option (Bool) := if (r0.toList == R8.toList && (D2.toList == Y1.toList)) = true then ((V2.f k J2 ad4).bind fun t103 => (if t103 = true then ((X0.f k P8 am2).bind fun t104 => (some t104)) else (some false))) else (some false)
set_option maxHeartbeats 8000000 in
set_option maxRecDepth 100000 in
theorem ap8.calls (k : Nat) (r0 : ByteArray) (D2 : ByteArray) (ae6 : Option Addr) (ae1 : Nat) (J2 : List (G6)) (a71 : Option Addr) (a73 : Nat) (P8 : List ByteArray) (R8 : ByteArray) (Y1 : ByteArray) (aU5 : Option Addr) (aR2 : Nat) (ad4 : List (G6)) (aR3 : Option Addr) (aR4 : Nat) (am2 : List ByteArray) (r : Bool) (w : World) (a90 : Kd.C k32 w ae6 J2.length J2) (aj7 : J2.length ≤ ae1) (a09 : Kd.C Kd.string w a71 P8.length P8) (a10 : P8.length ≤ a73) (bA5 : Kd.C k32 w aU5 ad4.length ad4) (bA6 : ad4.length ≤ aR2) (bA7 : Kd.C Kd.string w aR3 am2.length am2) (bA8 : am2.length ≤ aR4) (h : ap8.f k r0 D2 J2 P8 R8 Y1 ad4 am2 = some r) :
  Calls Tryz.prog 44 #[.agg #[.string r0, .string D2, .slice ae6 J2.length ae1, .slice a71 P8.length a73], .agg #[.string R8, .string Y1, .slice aU5 ad4.length aR2, .slice aR3 am2.length aR4]] w fun e w' => e = .returned (.bool r) ∧ Below w.heap.size w w' := by
 have aV0 := Tryz.underlying35
 have as2 := Tryz.underlying32
 have aF5 := j4.mk a90
 have bf4 := j4.mk aj7
 clear a90 aj7
 have ax6 := j4.mk a09
 have aF3 := j4.mk a10
 clear a09 a10
 have cg3 := j4.mk bA5
 have cF6 := j4.mk bA6
 clear bA5 bA6
 have bP6 := j4.mk bA7
 have df3 := j4.mk bA8
 clear bA7 bA8
 have HB := j4.mk (Below.refl w.heap.size w)
 have H := h
 clear h
 unfold ap8.f at H
 replace H := aY5 H; rcases H with ⟨c3, H⟩ | ⟨c3, H⟩
 ·have aD1 : (r0.toList == R8.toList && (D2.toList == Y1.toList)) = true := c3
  (try (have aZ5 : decide (r0.toList = R8.toList && (D2.toList == Y1.toList)) = true := by simpa using c3))
  (try (have c50 : (r0.toList == R8.toList && (D2.toList == Y1.toList)) = true := by simpa using c3))
  clear c3
  replace H := S2 H; obtain ⟨t103, A4, H⟩ := H
  replace H := itb H; rcases H with ⟨rfl, H⟩ | ⟨rfl, H⟩
  ·replace H := S2 H; obtain ⟨t104, A6, H⟩ := H
   obtain rfl := Option.some.inj H
   go_enter Tryz.func44, Tryz.ntmps44
   go_wp2_with (first | ((with_reducible refine l9 (N := 2) rfl ?_); refine bx (cs := #[.string r0, .string D2, .slice ae6 J2.length ae1, .slice a71 P8.length a73]) (t := 35) ?_; intro j8 hg w7 o8 hb; have j5 := j4.mk (o8); have L8 := gS hg; have J7 := gS hg; replace HB := bS hb; clear hb o8 hg) | ((with_reducible refine l9 (N := 3) rfl ?_); refine bx (cs := #[.string R8, .string Y1, .slice aU5 ad4.length aR2, .slice aR3 am2.length aR4]) (t := 35) ?_; intro o7 hg w8 o8 hb; have j7 := j4.mk (o8); have as7 := gS hg; have al6 := gS hg; have D1 := nS hg j5; have D3 := nG hg j5; replace j5 := kS j5 hb; replace HB := bS hb; clear hb o8 hg; have eL4 := D1.out; have eL5 := D3.out; have cp6 := cz4 j5.out; have cp7 := fz4 j5.out; have be4 := cz4 j7.out; have be5 := fz4 j7.out) | (go_at_call 82; refine (V2.calls (w := _) (hr0 := cB aF5) (hc0 := bf4.out) (hr1 := cB cg3) (hc1 := cF6.out) (h := A4.out)).mono ?_; rintro e w' ⟨rfl, ⟨nd, rfl⟩⟩) | (go_at_call 83; refine (X0.calls (w := _) (hr0 := by repeat (first | exact (Kd.a79 ax6.out zB) | (with_reducible refine Kd.K4 ?_ _) | (with_reducible refine Kd.K5 ?_ _) | (with_reducible refine Kd.Q1 ?_))) (hc0 := aF3.out) (hr1 := by repeat (first | exact (Kd.a79 bP6.out zB) | (with_reducible refine Kd.K4 ?_ _) | (with_reducible refine Kd.K5 ?_ _) | (with_reducible refine Kd.Q1 ?_))) (hc1 := df3.out) (h := A6.out)).mono ?_; rintro e w' ⟨rfl, ⟨nd, rfl⟩⟩))
   go_ret
   exact ⟨zr, zB⟩
  ·obtain rfl := Option.some.inj H
   go_enter Tryz.func44, Tryz.ntmps44
   go_wp2_with (first | ((with_reducible refine l9 (N := 2) rfl ?_); refine bx (cs := #[.string r0, .string D2, .slice ae6 J2.length ae1, .slice a71 P8.length a73]) (t := 35) ?_; intro j8 hg w12 o8 hb; have j5 := j4.mk (o8); have L8 := gS hg; have J7 := gS hg; replace HB := bS hb; clear hb o8 hg) | ((with_reducible refine l9 (N := 3) rfl ?_); refine bx (cs := #[.string R8, .string Y1, .slice aU5 ad4.length aR2, .slice aR3 am2.length aR4]) (t := 35) ?_; intro o7 hg w13 o8 hb; have j7 := j4.mk (o8); have as7 := gS hg; have al6 := gS hg; have D1 := nS hg j5; have D3 := nG hg j5; replace j5 := kS j5 hb; replace HB := bS hb; clear hb o8 hg; have ch8 := D1.out; have ch9 := D3.out; have bB7 := cz4 j5.out; have bB8 := fz4 j5.out; have br3 := cz4 j7.out; have br4 := fz4 j7.out) | (go_at_call 82; refine (V2.calls (w := _) (hr0 := cB aF5) (hc0 := bf4.out) (hr1 := cB cg3) (hc1 := cF6.out) (h := A4.out)).mono ?_; rintro e w' ⟨rfl, ⟨nd, rfl⟩⟩))
   go_ret
   exact ⟨zr, zB⟩
 ·have aD1 : (r0.toList == R8.toList && (D2.toList == Y1.toList)) = false := by simpa using c3
  (try (have aZ5 : decide (r0.toList = R8.toList && (D2.toList == Y1.toList)) = false := by simpa using c3))
  (try (have c50 : (r0.toList == R8.toList && (D2.toList == Y1.toList)) = false := by simpa using c3))
  (try (have eL6 : ¬ (r0.toList = R8.toList && (D2.toList == Y1.toList)) := by simpa using c3))
  clear c3
  obtain rfl := Option.some.inj H
  go_enter Tryz.func44, Tryz.ntmps44
  go_wp2_with (first | ((with_reducible refine l9 (N := 2) rfl ?_); refine bx (cs := #[.string r0, .string D2, .slice ae6 J2.length ae1, .slice a71 P8.length a73]) (t := 35) ?_; intro j8 hg w17 o8 hb; have j5 := j4.mk (o8); have L8 := gS hg; have J7 := gS hg; replace HB := bS hb; clear hb o8 hg) | ((with_reducible refine l9 (N := 3) rfl ?_); refine bx (cs := #[.string R8, .string Y1, .slice aU5 ad4.length aR2, .slice aR3 am2.length aR4]) (t := 35) ?_; intro o7 hg w18 o8 hb; have j7 := j4.mk (o8); have as7 := gS hg; have al6 := gS hg; have D1 := nS hg j5; have D3 := nG hg j5; replace j5 := kS j5 hb; replace HB := bS hb; clear hb o8 hg; have di3 := D1.out; have di4 := D3.out; have cI6 := cz4 j5.out; have cI7 := fz4 j5.out; have dk7 := cz4 j7.out; have dk8 := fz4 j7.out))
  go_ret
  exact ⟨zr, zB⟩
end Go.Proofs.YtbncnjgflhoneaaGreatDoor.F
namespace Go.Proofs.YtbncnjgflhoneaaGreatDoor.F
open Go.RowKit Go.Proofs.YtbncnjgflhoneaaGreatDoor.Hand Go.Proofs.YtbncnjgflhoneaaGreatDoorW.l8 Go.Proofs.YtbncnjgflhoneaaGreatDoorW.s9 Go.Proofs.YtbncnjgflhoneaaGreatDoorW.y9
attribute [local go_sem high] bz9
def aa2.f (k : Nat) (r0 : Int) (D2 : Int) (R1 : ByteArray) (V1 : ByteArray) (Y2 : Int) (X7 : ByteArray) (X8 : ByteArray) (R3 : List (G6)) (R4 : List ByteArray) (R8 : Int) (Y1 : Int) (b02 : ByteArray) (b03 : ByteArray) (bL9 : Int) (bM0 : ByteArray) (bM1 : ByteArray) (bh5 : List (G6)) (bh6 : List ByteArray) : Option (Bool) := if r0 = R8 then (if D2 = Y1 then (if (R1.toList == b02.toList && (V1.toList == b03.toList)) = true then (if Y2 = bL9 then ((ap8.f k X7 X8 R3 R4 bM0 bM1 bh5 bh6).bind fun t103 => (some t103)) else (some false)) else (some false)) else (some false)) else (some false)
set_option maxHeartbeats 8000000 in
set_option maxRecDepth 100000 in
theorem aa2.calls (k : Nat) (r0 : Int) (D2 : Int) (R1 : ByteArray) (V1 : ByteArray) (Y2 : Int) (X7 : ByteArray) (X8 : ByteArray) (a96 : Option Addr) (a97 : Nat) (R3 : List (G6)) (a98 : Option Addr) (a99 : Nat) (R4 : List ByteArray) (R8 : Int) (Y1 : Int) (b02 : ByteArray) (b03 : ByteArray) (bL9 : Int) (bM0 : ByteArray) (bM1 : ByteArray) (ca2 : Option Addr) (ca3 : Nat) (bh5 : List (G6)) (ca4 : Option Addr) (ca5 : Nat) (bh6 : List ByteArray) (r : Bool) (w : World) (a17 : Kd.C k32 w a96 R3.length R3) (a18 : R3.length ≤ a97) (a19 : Kd.C Kd.string w a98 R4.length R4) (a22 : R4.length ≤ a99) (bW9 : Kd.C k32 w ca2 bh5.length bh5) (bX0 : bh5.length ≤ ca3) (bX1 : Kd.C Kd.string w ca4 bh6.length bh6) (bX2 : bh6.length ≤ ca5) (h : aa2.f k r0 D2 R1 V1 Y2 X7 X8 R3 R4 R8 Y1 b02 b03 bL9 bM0 bM1 bh5 bh6 = some r) :
  Calls Tryz.prog 16 #[.agg #[.int .i64 r0, .int .i64 D2, .string R1, .string V1, .int .i64 Y2, .string X7, .string X8, .slice a96 R3.length a97, .slice a98 R4.length a99], .agg #[.int .i64 R8, .int .i64 Y1, .string b02, .string b03, .int .i64 bL9, .string bM0, .string bM1, .slice ca2 bh5.length ca3, .slice ca4 bh6.length ca5]] w fun e w' => e = .returned (.bool r) ∧ Below w.heap.size w w' := by
 have by1 := Tryz.underlying37
 have as2 := Tryz.underlying32
 have aV0 := Tryz.underlying35
 have ar4 := j4.mk a17
 have ar5 := j4.mk a18
 clear a17 a18
 have ar6 := j4.mk a19
 have ar7 := j4.mk a22
 clear a19 a22
 have e05 := j4.mk bW9
 have e06 := j4.mk bX0
 clear bW9 bX0
 have e07 := j4.mk bX1
 have e08 := j4.mk bX2
 clear bX1 bX2
 have HB := j4.mk (Below.refl w.heap.size w)
 have H := h
 clear h
 unfold aa2.f at H
 replace H := F6 H; rcases H with ⟨aD1, aZ5, H⟩ | ⟨aD1, aZ5, H⟩
 ·replace H := F6 H; rcases H with ⟨aD2, bT9, H⟩ | ⟨aD2, bT9, H⟩
  ·replace H := aY5 H; rcases H with ⟨c5, H⟩ | ⟨c5, H⟩
   ·have ap1 : (R1.toList == b02.toList && (V1.toList == b03.toList)) = true := c5
    (try (have bc3 : decide (R1.toList = b02.toList && (V1.toList == b03.toList)) = true := by simpa using c5))
    (try (have cM8 : (R1.toList == b02.toList && (V1.toList == b03.toList)) = true := by simpa using c5))
    clear c5
    replace H := F6 H; rcases H with ⟨am1, aZ8, H⟩ | ⟨am1, aZ8, H⟩
    ·replace H := S2 H; obtain ⟨t103, A7, H⟩ := H
     obtain rfl := Option.some.inj H
     go_enter Tryz.func16, Tryz.ntmps16
     go_wp2_with (first | ((with_reducible refine l9 (N := 2) rfl ?_); refine bx (cs := #[.int .i64 r0, .int .i64 D2, .string R1, .string V1, .int .i64 Y2, .string X7, .string X8, .slice a96 R3.length a97, .slice a98 R4.length a99]) (t := 37) ?_; intro j8 hg w8 o8 hb; have j5 := j4.mk (o8); have L8 := gS hg; have J7 := gS hg; replace HB := bS hb; clear hb o8 hg) | ((with_reducible refine l9 (N := 3) rfl ?_); refine bx (cs := #[.int .i64 R8, .int .i64 Y1, .string b02, .string b03, .int .i64 bL9, .string bM0, .string bM1, .slice ca2 bh5.length ca3, .slice ca4 bh6.length ca5]) (t := 37) ?_; intro o7 hg w9 o8 hb; have j7 := j4.mk (o8); have as7 := gS hg; have al6 := gS hg; have D1 := nS hg j5; have D3 := nG hg j5; replace j5 := kS j5 hb; replace HB := bS hb; clear hb o8 hg; have dd2 := D1.out; have dd3 := D3.out; have be4 := cz9 j5.out; have be5 := fz9 j5.out; have bC8 := cz9 j7.out; have bC9 := fz9 j7.out) | (go_at_call 44; refine (ap8.calls (w := _) (a90 := cB ar4) (aj7 := ar5.out) (a09 := cB ar6) (a10 := ar7.out) (bA5 := cB e05) (bA6 := e06.out) (bA7 := cB e07) (bA8 := e08.out) (h := A7.out)).mono ?_; rintro e w13 ⟨rfl, hb⟩; replace j5 := kS j5 hb; replace j7 := kS j7 hb; replace HB := bS hb; clear hb))
     go_ret
     exact ⟨zr, zB⟩
    ·obtain rfl := Option.some.inj H
     go_enter Tryz.func16, Tryz.ntmps16
     go_wp2_with (first | ((with_reducible refine l9 (N := 2) rfl ?_); refine bx (cs := #[.int .i64 r0, .int .i64 D2, .string R1, .string V1, .int .i64 Y2, .string X7, .string X8, .slice a96 R3.length a97, .slice a98 R4.length a99]) (t := 37) ?_; intro j8 hg w14 o8 hb; have j5 := j4.mk (o8); have L8 := gS hg; have J7 := gS hg; replace HB := bS hb; clear hb o8 hg) | ((with_reducible refine l9 (N := 3) rfl ?_); refine bx (cs := #[.int .i64 R8, .int .i64 Y1, .string b02, .string b03, .int .i64 bL9, .string bM0, .string bM1, .slice ca2 bh5.length ca3, .slice ca4 bh6.length ca5]) (t := 37) ?_; intro o7 hg w15 o8 hb; have j7 := j4.mk (o8); have as7 := gS hg; have al6 := gS hg; have D1 := nS hg j5; have D3 := nG hg j5; replace j5 := kS j5 hb; replace HB := bS hb; clear hb o8 hg; have cE1 := D1.out; have cE2 := D3.out; have dl8 := cz9 j5.out; have dl9 := fz9 j5.out; have cO8 := cz9 j7.out; have cO9 := fz9 j7.out))
     go_ret
     exact ⟨zr, zB⟩
   ·have ap1 : (R1.toList == b02.toList && (V1.toList == b03.toList)) = false := by simpa using c5
    (try (have bc3 : decide (R1.toList = b02.toList && (V1.toList == b03.toList)) = false := by simpa using c5))
    (try (have cM8 : (R1.toList == b02.toList && (V1.toList == b03.toList)) = false := by simpa using c5))
    (try (have eh5 : ¬ (R1.toList = b02.toList && (V1.toList == b03.toList)) := by simpa using c5))
    clear c5
    obtain rfl := Option.some.inj H
    go_enter Tryz.func16, Tryz.ntmps16
    go_wp2_with (first | ((with_reducible refine l9 (N := 2) rfl ?_); refine bx (cs := #[.int .i64 r0, .int .i64 D2, .string R1, .string V1, .int .i64 Y2, .string X7, .string X8, .slice a96 R3.length a97, .slice a98 R4.length a99]) (t := 37) ?_; intro j8 hg w19 o8 hb; have j5 := j4.mk (o8); have L8 := gS hg; have J7 := gS hg; replace HB := bS hb; clear hb o8 hg) | ((with_reducible refine l9 (N := 3) rfl ?_); refine bx (cs := #[.int .i64 R8, .int .i64 Y1, .string b02, .string b03, .int .i64 bL9, .string bM0, .string bM1, .slice ca2 bh5.length ca3, .slice ca4 bh6.length ca5]) (t := 37) ?_; intro o7 hg w20 o8 hb; have j7 := j4.mk (o8); have as7 := gS hg; have al6 := gS hg; have D1 := nS hg j5; have D3 := nG hg j5; replace j5 := kS j5 hb; replace HB := bS hb; clear hb o8 hg; have cd2 := D1.out; have cd3 := D3.out; have cM3 := cz9 j5.out; have cM4 := fz9 j5.out; have bO9 := cz9 j7.out; have bP0 := fz9 j7.out))
    go_ret
    exact ⟨zr, zB⟩
  ·obtain rfl := Option.some.inj H
   go_enter Tryz.func16, Tryz.ntmps16
   go_wp2_with (first | ((with_reducible refine l9 (N := 2) rfl ?_); refine bx (cs := #[.int .i64 r0, .int .i64 D2, .string R1, .string V1, .int .i64 Y2, .string X7, .string X8, .slice a96 R3.length a97, .slice a98 R4.length a99]) (t := 37) ?_; intro j8 hg w24 o8 hb; have j5 := j4.mk (o8); have L8 := gS hg; have J7 := gS hg; replace HB := bS hb; clear hb o8 hg) | ((with_reducible refine l9 (N := 3) rfl ?_); refine bx (cs := #[.int .i64 R8, .int .i64 Y1, .string b02, .string b03, .int .i64 bL9, .string bM0, .string bM1, .slice ca2 bh5.length ca3, .slice ca4 bh6.length ca5]) (t := 37) ?_; intro o7 hg w25 o8 hb; have j7 := j4.mk (o8); have as7 := gS hg; have al6 := gS hg; have D1 := nS hg j5; have D3 := nG hg j5; replace j5 := kS j5 hb; replace HB := bS hb; clear hb o8 hg; have cG4 := D1.out; have cG5 := D3.out; have bq2 := cz9 j5.out; have bq3 := fz9 j5.out; have cK0 := cz9 j7.out; have cK1 := fz9 j7.out))
   go_ret
   exact ⟨zr, zB⟩
 ·obtain rfl := Option.some.inj H
  go_enter Tryz.func16, Tryz.ntmps16
  go_wp2_with (first | ((with_reducible refine l9 (N := 2) rfl ?_); refine bx (cs := #[.int .i64 r0, .int .i64 D2, .string R1, .string V1, .int .i64 Y2, .string X7, .string X8, .slice a96 R3.length a97, .slice a98 R4.length a99]) (t := 37) ?_; intro j8 hg w29 o8 hb; have j5 := j4.mk (o8); have L8 := gS hg; have J7 := gS hg; replace HB := bS hb; clear hb o8 hg) | ((with_reducible refine l9 (N := 3) rfl ?_); refine bx (cs := #[.int .i64 R8, .int .i64 Y1, .string b02, .string b03, .int .i64 bL9, .string bM0, .string bM1, .slice ca2 bh5.length ca3, .slice ca4 bh6.length ca5]) (t := 37) ?_; intro o7 hg w30 o8 hb; have j7 := j4.mk (o8); have as7 := gS hg; have al6 := gS hg; have D1 := nS hg j5; have D3 := nG hg j5; replace j5 := kS j5 hb; replace HB := bS hb; clear hb o8 hg; have cd7 := D1.out; have cd8 := D3.out; have bD2 := cz9 j5.out; have bD3 := fz9 j5.out; have bT7 := cz9 j7.out; have bT8 := fz9 j7.out))
  go_ret
  exact ⟨zr, zB⟩
end Go.Proofs.YtbncnjgflhoneaaGreatDoor.F
namespace Go.Proofs.YtbncnjgflhoneaaGreatDoor.Hand
open Go.RowKit Go.Proofs.YtbncnjgflhoneaaGreatDoor.F Go.Proofs.YtbncnjgflhoneaaGreatDoorW.l8 Go.Proofs.YtbncnjgflhoneaaGreatDoorW.s9 Go.Proofs.YtbncnjgflhoneaaGreatDoorW.y9
theorem ba5 (l : List G6) (hl : l.length ≤ 1000) : ∀ (d i : Nat), l.length = i + d → Ev (fun k => V2.l0 k l l (i : Int)) true
 | 0, i, hi => Ev.step (f := fun _ => some true) (fun k => by rw [V2.l0, if_neg (by omega)]) (Ev.now _)
 | d + 1, i, hi => by
  have w : wrap64 ((i : Int) + 1) = ((i + 1 : Nat) : Int) := by unfold wrap64; omega
  refine Ev.step (fun k => ?_) (ba5 l hl d (i + 1) (by omega))
  rw [V2.l0, if_pos (by omega), if_pos (by omega), if_pos (by omega), if_neg (by simp), w]
theorem ba6 (l : List ByteArray) (hl : l.length ≤ 1000) : ∀ (d i : Nat), l.length = i + d → Ev (fun k => X0.l0 k l l (i : Int)) true
 | 0, i, hi => Ev.step (f := fun _ => some true) (fun k => by rw [X0.l0, if_neg (by omega)]) (Ev.now _)
 | d + 1, i, hi => by
  have w : wrap64 ((i : Int) + 1) = ((i + 1 : Nat) : Int) := by unfold wrap64; omega
  refine Ev.step (fun k => ?_) (ba6 l hl d (i + 1) (by omega))
  rw [X0.l0, if_pos (by omega), if_pos (by omega), if_pos (by omega), if_pos rfl, w]
theorem bX3 (kind id : Int) (au ad : ByteArray) (now : Int) (u d : ByteArray) (ts : List G6) (body : List ByteArray) (ht : ts.length ≤ 1000) (hb : body.length ≤ 1000) :
  Ev (fun k => aa2.f k kind id au ad now u d ts body kind id au ad now u d ts body) true := by
 have h1 : Ev (fun k => V2.f k ts ts) true := Ev.congr (fun k => if_pos rfl) (ba5 ts ht ts.length 0 (by omega))
 have h2 : Ev (fun k => X0.f k body body) true := Ev.congr (fun k => if_pos rfl) (ba6 body hb body.length 0 (by omega))
 have h3 : Ev (fun k => ap8.f k u d ts body u d ts body) true := Ev.congr (fun k => if_pos (by simp)) (Ev.call h1 (fun k => if_pos rfl) (Ev.bind h2 (Ev.now _)))
 refine Ev.congr (f := fun k => (ap8.f k u d ts body u d ts body).bind fun t => some t) (fun k => ?_) (Ev.bind h3 (Ev.now _))
 unfold aa2.f
 rw [if_pos rfl, if_pos rfl, if_pos (by simp), if_pos rfl]
theorem aT6 {u d : ByteArray} (h : (a43 u d || U9 u d) = true) : u.size ≤ 40 ∧ d.size ≤ 40 := by
 cases hn : a43 u d
 ·rw [hn, Bool.false_or] at h
  unfold U9 at h
  rw [Bool.and_eq_true] at h
  have := bu8 h.1
  have := bE6 h.2
  omega
 ·obtain ⟨rfl, rfl⟩ := ap6 hn
  simp [D8]
theorem ca6 {kind id : Int} {au ad : ByteArray} {now : Int} {u d : ByteArray} {ts : List G6} {body : List ByteArray} (h : ap4 kind id au ad now u d ts body = true) : bv2 au ad u d ts body ∧ ts.length ≤ 4 ∧ body.length ≤ 12 := by
 have bare : aD7 u d ts body = true → U9 au ad = true → bv2 au ad u d ts body ∧ ts.length ≤ 4 ∧ body.length ≤ 12 := fun hb ha => by
  obtain ⟨rfl, rfl, rfl, rfl⟩ := au6 hb
  have := aT6 (u := au) (d := ad) (by rw [ha, Bool.or_true])
  exact ⟨⟨al4, by omega, by omega⟩, by simp, by simp⟩
 rcases au5 h with ⟨_, hm, _, _, _, hn⟩ | ⟨_, hb, _, _, ha, _⟩ | ⟨_, hb, _, _, ha, _⟩
 ·obtain ⟨h1, h2, h3, _, h5⟩ := al3 hm
  obtain ⟨b1, b2, _⟩ := ag6 h5
  have a1 := aT6 h1
  have a2 := aT6 (u := au) (d := ad) (by rw [hn, Bool.true_or])
  refine ⟨⟨⟨by omega, by omega, fun a ha => ?_, fun s hs => ?_, by omega, by omega⟩, by omega, by omega⟩, h2.2, b1⟩
  ·have := aT6 (u := a.f0) (d := a.f1) (by rw [h3 a ha, Bool.or_true])
   exact ⟨by omega, by omega⟩
  ·have := b2 s hs
   omega
 ·exact bare hb ha
 ·exact bare hb ha
theorem bX4 {kind id : Int} {au ad : ByteArray} {now : Int} {u d : ByteArray} {ts : List G6} {body : List ByteArray} (h : ap4 kind id au ad now u d ts body = true) : (aj8 kind id au ad now u d ts body).length ≤ 30000 := by
 unfold aj8
 rcases au5 h with ⟨rfl, hm, n0, n9, _, _⟩ | ⟨rfl, hb, i1, i9, ha, _⟩ | ⟨rfl, hb, i1, i9, ha, n0, n9⟩
 ·rw [if_pos rfl]
  have := at4 now n0 n9
  have := aX5 hm
  simp only [List.length_append, List.length_cons, List.length_nil]
  omega
 ·rw [if_neg (by decide), if_pos rfl]
  have := at4 id (by omega) (by omega)
  have := av9 (u := au) (d := ad) (by rw [ha, Bool.or_true])
  simp only [List.length_append, List.length_cons, List.length_nil]
  omega
 ·rw [if_neg (by decide), if_neg (by decide)]
  have := at4 id (by omega) (by omega)
  have := at4 now n0 n9
  have := av9 (u := au) (d := ad) (by rw [ha, Bool.or_true])
  simp only [List.length_append, List.length_cons, List.length_nil]
  omega
theorem ca7 (kind id : Int) (au ad : ByteArray) (now : Int) (u d : ByteArray) (ts : List G6) (body : List ByteArray) : (bK3 kind id au ad now u d ts body).size ≤ 30000 := by
 unfold bK3
 split
 ·rename_i h
  rw [D8]
  exact bX4 h
 ·decide
end Go.Proofs.YtbncnjgflhoneaaGreatDoor.Hand
