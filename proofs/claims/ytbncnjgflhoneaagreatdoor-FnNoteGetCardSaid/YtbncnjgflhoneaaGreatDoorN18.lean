/- Of this claim, merged by program: F86, Q10, F85, Q11. -/
import Derived.Test.YtbncnjgflhoneaaGreatDoorN02
import Derived.Test.YtbncnjgflhoneaaGreatDoorN12
import Derived.Test.YtbncnjgflhoneaaGreatDoorN13
import Derived.Test.YtbncnjgflhoneaaGreatDoorN14
import Derived.Test.YtbncnjgflhoneaaGreatDoorN16
import Derived.Test.YtbncnjgflhoneaaGreatDoorN17
set_option linter.unusedVariables false
set_option linter.unusedSimpArgs false
namespace Go.Proofs.YtbncnjgflhoneaaGreatDoor.F
open Go.RowKit Go.Proofs.YtbncnjgflhoneaaGreatDoor.Hand Go.Proofs.YtbncnjgflhoneaaGreatDoorW.l8 Go.Proofs.YtbncnjgflhoneaaGreatDoorW.s9 Go.Proofs.YtbncnjgflhoneaaGreatDoorW.y9
def a86.f (k : Nat) (a0 : ByteArray) : Option (ByteArray × ByteArray × (List (G6)) × List ByteArray × Bool) := if (a0.size : Int) > 800 then (some ((⟨#[]⟩ : ByteArray), (⟨#[]⟩ : ByteArray), ([] : List (G6)), ([] : List ByteArray), false)) else ((C9.f k a0).bind fun D9 => (if D9.2.2.2.2 = 0 then (some ((⟨#[]⟩ : ByteArray), (⟨#[]⟩ : ByteArray), ([] : List (G6)), ([] : List ByteArray), false)) else (if 0 ≤ D9.2.2.2.2 then (if D9.2.2.2.2 ≤ (a0.size : Int) then ((K9.f k (a0.extract (D9.2.2.2.2 : Int).toNat a0.size)).bind fun ar8 => (if ar8.2 = true then ((K7.f k D9.1 D9.2.1 D9.2.2.1 ar8.1).bind fun t116 => (if t116 = true then ((R5.f k D9.1 D9.2.1 D9.2.2.1 ar8.1).bind fun t117 => (if t117.toList = a0.toList then (some (D9.1, D9.2.1, D9.2.2.1, ar8.1, true)) else (some ((⟨#[]⟩ : ByteArray), (⟨#[]⟩ : ByteArray), ([] : List (G6)), ([] : List ByteArray), false)))) else (some ((⟨#[]⟩ : ByteArray), (⟨#[]⟩ : ByteArray), ([] : List (G6)), ([] : List ByteArray), false)))) else (some ((⟨#[]⟩ : ByteArray), (⟨#[]⟩ : ByteArray), ([] : List (G6)), ([] : List ByteArray), false)))) else (none)) else (none))))
set_option maxHeartbeats 8000000 in
set_option maxRecDepth 100000 in
theorem a86.calls (k : Nat) (a0 : ByteArray) (r1 : ByteArray) (r2 : ByteArray) (r3 : List (G6)) (r4 : List ByteArray) (r5 : Bool) (w : World) (h : a86.f k a0 = some (r1, r2, r3, r4, r5)) :
  Calls Tryz.prog 86 #[.string a0] w fun e w' => ∃ v2_ v3_ : Value, e = .returned (.tuple #[.agg #[.string r1, .string r2, v2_, v3_], .bool r5]) ∧ Kd.R k32 32 w' w.heap.size (fun _ => True) v2_ r3 ∧ Kd.R Kd.string 9 w' w.heap.size (fun _ => True) v3_ r4 ∧ Below w.heap.size w w' := by
 have aV0 := Tryz.underlying35
 have HB := j4.mk (Below.refl w.heap.size w)
 have H := h
 clear h
 unfold a86.f at H
 replace H := a29 H; rcases H with ⟨c2, ak5, H⟩ | ⟨c2, ak5, H⟩
 ·have aJ6 : decide (800 < a0.size) = true := decide_eq_true (by omega)
  clear c2
  simp only [Option.some.injEq, Prod.mk.injEq] at H
  obtain ⟨rfl, rfl, rfl, rfl, rfl⟩ := H
  go_enter Tryz.func86, Tryz.ntmps86
  go_wp2_with (first | ((with_reducible refine l9 (N := 2) rfl ?_); refine bx (cs := #[.string ⟨#[]⟩, .string ⟨#[]⟩, .slice none 0 0, .slice none 0 0]) (t := 35) ?_; intro j8 hg w3 o8 hb; have j5 := j4.mk (o8); have L8 := gS hg; have J7 := gS hg; replace HB := bS hb; clear hb o8 hg; have bY8 := cz4 j5.out; have bY9 := fz4 j5.out))
  refine bodyPost_ret (I2 rfl _ _ j8 35 #[.string (⟨#[]⟩ : ByteArray), .string (⟨#[]⟩ : ByteArray), .slice none 0 0, .slice none 0 0] (0, 0) _ rfl (kQ j5) Tryz.underlying35 rfl z2_) rfl ?_
  exact ⟨_, _, zr, zn, zn, zB⟩
 ·have aJ6 : decide (800 < a0.size) = false := decide_eq_false (by omega)
  clear c2
  replace H := S2 H; obtain ⟨⟨t102, t103, t104, t107, t110⟩, A5, H⟩ := H
  dsimp only at H
  replace H := F6 H; rcases H with ⟨am1, aZ8, H⟩ | ⟨am1, aZ8, H⟩
  ·simp only [Option.some.injEq, Prod.mk.injEq] at H
   obtain ⟨rfl, rfl, rfl, rfl, rfl⟩ := H
   go_enter Tryz.func86, Tryz.ntmps86
   go_wp2_with (first | ((with_reducible refine l9 (N := 2) rfl ?_); refine bx (cs := #[.string ⟨#[]⟩, .string ⟨#[]⟩, .slice none 0 0, .slice none 0 0]) (t := 35) ?_; intro j8 hg w7 o8 hb; have j5 := j4.mk (o8); have L8 := gS hg; have J7 := gS hg; replace HB := bS hb; clear hb o8 hg) | ((with_reducible refine j6 (f := 127) rfl ?_); refine gl 14 Tryz.func127 _ ((C9.calls (w := _) (h := A5.out)).mono ?_); rintro e w8 ⟨v105, aV9, rfl, ho0, ho1, hb⟩; refine ⟨_, rfl, ?_⟩; have N0 := lS ho0; have y8 := lS ho1; replace j5 := kS j5 hb; replace HB := bS hb; clear hb ho0; (try clear ho1)) | ((with_reducible refine l9 (N := 4) rfl ?_); refine bx (cs := #[.string ⟨#[]⟩, .string ⟨#[]⟩, .slice none 0 0, .slice none 0 0]) (t := 35) ?_; intro aF6 hg w9 o8 hb; replace N0 := rS N0 hb; replace y8 := rS y8 hb; have M3 := j4.mk (o8); have bE0 := gS hg; have bE1 := gS hg; have ac9 := nS hg j5; have ad0 := nG hg j5; replace j5 := kS j5 hb; replace HB := bS hb; clear hb o8 hg; have dd2 := ad0.out; have dd3 := ac9.out; have be4 := cz4 M3.out; have be5 := fz4 M3.out; obtain ⟨bb6, b72, bx0⟩ := Kd.s7 N0.out; subst bx0; obtain ⟨c01, c02, bI3⟩ := Kd.s7 y8.out; subst bI3; have bD0 := cz4 j5.out; have bD1 := fz4 j5.out))
   refine bodyPost_ret (I2 rfl _ _ j8 35 #[.string (⟨#[]⟩ : ByteArray), .string (⟨#[]⟩ : ByteArray), .slice none 0 0, .slice none 0 0] (0, 0) _ rfl (kQ j5) Tryz.underlying35 rfl z2_) rfl ?_
   exact ⟨_, _, zr, zn, zn, zB⟩
  ·replace H := Q5 H; obtain ⟨aN7, b79, H⟩ := H
   replace H := Q5 H; obtain ⟨b21, b90, H⟩ := H
   replace H := S2 H; obtain ⟨⟨t112, t113⟩, A17, H⟩ := H
   dsimp only at H
   replace H := itb H; rcases H with ⟨rfl, H⟩ | ⟨rfl, H⟩
   ·replace H := S2 H; obtain ⟨t116, A19, H⟩ := H
    replace H := itb H; rcases H with ⟨rfl, H⟩ | ⟨rfl, H⟩
    ·replace H := S2 H; obtain ⟨t117, A21, H⟩ := H
     replace H := F6 H; rcases H with ⟨aT9, bs8, H⟩ | ⟨aT9, bs8, H⟩
     ·simp only [Option.some.injEq, Prod.mk.injEq] at H
      obtain ⟨rfl, rfl, rfl, rfl, rfl⟩ := H
      go_enter Tryz.func86, Tryz.ntmps86
      go_wp2_with (first | ((with_reducible refine l9 (N := 2) rfl ?_); refine bx (cs := #[.string ⟨#[]⟩, .string ⟨#[]⟩, .slice none 0 0, .slice none 0 0]) (t := 35) ?_; intro j8 hg w23 o8 hb; have j5 := j4.mk (o8); have L8 := gS hg; have J7 := gS hg; replace HB := bS hb; clear hb o8 hg) | ((with_reducible refine j6 (f := 127) rfl ?_); refine gl 14 Tryz.func127 _ ((C9.calls (w := _) (h := A5.out)).mono ?_); rintro e w24 ⟨v105, aV9, rfl, ho0, ho1, hb⟩; refine ⟨_, rfl, ?_⟩; have N0 := lS ho0; have y8 := lS ho1; replace j5 := kS j5 hb; replace HB := bS hb; clear hb ho0; (try clear ho1)) | ((with_reducible refine l9 (N := 4) rfl ?_); refine bx (cs := #[.string ⟨#[]⟩, .string ⟨#[]⟩, .slice none 0 0, .slice none 0 0]) (t := 35) ?_; intro aF6 hg w25 o8 hb; replace N0 := rS N0 hb; replace y8 := rS y8 hb; have M3 := j4.mk (o8); have bE0 := gS hg; have bE1 := gS hg; have ac9 := nS hg j5; have ad0 := nG hg j5; replace j5 := kS j5 hb; replace HB := bS hb; clear hb o8 hg; have cG4 := ad0.out; have cG5 := ac9.out; have bq2 := cz4 M3.out; have bq3 := fz4 M3.out; obtain ⟨c63, bV2, cQ0⟩ := Kd.s7 N0.out; subst cQ0; obtain ⟨dz9, dA0, dA1⟩ := Kd.s7 y8.out; subst dA1) | ((with_reducible refine j6 (f := 128) rfl ?_); refine gl 24 Tryz.func128 _ ((K9.calls (w := _) (h := A17.out)).mono ?_); rintro e w30 ⟨d07, rfl, ho0, hb⟩; refine ⟨_, rfl, ?_⟩; replace N0 := fS N0 M3 hb; have ad7 := j4.mk (Kd.T9 (Kd.as0 ho0 (Kd.aa3 (fO y8 M3))) (bZ)); replace y8 := j4.mk (Kd.ab6 (fO y8 M3) (Kd.J6 ho0) hb); replace j5 := kS j5 hb; replace M3 := kP (.cells #[.string t102, .string t103, .slice c63 t104.length bV2, .slice dz9 t107.length dA0] 35 (0, 0)) M3 hb; replace HB := bS hb; clear hb ho0; obtain ⟨d04, d05, dA2⟩ := Kd.s7 ad7.out; subst dA2; have bD2 := cz4 M3.out; have bD3 := fz4 M3.out) | (go_at_call 56; refine (K7.calls (w := _) (a90 := by refine (Kd.y7 (e := 32) (base := w.heap.size) (ok := fun k_ => True) (n := t104.length) (c := bV2) ?_).2.2; exact (fO N0 M3)) (aj7 := cL N0) (a09 := (Kd.y7 (fO ad7 M3)).2.2) (a10 := cL ad7) (h := A19.out)).mono ?_; rintro e w33 ⟨rfl, hb⟩; replace N0 := fS N0 M3 hb; replace y8 := fS y8 M3 hb; replace ad7 := fS ad7 M3 hb; replace j5 := kS j5 hb; replace M3 := kP (.cells #[.string t102, .string t103, .slice c63 t104.length bV2, .slice d04 t112.length d05] 35 (0, 0)) M3 hb; replace HB := bS hb; clear hb; have ci1 := cz4 M3.out; have ci2 := fz4 M3.out) | (go_at_call 60; refine (R5.calls (w := _) (a90 := rC N0) (aj7 := cL N0) (a09 := rC ad7) (a10 := cL ad7) (h := A21.out)).mono ?_; rintro e w35 ⟨rfl, hb⟩; replace N0 := rS N0 hb; replace y8 := rS y8 hb; replace ad7 := rS ad7 hb; replace j5 := kS j5 hb; replace M3 := kS M3 hb; replace HB := bS hb; clear hb; have cP0 := cz4 M3.out; have cP1 := fz4 M3.out; have bB9 := cz4 j5.out; have bC0 := fz4 j5.out))
      refine bodyPost_ret (I2 rfl _ _ j8 35 #[.string t102, .string t103, .slice c63 t104.length bV2, .slice d04 t112.length d05] (0, 0) _ rfl (kQ j5) Tryz.underlying35 rfl z2_) rfl ?_
      exact ⟨_, _, zr, fM N0 j5 (fun _ hk => trivial), fM ad7 j5 (fun _ hk => trivial), zB⟩
     ·simp only [Option.some.injEq, Prod.mk.injEq] at H
      obtain ⟨rfl, rfl, rfl, rfl, rfl⟩ := H
      go_enter Tryz.func86, Tryz.ntmps86
      go_wp2_with (first | ((with_reducible refine l9 (N := 2) rfl ?_); refine bx (cs := #[.string ⟨#[]⟩, .string ⟨#[]⟩, .slice none 0 0, .slice none 0 0]) (t := 35) ?_; intro j8 hg w38 o8 hb; have j5 := j4.mk (o8); have L8 := gS hg; have J7 := gS hg; replace HB := bS hb; clear hb o8 hg) | ((with_reducible refine j6 (f := 127) rfl ?_); refine gl 14 Tryz.func127 _ ((C9.calls (w := _) (h := A5.out)).mono ?_); rintro e w39 ⟨v105, aV9, rfl, ho0, ho1, hb⟩; refine ⟨_, rfl, ?_⟩; have N0 := lS ho0; have y8 := lS ho1; replace j5 := kS j5 hb; replace HB := bS hb; clear hb ho0; (try clear ho1)) | ((with_reducible refine l9 (N := 4) rfl ?_); refine bx (cs := #[.string ⟨#[]⟩, .string ⟨#[]⟩, .slice none 0 0, .slice none 0 0]) (t := 35) ?_; intro aF6 hg w40 o8 hb; replace N0 := rS N0 hb; replace y8 := rS y8 hb; have M3 := j4.mk (o8); have bE0 := gS hg; have bE1 := gS hg; have ac9 := nS hg j5; have ad0 := nG hg j5; replace j5 := kS j5 hb; replace HB := bS hb; clear hb o8 hg; have dJ5 := ad0.out; have dJ6 := ac9.out; have cM5 := cz4 M3.out; have cM6 := fz4 M3.out; obtain ⟨dW7, cX6, cX7⟩ := Kd.s7 N0.out; subst cX7; obtain ⟨ej3, ej4, ej5⟩ := Kd.s7 y8.out; subst ej5) | ((with_reducible refine j6 (f := 128) rfl ?_); refine gl 24 Tryz.func128 _ ((K9.calls (w := _) (h := A17.out)).mono ?_); rintro e w45 ⟨d07, rfl, ho0, hb⟩; refine ⟨_, rfl, ?_⟩; replace N0 := fS N0 M3 hb; have ad7 := j4.mk (Kd.T9 (Kd.as0 ho0 (Kd.aa3 (fO y8 M3))) (bZ)); replace y8 := j4.mk (Kd.ab6 (fO y8 M3) (Kd.J6 ho0) hb); replace j5 := kS j5 hb; replace M3 := kP (.cells #[.string t102, .string t103, .slice dW7 t104.length cX6, .slice ej3 t107.length ej4] 35 (0, 0)) M3 hb; replace HB := bS hb; clear hb ho0; obtain ⟨dG8, dG9, dr7⟩ := Kd.s7 ad7.out; subst dr7; have ci3 := cz4 M3.out; have ci4 := fz4 M3.out) | (go_at_call 56; refine (K7.calls (w := _) (a90 := by refine (Kd.y7 (e := 32) (base := w.heap.size) (ok := fun k_ => True) (n := t104.length) (c := cX6) ?_).2.2; exact (fO N0 M3)) (aj7 := cL N0) (a09 := (Kd.y7 (fO ad7 M3)).2.2) (a10 := cL ad7) (h := A19.out)).mono ?_; rintro e w48 ⟨rfl, hb⟩; replace N0 := fS N0 M3 hb; replace y8 := fS y8 M3 hb; replace ad7 := fS ad7 M3 hb; replace j5 := kS j5 hb; replace M3 := kP (.cells #[.string t102, .string t103, .slice dW7 t104.length cX6, .slice dG8 t112.length dG9] 35 (0, 0)) M3 hb; replace HB := bS hb; clear hb; have de4 := cz4 M3.out; have de5 := fz4 M3.out) | (go_at_call 60; refine (R5.calls (w := _) (a90 := rC N0) (aj7 := cL N0) (a09 := rC ad7) (a10 := cL ad7) (h := A21.out)).mono ?_; rintro e w50 ⟨rfl, hb⟩; replace N0 := rS N0 hb; replace y8 := rS y8 hb; replace ad7 := rS ad7 hb; replace j5 := kS j5 hb; replace M3 := kS M3 hb; replace HB := bS hb; clear hb; have dg6 := cz4 j5.out; have dg7 := fz4 j5.out))
      refine bodyPost_ret (I2 rfl _ _ j8 35 #[.string (⟨#[]⟩ : ByteArray), .string (⟨#[]⟩ : ByteArray), .slice none 0 0, .slice none 0 0] (0, 0) _ rfl (kQ j5) Tryz.underlying35 rfl z2_) rfl ?_
      exact ⟨_, _, zr, zn, zn, zB⟩
    ·simp only [Option.some.injEq, Prod.mk.injEq] at H
     obtain ⟨rfl, rfl, rfl, rfl, rfl⟩ := H
     go_enter Tryz.func86, Tryz.ntmps86
     go_wp2_with (first | ((with_reducible refine l9 (N := 2) rfl ?_); refine bx (cs := #[.string ⟨#[]⟩, .string ⟨#[]⟩, .slice none 0 0, .slice none 0 0]) (t := 35) ?_; intro j8 hg w52 o8 hb; have j5 := j4.mk (o8); have L8 := gS hg; have J7 := gS hg; replace HB := bS hb; clear hb o8 hg) | ((with_reducible refine j6 (f := 127) rfl ?_); refine gl 14 Tryz.func127 _ ((C9.calls (w := _) (h := A5.out)).mono ?_); rintro e w53 ⟨v105, aV9, rfl, ho0, ho1, hb⟩; refine ⟨_, rfl, ?_⟩; have N0 := lS ho0; have y8 := lS ho1; replace j5 := kS j5 hb; replace HB := bS hb; clear hb ho0; (try clear ho1)) | ((with_reducible refine l9 (N := 4) rfl ?_); refine bx (cs := #[.string ⟨#[]⟩, .string ⟨#[]⟩, .slice none 0 0, .slice none 0 0]) (t := 35) ?_; intro aF6 hg w54 o8 hb; replace N0 := rS N0 hb; replace y8 := rS y8 hb; have M3 := j4.mk (o8); have bE0 := gS hg; have bE1 := gS hg; have ac9 := nS hg j5; have ad0 := nG hg j5; replace j5 := kS j5 hb; replace HB := bS hb; clear hb o8 hg; have dk9 := ad0.out; have dl0 := ac9.out; have ch3 := cz4 M3.out; have ch4 := fz4 M3.out; obtain ⟨cK6, c36, cK7⟩ := Kd.s7 N0.out; subst cK7; obtain ⟨ej6, ej7, ej8⟩ := Kd.s7 y8.out; subst ej8) | ((with_reducible refine j6 (f := 128) rfl ?_); refine gl 24 Tryz.func128 _ ((K9.calls (w := _) (h := A17.out)).mono ?_); rintro e w59 ⟨d07, rfl, ho0, hb⟩; refine ⟨_, rfl, ?_⟩; replace N0 := fS N0 M3 hb; have ad7 := j4.mk (Kd.T9 (Kd.as0 ho0 (Kd.aa3 (fO y8 M3))) (bZ)); replace y8 := j4.mk (Kd.ab6 (fO y8 M3) (Kd.J6 ho0) hb); replace j5 := kS j5 hb; replace M3 := kP (.cells #[.string t102, .string t103, .slice cK6 t104.length c36, .slice ej6 t107.length ej7] 35 (0, 0)) M3 hb; replace HB := bS hb; clear hb ho0; obtain ⟨d06, cQ5, cQ6⟩ := Kd.s7 ad7.out; subst cQ6; have dR1 := cz4 M3.out; have dR2 := fz4 M3.out) | (go_at_call 56; refine (K7.calls (w := _) (a90 := by refine (Kd.y7 (e := 32) (base := w.heap.size) (ok := fun k_ => True) (n := t104.length) (c := c36) ?_).2.2; exact (fO N0 M3)) (aj7 := cL N0) (a09 := (Kd.y7 (fO ad7 M3)).2.2) (a10 := cL ad7) (h := A19.out)).mono ?_; rintro e w62 ⟨rfl, hb⟩; replace N0 := fS N0 M3 hb; replace y8 := fS y8 M3 hb; replace ad7 := fS ad7 M3 hb; replace j5 := kS j5 hb; replace M3 := kP (.cells #[.string t102, .string t103, .slice cK6 t104.length c36, .slice d06 t112.length cQ5] 35 (0, 0)) M3 hb; replace HB := bS hb; clear hb; have dW8 := cz4 j5.out; have dW9 := fz4 j5.out))
     refine bodyPost_ret (I2 rfl _ _ j8 35 #[.string (⟨#[]⟩ : ByteArray), .string (⟨#[]⟩ : ByteArray), .slice none 0 0, .slice none 0 0] (0, 0) _ rfl (kQ j5) Tryz.underlying35 rfl z2_) rfl ?_
     exact ⟨_, _, zr, zn, zn, zB⟩
   ·simp only [Option.some.injEq, Prod.mk.injEq] at H
    obtain ⟨rfl, rfl, rfl, rfl, rfl⟩ := H
    go_enter Tryz.func86, Tryz.ntmps86
    go_wp2_with (first | ((with_reducible refine l9 (N := 2) rfl ?_); refine bx (cs := #[.string ⟨#[]⟩, .string ⟨#[]⟩, .slice none 0 0, .slice none 0 0]) (t := 35) ?_; intro j8 hg w64 o8 hb; have j5 := j4.mk (o8); have L8 := gS hg; have J7 := gS hg; replace HB := bS hb; clear hb o8 hg) | ((with_reducible refine j6 (f := 127) rfl ?_); refine gl 14 Tryz.func127 _ ((C9.calls (w := _) (h := A5.out)).mono ?_); rintro e w65 ⟨v105, aV9, rfl, ho0, ho1, hb⟩; refine ⟨_, rfl, ?_⟩; have N0 := lS ho0; have y8 := lS ho1; replace j5 := kS j5 hb; replace HB := bS hb; clear hb ho0; (try clear ho1)) | ((with_reducible refine l9 (N := 4) rfl ?_); refine bx (cs := #[.string ⟨#[]⟩, .string ⟨#[]⟩, .slice none 0 0, .slice none 0 0]) (t := 35) ?_; intro aF6 hg w66 o8 hb; replace N0 := rS N0 hb; replace y8 := rS y8 hb; have M3 := j4.mk (o8); have bE0 := gS hg; have bE1 := gS hg; have ac9 := nS hg j5; have ad0 := nG hg j5; replace j5 := kS j5 hb; replace HB := bS hb; clear hb o8 hg; have cI0 := ad0.out; have cI1 := ac9.out; have dX0 := cz4 M3.out; have dX1 := fz4 M3.out; obtain ⟨dX2, dX3, dB0⟩ := Kd.s7 N0.out; subst dB0; obtain ⟨a83, a65, c23⟩ := Kd.s7 y8.out; subst c23) | ((with_reducible refine j6 (f := 128) rfl ?_); refine gl 24 Tryz.func128 _ ((K9.calls (w := _) (h := A17.out)).mono ?_); rintro e w71 ⟨d07, rfl, ho0, hb⟩; refine ⟨_, rfl, ?_⟩; replace N0 := fS N0 M3 hb; have ad7 := j4.mk (Kd.T9 (Kd.as0 ho0 (Kd.aa3 (fO y8 M3))) (bZ)); replace y8 := j4.mk (Kd.ab6 (fO y8 M3) (Kd.J6 ho0) hb); replace j5 := kS j5 hb; replace M3 := kP (.cells #[.string t102, .string t103, .slice dX2 t104.length dX3, .slice a83 t107.length a65] 35 (0, 0)) M3 hb; replace HB := bS hb; clear hb ho0; obtain ⟨eK7, eK8, ej9⟩ := Kd.s7 ad7.out; subst ej9; have dj6 := cz4 M3.out; have dj7 := fz4 M3.out; have dj8 := cz4 j5.out; have dj9 := fz4 j5.out))
    refine bodyPost_ret (I2 rfl _ _ j8 35 #[.string (⟨#[]⟩ : ByteArray), .string (⟨#[]⟩ : ByteArray), .slice none 0 0, .slice none 0 0] (0, 0) _ rfl (kQ j5) Tryz.underlying35 rfl z2_) rfl ?_
    exact ⟨_, _, zr, zn, zn, zB⟩
end Go.Proofs.YtbncnjgflhoneaaGreatDoor.F
namespace Go.Proofs.YtbncnjgflhoneaaGreatDoor.Hand
open Go.RowKit Go.Proofs.YtbncnjgflhoneaaGreatDoor.F Go.Proofs.YtbncnjgflhoneaaGreatDoorW.l8 Go.Proofs.YtbncnjgflhoneaaGreatDoorW.s9 Go.Proofs.YtbncnjgflhoneaaGreatDoorW.y9
def aF7 : List (List UInt8) → Nat → Nat → ByteArray → ByteArray → List G6 → ByteArray × ByteArray × List G6 × Nat
 | [], _, _, u, d, ts => (u, d, ts, 0)
 | t :: r, i, n, u, d, ts =>
  if t = [] ∧ 1 < i then (u, d, ts, n + t.length + 2)
  else if i = 0 ∧ 5 < t.length ∧ t.take 5 = [102, 114, 111, 109, 32] then (if (ad5 (t.drop 5)).2.2 = true then aF7 r (i + 1) (n + t.length + 2) (ad5 (t.drop 5)).1 (ad5 (t.drop 5)).2.1 ts else (u, d, ts, 0))
  else if 0 < i ∧ 3 < t.length ∧ t.take 3 = [116, 111, 32] then (if (ad5 (t.drop 3)).2.2 = true then aF7 r (i + 1) (n + t.length + 2) u d (ts ++ [⟨(ad5 (t.drop 3)).1, (ad5 (t.drop 3)).2.1⟩]) else (u, d, ts, 0))
  else (u, d, ts, 0)
def d08 (q : ByteArray × ByteArray × List G6 × Nat) : ByteArray × ByteArray × List G6 × List ByteArray × Int := (q.1, q.2.1, q.2.2.1, [], (q.2.2.2 : Int))
theorem bL3 (t : List UInt8) (a : Nat) : (B t).extract a (B t).size = B (t.drop a) := by
 refine as9 ?_
 rw [Z0, M5, List.take_of_length_le (by rw [D8]; exact Nat.le_refl _)]
theorem bk2 (t : List UInt8) (a : Nat) : ((B t).extract 0 a).toList = t.take a := by
 rw [toL, Z0, M5, List.drop_zero]
theorem c74 (L : List (List UInt8)) (hL : L.length ≤ 801) (hLs : ∀ t ∈ L, t.length ≤ 800) : ∀ (e i n : Nat) (u d : ByteArray) (ts : List G6), L.length = i + e → n ≤ i * 1000 → ts.length ≤ i →
  Ev (fun k => C9.l0 k (L.map B) (n : Int) (i : Int) u d ts) (d08 (aF7 (L.drop i) i n u d ts)) := by
 have hml : (L.map B).length = L.length := List.length_map ..
 intro e
 induction e with
 | zero =>
  intro i n u d ts hi hn hts
  rw [List.drop_eq_nil_of_le (by omega)]
  refine Ev.step (f := fun _ => some (u, d, ts, [], 0)) (fun k => by rw [C9.l0, if_neg (by omega)]) (Ev.now _)
 | succ e ih =>
  intro i n u d ts hi hn hts
  have hlt : i < L.length := by omega
  have hlt' : i < (L.map B).length := by omega
  have hr : H9 ByteArray.empty (L.map B) (i : Int) = B L[i] := by rw [aI3 _ _ i hlt', List.getElem_map]
  have ht := hLs L[i] (List.getElem_mem hlt)
  have hsz : (B L[i]).size = L[i].length := D8 _
  rw [List.drop_eq_getElem_cons hlt, aF7]
  generalize L[i] = t at *
  have hw : wrap64 ((wrap64 ((n : Int) + ((B t).size : Int))) + 2) = ((n + t.length + 2 : Nat) : Int) := by
   rw [hsz, Y5 (x := (n : Int) + (t.length : Int)) (by omega) (by omega), Y5 (x := (n : Int) + (t.length : Int) + 2) (by omega) (by omega)]
   omega
  have hi1 : wrap64 ((i : Int) + 1) = ((i + 1 : Nat) : Int) := by rw [Y5 (by omega) (by omega)]; omega
  have stop : Ev (fun _ : Nat => (some (u, d, ts, ([] : List ByteArray), (0 : Int)) : Option (ByteArray × ByteArray × List G6 × List ByteArray × Int))) (d08 (u, d, ts, 0)) := Ev.now _
  by_cases hA : t = [] ∧ 1 < i
  ·rw [if_pos hA]
   refine Ev.step (f := fun k => C9.j1 k (L.map B) ((n + t.length + 2 : Nat) : Int) (i : Int) (B t) true u d ts) (fun k => by
    rw [C9.l0, if_pos (by omega), if_pos (by omega), hr, hw, ab7, if_pos hA.1, decide_eq_true (by omega)]) ?_
   exact Ev.step (f := fun _ => some (u, d, ts, [], ((n + t.length + 2 : Nat) : Int))) (fun k => by rw [C9.j1, if_pos rfl]) (Ev.now _)
  rw [if_neg hA]
  refine Ev.step (f := fun k => C9.j1 k (L.map B) ((n + t.length + 2 : Nat) : Int) (i : Int) (B t) false u d ts) (fun k => by
   rw [C9.l0, if_pos (by omega), if_pos (by omega), hr, hw, ab7]
   by_cases h0 : t = []
   ·rw [if_pos h0, decide_eq_false (fun h => hA ⟨h0, by omega⟩)]
   ·rw [if_neg h0]) ?_
  by_cases hB : i = 0 ∧ 5 < t.length ∧ t.take 5 = [102, 114, 111, 109, 32]
  ·rw [if_pos hB]
   obtain ⟨h0, h5, hp⟩ := hB
   refine Ev.step (f := fun k => C9.j2 k (L.map B) ((n + t.length + 2 : Nat) : Int) (i : Int) (B t) true u d ts) (fun k => by
    rw [C9.j1, if_neg (by decide), if_pos (by omega), hsz, if_pos (by omega), if_pos (by decide), if_pos (by omega), bk2, hp]
    rfl) ?_
   refine Ev.step (f := fun k => (D0.f k (B (t.drop 5))).bind fun aJ7 => (if aJ7.2.2 = true then (C9.l0 k (L.map B) ((n + t.length + 2 : Nat) : Int) ((i + 1 : Nat) : Int) aJ7.1 aJ7.2.1 ts) else (some (u, d, ts, ([] : List ByteArray), 0)))) (fun k => by
    rw [C9.j2, if_pos rfl, hi1, if_pos (by omega), bL3]) ?_
   have ha := ay9 (B (t.drop 5)) (by rw [D8, List.length_drop]; omega)
   rw [M5] at ha
   refine Ev.bind ha ?_
   by_cases hok : (ad5 (t.drop 5)).2.2 = true
   ·rw [if_pos hok]
    exact Ev.congr (fun k => if_pos hok) (ih (i + 1) (n + t.length + 2) _ _ ts (by omega) (by omega) (by omega))
   ·rw [if_neg hok]
    exact Ev.congr (fun k => if_neg hok) stop
  rw [if_neg hB]
  refine Ev.step (f := fun k => C9.j2 k (L.map B) ((n + t.length + 2 : Nat) : Int) (i : Int) (B t) false u d ts) (fun k => by
   rw [C9.j1, if_neg (by decide), hsz]
   by_cases h0 : i = 0
   ·rw [if_pos (by omega)]
    by_cases h5 : 5 < t.length
    ·rw [if_pos (by omega), if_pos (by decide), if_pos (by omega), bk2, show (t.take 5 == [102, 114, 111, 109, 32]) = false from beq_eq_false_iff_ne.2 (fun h => hB ⟨h0, h5, h⟩)]
    ·rw [if_neg (by omega)]
   ·rw [if_neg (by omega)]) ?_
  by_cases hC : 0 < i ∧ 3 < t.length ∧ t.take 3 = [116, 111, 32]
  ·rw [if_pos hC]
   obtain ⟨h0, h3, hp⟩ := hC
   refine Ev.step (f := fun k => C9.j3 k (L.map B) ((n + t.length + 2 : Nat) : Int) (i : Int) (B t) true u d ts) (fun k => by
    rw [C9.j2, if_neg (by decide), if_pos (by omega), hsz, if_pos (by omega), if_pos (by decide), if_pos (by omega), bk2, hp]
    rfl) ?_
   refine Ev.step (f := fun k => (D0.f k (B (t.drop 3))).bind fun ar8 => (if ar8.2.2 = true then (if ts.length < 4398046511104 then (C9.l0 k (L.map B) ((n + t.length + 2 : Nat) : Int) ((i + 1 : Nat) : Int) u d (ts ++ [(⟨ar8.1, ar8.2.1⟩ : G6)])) else (none)) else (some (u, d, ts, ([] : List ByteArray), 0)))) (fun k => by
    rw [C9.j3, if_pos rfl, hi1, if_pos (by omega), bL3]) ?_
   have ha := ay9 (B (t.drop 3)) (by rw [D8, List.length_drop]; omega)
   rw [M5] at ha
   refine Ev.bind ha ?_
   by_cases hok : (ad5 (t.drop 3)).2.2 = true
   ·rw [if_pos hok]
    exact Ev.congr (fun k => (if_pos hok).trans (if_pos (by omega))) (ih (i + 1) (n + t.length + 2) u d _ (by omega) (by omega) (by rw [List.length_append, List.length_singleton]; omega))
   ·rw [if_neg hok]
    exact Ev.congr (fun k => if_neg hok) stop
  rw [if_neg hC]
  refine Ev.step (f := fun k => C9.j3 k (L.map B) ((n + t.length + 2 : Nat) : Int) (i : Int) (B t) false u d ts) (fun k => by
   rw [C9.j2, if_neg (by decide), hsz]
   by_cases h0 : 0 < i
   ·rw [if_pos (by omega)]
    by_cases h3 : 3 < t.length
    ·rw [if_pos (by omega), if_pos (by decide), if_pos (by omega), bk2, show (t.take 3 == [116, 111, 32]) = false from beq_eq_false_iff_ne.2 (fun h => hC ⟨h0, h3, h⟩)]
    ·rw [if_neg (by omega)]
   ·rw [if_neg (by omega)]) ?_
  exact Ev.step (f := fun _ => some (u, d, ts, [], 0)) (fun k => by rw [C9.j3, if_neg (by decide)]) stop
theorem c77 (p : List UInt8) (x : List (List UInt8) × List UInt8) : a57 (ag7 p x).1 ++ (ag7 p x).2 = p ++ (a57 x.1 ++ x.2) := by
 obtain ⟨l, t⟩ := x
 cases l <;> simp [ag7, a57]
theorem bd0 : ∀ l : List UInt8, a57 (crlf l).1 ++ (crlf l).2 = l
 | [] => rfl
 | [a] => rfl
 | a :: b :: l => by
  rw [crlf]
  by_cases h : a = 13 ∧ b = 10
  ·obtain ⟨rfl, rfl⟩ := h
   rw [if_pos ⟨rfl, rfl⟩]
   have ih := bd0 l
   show a57 ([] :: (crlf l).1) ++ (crlf l).2 = _
   have : a57 ([] :: (crlf l).1) = 13 :: 10 :: a57 (crlf l).1 := by simp [a57]
   rw [this, List.cons_append, List.cons_append, ih]
  ·rw [if_neg h, c77, bd0 (b :: l)]
   rfl
theorem bV7 : ∀ (L : List (List UInt8)) (i n : Nat) (u d : ByteArray) (ts : List G6), (aF7 L i n u d ts).2.2.2 ≤ n + (a57 L).length
 | [], i, n, u, d, ts => Nat.zero_le _
 | t :: r, i, n, u, d, ts => by
  have e : (a57 (t :: r)).length = t.length + 2 + (a57 r).length := by simp [a57]; omega
  have ih := bV7 r (i + 1) (n + t.length + 2)
  rw [aF7, e]
  split
  ·show n + t.length + 2 ≤ _
   omega
  ·split
   ·split
    ·have := ih (ad5 (t.drop 5)).1 (ad5 (t.drop 5)).2.1 ts
     omega
    ·exact Nat.zero_le _
   ·split
    ·split
     ·have := ih u d (ts ++ [⟨(ad5 (t.drop 3)).1, (ad5 (t.drop 3)).2.1⟩])
      omega
     ·exact Nat.zero_le _
    ·exact Nat.zero_le _
theorem Part.more {n m : Nat} {u d : ByteArray} {ts : List G6} (h : Part n u d ts) (hm : n ≤ m) : Part m u d ts := ⟨h.1, h.2.1, Nat.le_trans h.2.2.1 hm, h.2.2.2⟩
theorem b51 : ∀ (L : List (List UInt8)) (i n : Nat) (u d : ByteArray) (ts : List G6), (∀ t ∈ L, t.length ≤ 800) → Part i u d ts → Part (i + L.length) (aF7 L i n u d ts).1 (aF7 L i n u d ts).2.1 (aF7 L i n u d ts).2.2.1
 | [], i, n, u, d, ts, _, hp => hp
 | t :: r, i, n, u, d, ts, hL, hp => by
  have ht := hL t (by simp)
  have hr : ∀ t ∈ r, t.length ≤ 800 := fun x hx => hL x (by simp [hx])
  have h5 := bt7 (t.drop 5)
  have h3 := bt7 (t.drop 3)
  rw [List.length_drop] at h5 h3
  have stay : Part (i + (t :: r).length) u d ts := hp.more (by omega)
  rw [aF7]
  split
  ·exact stay
  ·split
   ·split
    ·have := b51 r (i + 1) (n + t.length + 2) (ad5 (t.drop 5)).1 (ad5 (t.drop 5)).2.1 ts hr ⟨by omega, by omega, by have := hp.2.2.1; omega, hp.2.2.2⟩
     exact this.more (by rw [List.length_cons]; omega)
    ·exact stay
   ·split
    ·split
     ·have := b51 r (i + 1) (n + t.length + 2) u d (ts ++ [⟨(ad5 (t.drop 3)).1, (ad5 (t.drop 3)).2.1⟩]) hr ⟨hp.1, hp.2.1, by rw [List.length_append, List.length_singleton]; have := hp.2.2.1; omega, fun a ha => by
       rcases List.mem_append.1 ha with ha | ha
       ·exact hp.2.2.2 a ha
       ·rw [List.mem_singleton] at ha
        subst ha
        exact ⟨by show (ad5 _).1.size ≤ 800; omega, by show (ad5 _).2.1.size ≤ 800; omega⟩⟩
      exact this.more (by rw [List.length_cons]; omega)
     ·exact stay
    ·exact stay
def bd1 (l : List UInt8) : ByteArray × ByteArray × List G6 × Nat := aF7 (crlf l).1 0 0 (B []) (B []) []
def cR1 (l b : List UInt8) (u d : ByteArray) (ts : List G6) : cx0 := if (aE0 b).2 = true then (if am6 u d ts (aE0 b).1 = true then (if aa1 u d ts (aE0 b).1 = l then (u, d, ts, (aE0 b).1, true) else ab5) else ab5) else ab5
def aP2 (l : List UInt8) : cx0 := if l.length > 800 then ab5 else if (bd1 l).2.2.2 = 0 then ab5 else cR1 l (l.drop (bd1 l).2.2.2) (bd1 l).1 (bd1 l).2.1 (bd1 l).2.2.1
theorem bV8 (l : List UInt8) (hl : l.length ≤ 800) : Part 801 (bd1 l).1 (bd1 l).2.1 (bd1 l).2.2.1 := by
 have hc := aS9 l
 exact (b51 (crlf l).1 0 0 (B []) (B []) [] (fun t ht => by have := hc.2.1 t ht; omega) ⟨by decide, by decide, by decide, fun _ h => by cases h⟩).more (by omega)
theorem bu7 (s : ByteArray) : Ev (fun k => a86.f k s) (aP2 s.data.toList) := by
 have hl := E3 s
 have hc := aS9 s.data.toList
 unfold aP2
 by_cases h8 : s.size > 800
 ·rw [if_pos (by omega)]
  refine Ev.congr (f := fun _ => some ab5) (fun k => ?_) (Ev.now _)
  unfold a86.f
  rw [if_pos (by omega)]
  rfl
 rw [if_neg (by omega)]
 have hg : Ev (fun k => C9.f k s) (d08 (bd1 s.data.toList)) := by
  refine Ev.bind (b98 s (by omega)) ?_
  have h := c74 (crlf s.data.toList).1 (by omega) (fun t ht => by have := hc.2.1 t ht; omega) _ 0 0 (B []) (B []) [] (Nat.zero_add _).symm (Nat.le_refl _) (Nat.le_refl _)
  rw [List.drop_zero] at h
  exact h
 have hat : (bd1 s.data.toList).2.2.2 ≤ s.size := by
  have h1 := bV7 (crlf s.data.toList).1 0 0 (B []) (B []) []
  have h2 := congrArg List.length (bd0 s.data.toList)
  rw [List.length_append] at h2
  show (aF7 _ 0 0 _ _ _).2.2.2 ≤ _
  omega
 have hpart := bV8 s.data.toList (by omega)
 have step : ∀ k, a86.f k s = (C9.f k s).bind fun D9 => (if D9.2.2.2.2 = 0 then (some ((⟨#[]⟩ : ByteArray), (⟨#[]⟩ : ByteArray), ([] : List (G6)), ([] : List ByteArray), false)) else (if 0 ≤ D9.2.2.2.2 then (if D9.2.2.2.2 ≤ (s.size : Int) then ((K9.f k (s.extract (D9.2.2.2.2 : Int).toNat s.size)).bind fun ar8 => (if ar8.2 = true then ((K7.f k D9.1 D9.2.1 D9.2.2.1 ar8.1).bind fun t116 => (if t116 = true then ((R5.f k D9.1 D9.2.1 D9.2.2.1 ar8.1).bind fun t117 => (if t117.toList = s.toList then (some (D9.1, D9.2.1, D9.2.2.1, ar8.1, true)) else (some ((⟨#[]⟩ : ByteArray), (⟨#[]⟩ : ByteArray), ([] : List (G6)), ([] : List ByteArray), false)))) else (some ((⟨#[]⟩ : ByteArray), (⟨#[]⟩ : ByteArray), ([] : List (G6)), ([] : List ByteArray), false)))) else (some ((⟨#[]⟩ : ByteArray), (⟨#[]⟩ : ByteArray), ([] : List (G6)), ([] : List ByteArray), false)))) else (none)) else (none))) := fun k => by
  unfold a86.f
  rw [if_neg (by omega)]
 refine Ev.congr step (Ev.bind hg ?_)
 unfold d08
 generalize bd1 s.data.toList = q at *
 obtain ⟨u, d, ts, n⟩ := q
 have hat : n ≤ s.size := hat
 have hpart : Part 801 u d ts := hpart
 by_cases h0 : n = 0
 ·rw [if_pos h0]
  exact Ev.congr (f := fun _ => some ab5) (fun k => if_pos (show ((n : Nat) : Int) = 0 by omega)) (Ev.now _)
 rw [if_neg h0]
 have he : s.extract n s.size = B (s.data.toList.drop n) := by
  have := bL3 s.data.toList n
  rwa [aW5] at this
 refine Ev.congr (f := fun k => (K9.f k (B (s.data.toList.drop n))).bind fun ar8 => (if ar8.2 = true then ((K7.f k u d ts ar8.1).bind fun t116 => (if t116 = true then ((R5.f k u d ts ar8.1).bind fun t117 => (if t117.toList = s.toList then (some (u, d, ts, ar8.1, true)) else (some ((⟨#[]⟩ : ByteArray), (⟨#[]⟩ : ByteArray), ([] : List (G6)), ([] : List ByteArray), false)))) else (some ((⟨#[]⟩ : ByteArray), (⟨#[]⟩ : ByteArray), ([] : List (G6)), ([] : List ByteArray), false)))) else (some ((⟨#[]⟩ : ByteArray), (⟨#[]⟩ : ByteArray), ([] : List (G6)), ([] : List ByteArray), false)))) (fun k => by
  refine (if_neg (show ¬ ((n : Nat) : Int) = 0 by omega)).trans ((if_pos (show (0 : Int) ≤ ((n : Nat) : Int) by omega)).trans ((if_pos (show ((n : Nat) : Int) ≤ (s.size : Int) by omega)).trans ?_))
  show (K9.f k (s.extract n s.size)).bind _ = _
  rw [he]) ?_
 have hd := by7 (B (s.data.toList.drop n)) (by rw [D8, List.length_drop]; omega)
 rw [M5] at hd
 have hsm := aT3 (s.data.toList.drop n)
 refine Ev.bind hd ?_
 show Ev _ (cR1 s.data.toList (s.data.toList.drop n) u d ts)
 unfold cR1
 have hsh := hpart.short (by omega) hsm
 by_cases h2 : (aE0 (s.data.toList.drop n)).2 = true
 ·rw [if_pos h2]
  refine Ev.congr (fun k => if_pos h2) ?_
  have hm := bf5 u d ts _ hsh
  cases hb : am6 u d ts (aE0 (s.data.toList.drop n)).1
  ·rw [hb] at hm
   exact Ev.call hm (h := fun _ => some ab5) (fun k => if_neg (by decide)) (Ev.now _)
  ·rw [hb] at hm
   rw [if_pos rfl]
   refine Ev.call hm (fun k => if_pos rfl) (Ev.call (bs9 u d ts _ hsh hb) (h := fun _ => some (if aa1 u d ts (aE0 (s.data.toList.drop n)).1 = s.data.toList then (u, d, ts, (aE0 (s.data.toList.drop n)).1, true) else ab5)) (fun k => ?_) (Ev.now _))
   rw [ab7, toL]
   by_cases hq : aa1 u d ts (aE0 (s.data.toList.drop n)).1 = s.data.toList
   ·rw [if_pos hq, if_pos hq]
   ·rw [if_neg hq, if_neg hq]
    rfl
 ·rw [if_neg h2]
  exact Ev.congr (fun k => if_neg h2) (Ev.now _)
theorem bV9 (l : List UInt8) : av3 (aP2 l).1 (aP2 l).2.1 (aP2 l).2.2.1 (aP2 l).2.2.2.1 := by
 unfold aP2
 split
 ·exact a84
 ·rename_i h8
  have hp := bV8 l (by omega)
  split
  ·exact a84
  ·unfold cR1
   split
   ·split
    ·split
     ·exact hp.short (by omega) (aT3 _)
     ·exact a84
    ·exact a84
   ·exact a84
theorem bE3 (s : List UInt8) : ∀ L : List (List UInt8), (∀ x ∈ L, (13 : UInt8) ∉ x) → crlf (a57 L ++ s) = (L ++ (crlf s).1, (crlf s).2)
 | [], _ => rfl
 | x :: L, h => by
  have e : a57 (x :: L) ++ s = x ++ 13 :: 10 :: (a57 L ++ s) := by simp [a57]
  rw [e, aY8 _ _ (h x (by simp)), bE3 s L (fun y hy => h y (by simp [hy]))]
  rfl
theorem bE4 (u d : ByteArray) : 2 ≤ (J3 u d).length := by
 unfold J3
 split
 ·exact Nat.le_refl _
 ·simp
  omega
theorem bW0 (u d : ByteArray) (rest : List (List UInt8)) : ∀ (ts acc : List G6) (i n : Nat), 0 < i → 1 < i + ts.length → (∀ a ∈ ts, U9 a.f0 a.f1 = true) → aF7 (ts.map aE9 ++ [] :: rest) i n u d acc = (u, d, acc ++ ts, n + (a57 (ts.map aE9)).length + 2)
 | [], acc, i, n, _, h1, _ => by
  rw [List.map_nil, List.nil_append, aF7, if_pos ⟨rfl, by simpa using h1⟩, List.append_nil]
  rfl
 | a :: ts, acc, i, n, hi, h1, h => by
  have hA := aT2 (u := a.f0) (d := a.f1) (by rw [h a (by simp), Bool.or_true])
  have hp := bE4 a.f0 a.f1
  have ht : aE9 a = 116 :: 111 :: 32 :: J3 a.f0 a.f1 := rfl
  have hd : (aE9 a).drop 3 = J3 a.f0 a.f1 := rfl
  rw [List.length_cons] at h1
  rw [List.map_cons, List.cons_append, aF7, if_neg (fun h => by rw [ht] at h; cases h.1), if_neg (by omega), if_pos ⟨hi, by rw [ht]; simp; omega, rfl⟩, hd, hA, if_pos rfl, bW0 u d rest ts _ (i + 1) _ (by omega) (by omega) (fun x hx => h x (by simp [hx])), List.append_assoc]
  have e : (a57 (aE9 a :: ts.map aE9)).length = (aE9 a).length + 2 + (a57 (ts.map aE9)).length := by simp [a57]; omega
  rw [e]
  simp only [Prod.mk.injEq]
  exact ⟨trivial, trivial, rfl, by omega⟩
theorem c78 {u d : ByteArray} {ts : List G6} {body : List ByteArray} (h : am6 u d ts body = true) (hl : (aa1 u d ts body).length ≤ 800) : aP2 (aa1 u d ts body) = (u, d, ts, body, true) := by
 obtain ⟨h1, h2, h3, _, h5⟩ := al3 h
 have hL := bu6 h
 have hc : crlf (aa1 u d ts body) = ((aE1 u d :: ts.map aE9) ++ [] :: (body.map aN2 ++ [[46]]), []) := by
  rw [aX4, bE3 _ _ (fun x hx => (hL x hx).1)]
  have : crlf (13 :: 10 :: Z2 body) = ([] :: (crlf (Z2 body)).1, (crlf (Z2 body)).2) := by rw [crlf, if_pos ⟨rfl, rfl⟩]
  rw [this, bc5 body (bu1 h5)]
 have hA := aT2 h1
 have hp := bE4 u d
 have hf : aE1 u d = 102 :: 114 :: 111 :: 109 :: 32 :: J3 u d := rfl
 have hd : (aE1 u d).drop 5 = J3 u d := rfl
 have ht : bd1 (aa1 u d ts body) = (u, d, ts, (a57 (aE1 u d :: ts.map aE9)).length + 2) := by
  unfold bd1
  rw [hc, List.cons_append, aF7, if_neg (by omega), if_pos ⟨rfl, by rw [hf]; simp; omega, rfl⟩, hd, hA, if_pos rfl, bW0 u d _ ts [] 1 _ (by decide) (by omega) h3]
  have e : (a57 (aE1 u d :: ts.map aE9)).length = (aE1 u d).length + 2 + (a57 (ts.map aE9)).length := by simp [a57]; omega
  rw [e]
  simp only [Prod.mk.injEq]
  exact ⟨trivial, trivial, rfl, by omega⟩
 have hdrop : (aa1 u d ts body).drop ((a57 (aE1 u d :: ts.map aE9)).length + 2) = Z2 body := by
  rw [aX4, ← List.drop_drop, List.drop_left]
  rfl
 unfold aP2
 rw [if_neg (by omega), ht, if_neg (by simp), hdrop]
 unfold cR1
 rw [bD8 h5, if_pos rfl, if_pos h, if_pos rfl]
end Go.Proofs.YtbncnjgflhoneaaGreatDoor.Hand
namespace Go.Proofs.YtbncnjgflhoneaaGreatDoor.F
open Go.RowKit Go.Proofs.YtbncnjgflhoneaaGreatDoor.Hand Go.Proofs.YtbncnjgflhoneaaGreatDoorW.l8 Go.Proofs.YtbncnjgflhoneaaGreatDoorW.s9 Go.Proofs.YtbncnjgflhoneaaGreatDoorW.y9
def F4.l0 : Nat → ByteArray → Int → Int → Option (Int)
 | 0, _, _, _ => none
 | k + 1, x0, x3, x4 => if x4 < (x0.size : Int) then (if 0 ≤ x4 then (if (bt x0 x4) < 48 then (some (-1)) else (if (bt x0 x4) > 57 then (some (-1)) else (if x4 ≥ 9 then (some (-1)) else (F4.l0 k x0 (wrap64 ((wrap64 (x3 * 10)) + (((bt x0 x4) - 48) % 256))) (wrap64 (x4 + 1)))))) else (none)) else (if (x0.size : Int) = 0 then (some (-1)) else (if (x0.size : Int) > 1 then (if 0 < (x0.size : Int) then (if (bt x0 0) = 48 then (some (-1)) else (some x3)) else (none)) else (some x3)))
def F4.f (k : Nat) (a0 : ByteArray) : Option (Int) := F4.l0 k a0 0 0
set_option maxHeartbeats 8000000 in
set_option maxRecDepth 100000 in
theorem F4.calls (k : Nat) (a0 : ByteArray) (r : Int) (w : World) (h : F4.f k a0 = some r) :
  Calls Tryz.prog 85 #[.string a0] w fun e w' => e = .returned (.int .i64 r) ∧ O7 w w' := by
 have H := h
 clear h
 unfold F4.f at H
 have H' := j4.mk H
 clear H
 go_enter Tryz.func85, Tryz.ntmps85
 go_wp2
 go_loopg [3, 4] k (fun kq v3 v4 w' => ∃ (E8 : Int) (I3 : Int), v3 = .int .i64 E8 ∧ v4 = .int .i64 I3 ∧ j4 (F4.l0 kq a0 E8 I3 = some r) ∧ j4 (kq ≤ k) ∧ O7 w w')
 case atStart => exact ⟨(0), (0), zs, zs, H', ⟨Nat.le_refl _⟩, zD⟩
 case round =>
  clear H'
  obtain ⟨E8, I3, rfl, rfl, HA, HK1, ⟨m1, rfl⟩⟩ := hrel
  cases gk with
  | zero => exact absurd HA.out (by simp [F4.l0])
  | succ k1 =>
   have H := HA.out
   clear HA
   simp only [F4.l0] at H
   replace H := K2 H; rcases H with ⟨ak5, H⟩ | ⟨ak5, H⟩
   ·replace H := S1 H; obtain ⟨aD1, H⟩ := H
    replace H := K2 H; rcases H with ⟨ap1, H⟩ | ⟨ap1, H⟩
    ·obtain rfl := Option.some.inj H
     have p4 : 0 ≤ (I3 : Int) := of_decide_eq_true za
     have q4 : I3 < (a0.size : Int) := of_decide_eq_true za
     have hx4 := V4 a0 I3
     replace p4 := eq_true p4
     replace q4 := eq_true q4
     go_wp2
     go_ret
     exact ⟨zs, zD⟩
    ·replace H := K2 H; rcases H with ⟨ak6, H⟩ | ⟨ak6, H⟩
     ·obtain rfl := Option.some.inj H
      have p4 : 0 ≤ (I3 : Int) := of_decide_eq_true za
      have q4 : I3 < (a0.size : Int) := of_decide_eq_true za
      have hx4 := V4 a0 I3
      replace p4 := eq_true p4
      replace q4 := eq_true q4
      have p6 : 0 ≤ (I3 : Int) := of_decide_eq_true za
      have q6 : I3 < (a0.size : Int) := of_decide_eq_true za
      have hx6 := V4 a0 I3
      replace p6 := eq_true p6
      replace q6 := eq_true q6
      go_wp2
      go_ret
      exact ⟨zs, zD⟩
     ·replace H := K2 H; rcases H with ⟨aN6, H⟩ | ⟨aN6, H⟩
      ·obtain rfl := Option.some.inj H
       have p4 : 0 ≤ (I3 : Int) := of_decide_eq_true za
       have q4 : I3 < (a0.size : Int) := of_decide_eq_true za
       have hx4 := V4 a0 I3
       replace p4 := eq_true p4
       replace q4 := eq_true q4
       have p6 : 0 ≤ (I3 : Int) := of_decide_eq_true za
       have q6 : I3 < (a0.size : Int) := of_decide_eq_true za
       have hx6 := V4 a0 I3
       replace p6 := eq_true p6
       replace q6 := eq_true q6
       go_wp2
       go_ret
       exact ⟨zs, zD⟩
      ·have H' := j4.mk H
       clear H
       have p4 : 0 ≤ (I3 : Int) := of_decide_eq_true za
       have q4 : I3 < (a0.size : Int) := of_decide_eq_true za
       have hx4 := V4 a0 I3
       replace p4 := eq_true p4
       replace q4 := eq_true q4
       have p6 : 0 ≤ (I3 : Int) := of_decide_eq_true za
       have q6 : I3 < (a0.size : Int) := of_decide_eq_true za
       have hx6 := V4 a0 I3
       replace p6 := eq_true p6
       replace q6 := eq_true q6
       have p9 : 0 ≤ (I3 : Int) := of_decide_eq_true za
       have q9 : I3 < (a0.size : Int) := of_decide_eq_true za
       have hx9 := V4 a0 I3
       replace p9 := eq_true p9
       replace q9 := eq_true q9
       go_wp2
       go_roundg k1
       case measure => have := HK1.out; omega
       case rel => exact ⟨(wrap64 ((wrap64 (E8 * 10)) + (((bt a0 I3) - 48) % 256))), (wrap64 (I3 + 1)), zs, zs, H', ⟨by have := HK1.out; omega⟩, zD⟩
   ·replace H := F6 H; rcases H with ⟨aF1, b92, H⟩ | ⟨aF1, b92, H⟩
    ·obtain rfl := Option.some.inj H
     go_wp2
     go_ret
     exact ⟨zs, zD⟩
    ·replace H := a29 H; rcases H with ⟨c11, aV1, H⟩ | ⟨c11, aV1, H⟩
     ·have cc0 : decide (1 < a0.size) = true := decide_eq_true (by omega)
      clear c11
      replace H := ak4 H; obtain ⟨c12, ax7, H⟩ := H
      have b78 : decide (0 < a0.size) = true := decide_eq_true (by omega)
      clear c12
      replace H := F6 H; rcases H with ⟨aL5, b24, H⟩ | ⟨aL5, b24, H⟩
      ·obtain rfl := Option.some.inj H
       have p13 : 0 ≤ (0 : Int) := (by omega)
       have q13 : 0 < a0.size := (by have : (0 : Int) < (a0.size : Int) := of_decide_eq_true za; omega)
       have ek0 : ∀ h : 0 < a0.size, ((a0[0]'h).toNat : Int) = bt a0 0 := V4 a0 0
       clear p13
       have ek1 : (0 < (a0.size : Int)) = True := eq_true (of_decide_eq_true za)
       replace q13 := eq_true q13
       go_wp2
       go_ret
       exact ⟨zs, zD⟩
      ·obtain rfl := Option.some.inj H
       have p13 : 0 ≤ (0 : Int) := (by omega)
       have q13 : 0 < a0.size := (by have : (0 : Int) < (a0.size : Int) := of_decide_eq_true za; omega)
       have ek0 : ∀ h : 0 < a0.size, ((a0[0]'h).toNat : Int) = bt a0 0 := V4 a0 0
       clear p13
       have ek1 : (0 < (a0.size : Int)) = True := eq_true (of_decide_eq_true za)
       replace q13 := eq_true q13
       go_wp2
       go_ret
       exact ⟨zs, zD⟩
     ·have cc0 : decide (1 < a0.size) = false := decide_eq_false (by omega)
      clear c11
      obtain rfl := Option.some.inj H
      go_wp2
      go_ret
      exact ⟨zs, zD⟩
end Go.Proofs.YtbncnjgflhoneaaGreatDoor.F
namespace Go.Proofs.YtbncnjgflhoneaaGreatDoor.Hand
open Go.RowKit Go.Proofs.YtbncnjgflhoneaaGreatDoor.F Go.Proofs.YtbncnjgflhoneaaGreatDoorW.l8 Go.Proofs.YtbncnjgflhoneaaGreatDoorW.s9 Go.Proofs.YtbncnjgflhoneaaGreatDoorW.y9
def ch (a : Nat) : UInt8 := UInt8.ofNat (48 + a)
def c79 (ds : List Nat) (acc : Nat) : Nat := ds.foldl (fun n a => n * 10 + a) acc
structure cr3 (n : Nat) (ds : List Nat) : Prop where
 text : Lib.decDigits n = ds.map ch
 small : ∀ a ∈ ds, a < 10
 one : 1 ≤ ds.length
 four : ds.length ≤ 4
 sum : c79 ds 0 = n
 lead : 1 < ds.length → ds.head? ≠ some 0
theorem figures (n : Nat) (h : n ≤ 9999) : ∃ ds, cr3 n ds := by
 have one : ∀ m, m < 10 → Lib.decDigits m = [ch m] := fun m hm => by rw [Lib.decDigits, dif_pos hm]; rfl
 have more : ∀ m, ¬ m < 10 → Lib.decDigits m = Lib.decDigits (m / 10) ++ [ch (m % 10)] := fun m hm => by rw [Lib.decDigits, dif_neg hm]; rfl
 by_cases h1 : n < 10
 ·exact ⟨[n], one n h1, by simpa using h1, Nat.le_refl _, by simp, by simp [c79], fun h => absurd h (by simp)⟩
 by_cases h2 : n < 100
 ·refine ⟨[n / 10, n % 10], ?_, ?_, by simp, by simp, ?_, fun _ => by simp; omega⟩
  ·rw [more n h1, one (n / 10) (by omega)]; rfl
  ·intro a ha; simp at ha; omega
  ·simp [c79]; omega
 by_cases h3 : n < 1000
 ·refine ⟨[n / 10 / 10, n / 10 % 10, n % 10], ?_, ?_, by simp, by simp, ?_, fun _ => by simp; omega⟩
  ·rw [more n h1, more (n / 10) (by omega), one (n / 10 / 10) (by omega)]; rfl
  ·intro a ha; simp at ha; omega
  ·simp [c79]; omega
 ·refine ⟨[n / 10 / 10 / 10, n / 10 / 10 % 10, n / 10 % 10, n % 10], ?_, ?_, by simp, by simp, ?_, fun _ => by simp; omega⟩
  ·rw [more n h1, more (n / 10) (by omega), more (n / 10 / 10) (by omega), one (n / 10 / 10 / 10) (by omega)]; rfl
  ·intro a ha; simp at ha; omega
  ·simp [c79]; omega
theorem bd2 (a : Nat) (h : a < 10) : (ch a).toNat = 48 + a := by
 unfold ch
 rw [UInt8.toNat_ofNat']
 omega
theorem d09 {n : Nat} {ds : List Nat} (h : cr3 n ds) : ∀ x ∈ Lib.decDigits n, 48 ≤ x.toNat ∧ x.toNat ≤ 57 := by
 intro x hx
 rw [h.text] at hx
 obtain ⟨a, ha, rfl⟩ := List.mem_map.1 hx
 have := h.small a ha
 rw [bd2 a this]
 omega
theorem bE5 : ∀ (ds : List Nat) (acc : Nat), (∀ a ∈ ds, a < 10) → (acc + 1) * 10 ^ ds.length ≤ 1000000000000 → Lib.parseUint10 acc (ds.map ch) = .ok (c79 ds acc)
 | [], acc, _, _ => rfl
 | a :: ds, acc, h, hb => by
  have ha := h a (by simp)
  rw [List.length_cons, Nat.pow_succ, Nat.mul_comm (10 ^ ds.length) 10, ← Nat.mul_assoc] at hb
  have hpos : 1 ≤ 10 ^ ds.length := Nat.one_le_pow _ _ (by decide)
  have hle : (acc + 1) * 10 ≤ 1000000000000 := Nat.le_trans (Nat.le_mul_of_pos_right _ hpos) hb
  have ih := bE5 ds (acc * 10 + a) (fun x hx => h x (by simp [hx])) (Nat.le_trans (Nat.mul_le_mul_right _ (by omega)) hb)
  rw [List.map_cons, Lib.parseUint10, if_pos (by rw [bd2 a ha]; omega), bd2 a ha]
  rw [show 48 + a - 48 = a by omega]
  repeat (first | rw [if_neg (by omega)] | exact ih)
theorem aY9 (n : Int) (h0 : 0 ≤ n) (h9 : n ≤ 9999) : ay6 (Lib.itoa n) = (n, true) := by
 obtain ⟨m, rfl⟩ := Int.eq_ofNat_of_zero_le h0
 obtain ⟨ds, h⟩ := figures m (by omega)
 have hp := bE5 ds 0 h.small (by
  rw [Nat.zero_add, Nat.one_mul]
  exact Nat.le_trans (Nat.pow_le_pow_right (by decide) h.four) (by decide))
 have he : Lib.atoiAll (Lib.itoa (m : Int)) = .ok (m : Int) := by
  rw [aW9 _ h0, Int.toNat_natCast, h.text]
  cases hd : ds with
  | nil => have := h.one; rw [hd] at this; exact absurd this (by decide)
  | cons a r =>
   have ha := h.small a (by rw [hd]; simp)
   rw [List.map_cons, Lib.atoiAll_plain _ _ (by rw [bd2 a ha]; omega) (by rw [bd2 a ha]; omega)]
   unfold Lib.parseMag
   rw [if_neg (by simp), ← List.map_cons, ← hd, hp, h.sum]
   unfold Lib.signless
   exact if_neg (by omega)
 unfold ay6
 rw [he]
 simp
theorem cR2 (s : ByteArray) (hs : s.size ≤ 1073741824) : ∀ (d i : Nat) (n : Int), s.size = i + d → ∃ v, Ev (fun k => F4.l0 k s n (i : Int)) v := by
 intro d
 induction d with
 | zero =>
  intro i n hi
  have key : ∃ v, ∀ k, F4.l0 (k + 1) s n (i : Int) = some v := by
   by_cases h0 : s.size = 0
   ·exact ⟨-1, fun k => by rw [F4.l0, if_neg (by omega), if_pos (by omega)]⟩
   ·by_cases h1 : 1 < s.size
    ·by_cases hb : bt s 0 = 48
     ·exact ⟨-1, fun k => by rw [F4.l0, if_neg (by omega), if_neg (by omega), if_pos (by omega), if_pos (by omega), if_pos hb]⟩
     ·exact ⟨n, fun k => by rw [F4.l0, if_neg (by omega), if_neg (by omega), if_pos (by omega), if_pos (by omega), if_neg hb]⟩
    ·exact ⟨n, fun k => by rw [F4.l0, if_neg (by omega), if_neg (by omega), if_neg (by omega)]⟩
  obtain ⟨v, hv⟩ := key
  exact ⟨v, Ev.step (f := fun _ => some v) hv (Ev.now _)⟩
 | succ d ih =>
  intro i n hi
  by_cases ha : bt s (i : Int) < 48
  ·exact ⟨-1, Ev.step (f := fun _ => some (-1)) (fun k => by rw [F4.l0, if_pos (by omega), if_pos (by omega), if_pos ha]) (Ev.now _)⟩
  by_cases hb : bt s (i : Int) > 57
  ·exact ⟨-1, Ev.step (f := fun _ => some (-1)) (fun k => by rw [F4.l0, if_pos (by omega), if_pos (by omega), if_neg ha, if_pos hb]) (Ev.now _)⟩
  by_cases hc : (i : Int) ≥ 9
  ·exact ⟨-1, Ev.step (f := fun _ => some (-1)) (fun k => by rw [F4.l0, if_pos (by omega), if_pos (by omega), if_neg ha, if_neg hb, if_pos hc]) (Ev.now _)⟩
  obtain ⟨v, hv⟩ := ih (i + 1) (wrap64 ((wrap64 (n * 10)) + (((bt s (i : Int)) - 48) % 256))) (by omega)
  exact ⟨v, Ev.step (fun k => by rw [F4.l0, if_pos (by omega), if_pos (by omega), if_neg ha, if_neg hb, if_neg hc, Y5 (x := (i : Int) + 1) (by omega) (by omega), show ((i : Int) + 1) = ((i + 1 : Nat) : Int) by omega]) hv⟩
theorem c81 (s : ByteArray) (hs : s.size ≤ 1073741824) : ∃ v, Ev (fun k => F4.f k s) v := cR2 s hs s.size 0 0 (by omega)
theorem cx2 (ds : List Nat) (hl : ds.length ≤ 4) (h1 : 1 ≤ ds.length) (hs : ∀ a ∈ ds, a < 10) (dX4 : 1 < ds.length → ds.head? ≠ some 0) : ∀ (e i n : Nat), ds.length = i + e → (n + 1) * 10 ^ e ≤ 1000000000 →
  Ev (fun k => F4.l0 k (B (ds.map ch)) (n : Int) (i : Int)) ((c79 (ds.drop i) n : Nat) : Int) := by
 have hsz : (B (ds.map ch)).size = ds.length := by rw [D8, List.length_map]
 have hbt : ∀ i (h : i < ds.length), bt (B (ds.map ch)) (i : Int) = ((48 + ds[i] : Nat) : Int) := fun i h => by
  have h' : i < (B (ds.map ch)).data.toList.length := by rw [M5, List.length_map]; exact h
  rw [au0 _ i h']
  have : (B (ds.map ch)).data.toList[i] = ch ds[i] := by simp only [M5, List.getElem_map]
  rw [this, bd2 _ (hs _ (List.getElem_mem h))]
 intro e
 induction e with
 | zero =>
  intro i n hi hb
  rw [List.drop_eq_nil_of_le (by omega)]
  refine Ev.step (f := fun _ => some ((n : Nat) : Int)) (fun k => ?_) (Ev.now _)
  rw [F4.l0, if_neg (by omega), if_neg (by omega)]
  by_cases h : 1 < ds.length
  ·rw [if_pos (by omega), if_pos (by omega), show (0 : Int) = ((0 : Nat) : Int) from rfl, hbt 0 (by omega), if_neg]
   intro h0
   apply dX4 h
   rw [List.head?_eq_getElem?, List.getElem?_eq_getElem (by omega)]
   exact congrArg some (by omega)
  ·rw [if_neg (by omega)]
 | succ e ih =>
  intro i n hi hb
  have hlt : i < ds.length := by omega
  have ha := hs ds[i] (List.getElem_mem hlt)
  rw [Nat.pow_succ, Nat.mul_comm (10 ^ e) 10, ← Nat.mul_assoc] at hb
  have hpos : 1 ≤ 10 ^ e := Nat.one_le_pow _ _ (by decide)
  have hle : (n + 1) * 10 ≤ 1000000000 := Nat.le_trans (Nat.le_mul_of_pos_right _ hpos) hb
  have h := ih (i + 1) (n * 10 + ds[i]) (by omega) (Nat.le_trans (Nat.mul_le_mul_right _ (by omega)) hb)
  rw [List.drop_eq_getElem_cons hlt]
  refine Ev.step (f := fun k => F4.l0 k (B (ds.map ch)) ((n * 10 + ds[i] : Nat) : Int) ((i + 1 : Nat) : Int)) (fun k => ?_) h
  rw [F4.l0, if_pos (by omega), if_pos (by omega), hbt i hlt, if_neg (by omega), if_neg (by omega), if_neg (by omega), Y5 (x := (i : Int) + 1) (by omega) (by omega), Y5 (x := (n : Int) * 10) (by omega) (by omega)]
  rw [Y5 (by omega) (by omega)]
  rw [show ((i : Int) + 1) = ((i + 1 : Nat) : Int) by omega]
  rw [show (n : Int) * 10 + (((48 + ds[i] : Nat) : Int) - 48) % 256 = ((n * 10 + ds[i] : Nat) : Int) by omega]
theorem aZ0 (n : Int) (h0 : 0 ≤ n) (h9 : n ≤ 9999) : Ev (fun k => F4.f k (B (Lib.itoa n))) n := by
 obtain ⟨m, rfl⟩ := Int.eq_ofNat_of_zero_le h0
 obtain ⟨ds, h⟩ := figures m (by omega)
 have hp := cx2 ds h.four h.one h.small h.lead ds.length 0 0 (by omega) (by
  rw [Nat.zero_add, Nat.one_mul]
  exact Nat.le_trans (Nat.pow_le_pow_right (by decide) h.four) (by decide))
 rw [List.drop_zero, h.sum] at hp
 rw [aW9 _ h0, Int.toNat_natCast, h.text]
 exact hp
theorem ap7 (n : Int) (h0 : 0 ≤ n) (h9 : n ≤ 9999) : ∀ x ∈ Lib.itoa n, 48 ≤ x.toNat ∧ x.toNat ≤ 57 := by
 obtain ⟨m, rfl⟩ := Int.eq_ofNat_of_zero_le h0
 obtain ⟨ds, h⟩ := figures m (by omega)
 rw [aW9 _ h0, Int.toNat_natCast]
 exact d09 h
theorem bd3 (c : UInt8) : ∀ l : List UInt8, l.length + 1 = ((cutAt c l).map fun p => p.length + 1).sum
 | [] => rfl
 | a :: l => by
  have ih := bd3 c l
  rw [cutAt]
  by_cases e : a = c
  ·rw [if_pos e, List.map_cons, List.sum_cons, List.length_cons, ← ih]
   simp only [List.length_nil]
   omega
  ·rw [if_neg e]
   cases hq : cutAt c l with
   | nil => exact absurd hq (aO3 c l)
   | cons y r =>
    rw [hq, List.map_cons, List.sum_cons] at ih
    simp only [front, List.map_cons, List.sum_cons, List.length_append, List.length_cons, List.length_nil]
    omega
theorem cR3 {α : Type} (f : α → Nat) (n : Nat) : ∀ l : List α, (∀ x ∈ l, f x ≤ n) → (l.map f).sum ≤ l.length * n
 | [], _ => by simp
 | x :: l, h => by
  have h1 := h x (by simp)
  have h2 := cR3 f n l (fun y hy => h y (by simp [hy]))
  rw [List.map_cons, List.sum_cons, List.length_cons, Nat.add_mul]
  omega
theorem bu8 {s : ByteArray} (h : ap0 s = true) : s.size ≤ 8 := by
 unfold ap0 at h
 rw [Bool.and_eq_true] at h
 exact (of_decide_eq_true h.1).2
theorem bE6 {d : ByteArray} (h : aC6 d = true) : d.size ≤ 26 := by
 unfold aC6 at h
 rw [Bool.and_eq_true] at h
 have h3 := of_decide_eq_true h.2
 have hs := bd3 46 d.data.toList
 rw [← bf8, List.map_map] at hs
 have hb := cR3 ((fun p : List UInt8 => p.length + 1) ∘ fun x : ByteArray => x.data.toList) 9 (ap2 d) (fun x hx => by
  have := bu8 (List.all_eq_true.1 h.1 x hx)
  show x.data.toList.length + 1 ≤ 9
  rw [E3]
  omega)
 rw [E3] at hs
 have : (ap2 d).length * 9 ≤ 3 * 9 := Nat.mul_le_mul_right _ h3
 omega
theorem av9 {u d : ByteArray} (h : (a43 u d || U9 u d) = true) : (J3 u d).length ≤ 37 := by
 have hl := ay7 u d
 cases hn : a43 u d
 ·rw [hn, Bool.false_or] at h
  unfold U9 at h
  rw [Bool.and_eq_true] at h
  have := bu8 h.1
  have := bE6 h.2
  omega
 ·obtain ⟨rfl, rfl⟩ := ap6 hn
  simp only [D8, List.length_nil] at hl
  omega
theorem aX5 {u d : ByteArray} {ts : List G6} {body : List ByteArray} (h : am6 u d ts body = true) : (aa1 u d ts body).length ≤ 800 := by
 obtain ⟨h1, h2, h3, _, h5⟩ := al3 h
 have hb := ag6 h5
 have ha := av9 h1
 have ht : (toT ts).length ≤ ts.length * 42 := b95 _ _ ts (fun a ha => by
  have := av9 (u := a.f0) (d := a.f1) (by rw [h3 a ha, Bool.or_true])
  simp only [List.length_append, List.length_cons, List.length_nil]
  omega)
 have hd : (body.flatMap fun s => aB2 s.data.toList).length ≤ body.length * 43 := b95 _ _ body (fun s hs => by
  have := (aW8 s.data.toList).2
  have := hb.2.1 s hs
  rw [E3] at *
  omega)
 have e1 : ts.length * 42 ≤ 4 * 42 := Nat.mul_le_mul_right _ h2.2
 have e2 : body.length * 43 ≤ 12 * 43 := Nat.mul_le_mul_right _ hb.1
 unfold aa1 Z2
 simp only [List.length_append, List.length_cons, List.length_nil]
 omega
end Go.Proofs.YtbncnjgflhoneaaGreatDoor.Hand
