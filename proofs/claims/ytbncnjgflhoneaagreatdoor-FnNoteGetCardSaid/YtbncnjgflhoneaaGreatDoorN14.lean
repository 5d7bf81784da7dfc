/- Of this claim, merged by program: F24, F8, F29, HBuild, HDots, F28, HNum, F10. -/
import Derived.Lib.AppendIntMem
import Derived.Test.YtbncnjgflhoneaaGreatDoorN02
import Derived.Test.YtbncnjgflhoneaaGreatDoorN03
import Derived.Test.YtbncnjgflhoneaaGreatDoorN05
import Derived.Test.YtbncnjgflhoneaaGreatDoorN13
set_option linter.unusedVariables false
set_option linter.unusedSimpArgs false
namespace Go.Proofs.YtbncnjgflhoneaaGreatDoor.F
open Go.RowKit Go.Proofs.YtbncnjgflhoneaaGreatDoor.Hand Go.Proofs.YtbncnjgflhoneaaGreatDoorW.l8 Go.Proofs.YtbncnjgflhoneaaGreatDoorW.s9 Go.Proofs.YtbncnjgflhoneaaGreatDoorW.y9
def E4.f (k : Nat) (r0 : Int) (D2 : Int) (R1 : ByteArray) (V1 : ByteArray) (Y2 : Int) (X7 : ByteArray) (X8 : ByteArray) (R3 : List (G6)) (R4 : List ByteArray) : Option (ByteArray) := if r0 = 1 then ((L7.f k Y2).bind fun t102 => (if 4 + t102.size ≤ 9223372036854775807 then (if ((⟨#[97, 100, 100, 32]⟩ : ByteArray) ++ t102).size + 1 ≤ 9223372036854775807 then ((R5.f k X7 X8 R3 R4).bind fun t103 => (if (((⟨#[97, 100, 100, 32]⟩ : ByteArray) ++ t102) ++ (⟨#[10]⟩ : ByteArray)).size + t103.size ≤ 9223372036854775807 then (some ((((⟨#[97, 100, 100, 32]⟩ : ByteArray) ++ t102) ++ (⟨#[10]⟩ : ByteArray)) ++ t103)) else (none))) else (none)) else (none))) else (if r0 = 2 then ((L7.f k D2).bind fun t104 => (if 5 + t104.size ≤ 9223372036854775807 then (if ((⟨#[100, 111, 110, 101, 32]⟩ : ByteArray) ++ t104).size + 1 ≤ 9223372036854775807 then ((a74.f R1 V1).bind fun t105 => (if (((⟨#[100, 111, 110, 101, 32]⟩ : ByteArray) ++ t104) ++ (⟨#[32]⟩ : ByteArray)).size + t105.size ≤ 9223372036854775807 then (some ((((⟨#[100, 111, 110, 101, 32]⟩ : ByteArray) ++ t104) ++ (⟨#[32]⟩ : ByteArray)) ++ t105)) else (none))) else (none)) else (none))) else ((L7.f k D2).bind fun t106 => (if 6 + t106.size ≤ 9223372036854775807 then (if ((⟨#[108, 97, 116, 101, 114, 32]⟩ : ByteArray) ++ t106).size + 1 ≤ 9223372036854775807 then ((a74.f R1 V1).bind fun t107 => (if (((⟨#[108, 97, 116, 101, 114, 32]⟩ : ByteArray) ++ t106) ++ (⟨#[32]⟩ : ByteArray)).size + t107.size ≤ 9223372036854775807 then (if ((((⟨#[108, 97, 116, 101, 114, 32]⟩ : ByteArray) ++ t106) ++ (⟨#[32]⟩ : ByteArray)) ++ t107).size + 1 ≤ 9223372036854775807 then ((L7.f k Y2).bind fun t108 => (if (((((⟨#[108, 97, 116, 101, 114, 32]⟩ : ByteArray) ++ t106) ++ (⟨#[32]⟩ : ByteArray)) ++ t107) ++ (⟨#[32]⟩ : ByteArray)).size + t108.size ≤ 9223372036854775807 then (some ((((((⟨#[108, 97, 116, 101, 114, 32]⟩ : ByteArray) ++ t106) ++ (⟨#[32]⟩ : ByteArray)) ++ t107) ++ (⟨#[32]⟩ : ByteArray)) ++ t108)) else (none))) else (none)) else (none))) else (none)) else (none))))
def E4.T3 : Bool × List (List Nat × List Nat) := (true, [([], []), ([0], [0]), ([1], [1]), ([2], [2]), ([3], [3]), ([], []), ([5], [5]), ([6, 2], [6]), ([4, 7], [4, 7]), ([8, 7, 0, 1, 2, 3, 4, 5, 6, 7, 8], [8])])
def E4.B3 : List Nat := [0, 1, 3, 7, 15, 0, 32, 103, 255, 511]
theorem E4.eh4 : aq1 .any (opsOf Tryz.f24 3) = E4.T3 := by kernel_rfl
theorem E4.dS3 : af3 E4.T3.2 E4.B3 = true := by kernel_rfl
def E4.T5 : Bool × List (List Nat × List Nat) := (true, [([], []), ([0], [0]), ([1], [1]), ([2], [2]), ([3], [3]), ([], []), ([5], [5]), ([6, 2], [6]), ([4, 7], [4, 7]), ([8, 7, 0, 1, 2, 3, 4, 5, 6, 7, 8], [8])])
def E4.B5 : List Nat := [0, 1, 3, 7, 15, 0, 32, 103, 255, 511]
theorem E4.c00 : aq1 .any (opsOf Tryz.f24 5) = E4.T5 := by kernel_rfl
theorem E4.bp9 : af3 E4.T5.2 E4.B5 = true := by kernel_rfl
def E4.T6 : Bool × List (List Nat × List Nat) := (true, [([], []), ([0], [0]), ([1], [1]), ([2], [2]), ([3], [3]), ([], []), ([5], [5]), ([6, 2], [6]), ([4, 7], [4, 7]), ([8], [8]), ([], []), ([10], [10]), ([11, 7], [11]), ([9, 12], [9, 12]), ([13, 12, 0, 1, 2, 3, 4, 5, 6, 7, 8, 9, 10, 11, 12, 13], [13])])
def E4.B6 : List Nat := [0, 1, 3, 7, 15, 0, 32, 103, 255, 511, 0, 1024, 3303, 8191, 16383]
theorem E4.cZ9 : aq1 .any (opsOf Tryz.f24 6) = E4.T6 := by kernel_rfl
theorem E4.cq3 : af3 E4.T6.2 E4.B6 = true := by kernel_rfl
set_option maxHeartbeats 8000000 in
set_option maxRecDepth 100000 in
theorem E4.calls (k : Nat) (r0 : Int) (D2 : Int) (R1 : ByteArray) (V1 : ByteArray) (Y2 : Int) (X7 : ByteArray) (X8 : ByteArray) (a96 : Option Addr) (a97 : Nat) (R3 : List (G6)) (a98 : Option Addr) (a99 : Nat) (R4 : List ByteArray) (r : ByteArray) (w : World) (a17 : Kd.C k32 w a96 R3.length R3) (a18 : R3.length ≤ a97) (a19 : Kd.C Kd.string w a98 R4.length R4) (a22 : R4.length ≤ a99) (h : E4.f k r0 D2 R1 V1 Y2 X7 X8 R3 R4 = some r) :
  Calls Tryz.prog 24 #[.agg #[.int .i64 r0, .int .i64 D2, .string R1, .string V1, .int .i64 Y2, .string X7, .string X8, .slice a96 R3.length a97, .slice a98 R4.length a99]] w fun e w' => e = .returned (.string r) ∧ Below w.heap.size w w' := by
 have by1 := Tryz.underlying37
 have aV0 := Tryz.underlying35
 have as2 := Tryz.underlying32
 have ar4 := j4.mk a17
 have ar5 := j4.mk a18
 clear a17 a18
 have ar6 := j4.mk a19
 have ar7 := j4.mk a22
 clear a19 a22
 have HB := j4.mk (Below.refl w.heap.size w)
 have H := h
 clear h
 unfold E4.f at H
 replace H := F6 H; rcases H with ⟨ak5, aJ6, H⟩ | ⟨ak5, aJ6, H⟩
 ·replace H := S2 H; obtain ⟨t102, A3, H⟩ := H
  replace H := ab8 H; obtain ⟨aD2, bT9, dR3, H⟩ := H
  replace H := O5 H; obtain ⟨c5, ap1, bc3, cM8, H⟩ := H
  have eh5 : (9223372036854775807 < 4 + t102.size + 1) = False := eq_false (by have z_ := c5; simp only [ByteArray.size_append] at z_; exact Nat.not_lt.2 z_)
  replace H := S2 H; obtain ⟨t103, A6, H⟩ := H
  replace H := O5 H; obtain ⟨c7, ak6, b77, dy5, H⟩ := H
  have eh6 : (9223372036854775807 < 4 + t102.size + 1 + t103.size) = False := eq_false (by have z_ := c7; simp only [ByteArray.size_append] at z_; exact Nat.not_lt.2 z_)
  obtain rfl := Option.some.inj H
  go_enter Tryz.func24, Tryz.ntmps24
  try go_wp2_with (first | ((with_reducible refine l9 (N := 1) rfl ?_); refine bx (cs := #[.int .i64 r0, .int .i64 D2, .string R1, .string V1, .int .i64 Y2, .string X7, .string X8, .slice a96 R3.length a97, .slice a98 R4.length a99]) (t := 37) ?_; intro j8 hg w8 o8 hb; have j5 := j4.mk (o8); have L8 := gS hg; have J7 := gS hg; replace HB := bS hb; clear hb o8 hg; have bZ0 := cz9 j5.out; have bZ1 := fz9 j5.out))
  replace j5 := j4.mk (I7 j5.out)
  replace HB := j4.mk (E9 HB.out)
  refine ah3 (n := 10) (S := fun w' => w'.cell? ⟨j8, 0, none⟩ = some (.int .i64 r0) ∧ w'.cell? ⟨j8, 1, none⟩ = some (.int .i64 D2) ∧ w'.cell? ⟨j8, 2, none⟩ = some (.string R1) ∧ w'.cell? ⟨j8, 3, none⟩ = some (.string V1) ∧ w'.cell? ⟨j8, 4, none⟩ = some (.int .i64 Y2) ∧ w'.cell? ⟨j8, 5, none⟩ = some (.string X7) ∧ w'.cell? ⟨j8, 6, none⟩ = some (.string X8) ∧ w'.cell? ⟨j8, 7, none⟩ = some (.slice a96 R3.length a97) ∧ w'.cell? ⟨j8, 8, none⟩ = some (.slice a98 R4.length a99)) (ds := []) #[false, false, false, false, false, false, false, false, false, false] z2_ rfl rfl ⟨(l7 j5.out 0).trans rfl, (l7 j5.out 1).trans rfl, (l7 j5.out 2).trans rfl, (l7 j5.out 3).trans rfl, (l7 j5.out 4).trans rfl, (l7 j5.out 5).trans rfl, (l7 j5.out 6).trans rfl, (l7 j5.out 7).trans rfl, (l7 j5.out 8).trans rfl⟩ (fun hHeld => ?_); refine a60 E4.eh4 E4.dS3 (fun HT_ HW_ => ?_)
  generalize w8.drew = w10 at j5 HB hHeld ⊢
  refine pu 0 7 ?_
  refine pu 5 12 ?_
  refine ta 1 8 ?_
  refine ta 6 13 ?_
  refine on 2 (some 9) (fun K hK => ?_)
  refine ar2 Tryz.func59 z2_ rfl #[.int .i64 Y2] (by rfl) rfl rfl zm ?_
  with_reducible refine (L7.calls k Y2 t102 _ A3.out).mono ?_
  rintro e w11 ⟨rfl, hb⟩
  refine ⟨_, rfl, ?_⟩
  replace j5 := kS j5 hb
  replace HB := bS hb
  (try clear hb)
  (try clear hb2)
  (try clear hk)
  (try clear hi)
  refine kO 9 hK (fun hHeld => ?_)
  clear hK K
  refine pu 3 10 ?_
  refine pu 4 11 ?_
  refine on 7 (some 14) (fun K hK => ?_)
  refine ar2 Tryz.func60 z2_ rfl #[.agg #[.string X7, .string X8, .slice a96 R3.length a97, .slice a98 R4.length a99]] (by rfl) rfl rfl zm ?_
  with_reducible refine (R5.calls k X7 X8 _ _ R3 _ _ R4 t103 _ ?a92 ?ad2 ?aN8 ?aN9 A6.out).mono ?_
  (case a92 => exact (by repeat (first | exact (Kd.a79 ar4.out HB.out) | (with_reducible refine Kd.K4 ?_ _) | (with_reducible refine Kd.K5 ?_ _) | (with_reducible refine Kd.Q1 ?_))))
  (case ad2 => exact ar5.out)
  (case aN8 => exact (by repeat (first | exact (Kd.a79 ar6.out HB.out) | (with_reducible refine Kd.K4 ?_ _) | (with_reducible refine Kd.K5 ?_ _) | (with_reducible refine Kd.Q1 ?_))))
  (case aN9 => exact ar7.out)
  rintro e w12 ⟨rfl, hb⟩
  refine ⟨_, rfl, ?_⟩
  replace j5 := kS j5 hb
  replace HB := bS hb
  (try clear hb)
  (try clear hb2)
  (try clear hk)
  (try clear hi)
  refine kO 14 hK (fun hHeld => ?_)
  clear hK K
  refine pu 8 15 ?_
  refine pu 9 2 ?_
  refine au9 (ah0 HT_.out z2_) ?_
  try go_wp2
  go_ret
  exact ⟨zr, zB⟩
 ·replace H := F6 H; rcases H with ⟨al5, aV3, H⟩ | ⟨al5, aV3, H⟩
  ·replace H := S2 H; obtain ⟨t104, A14, H⟩ := H
   replace H := ab8 H; obtain ⟨aN7, b79, dR9, H⟩ := H
   replace H := O5 H; obtain ⟨c16, b21, b90, dS2, H⟩ := H
   have et9 : (9223372036854775807 < 5 + t104.size + 1) = False := eq_false (by have z_ := c16; simp only [ByteArray.size_append] at z_; exact Nat.not_lt.2 z_)
   replace H := S2 H; obtain ⟨t105, A17, H⟩ := H
   replace H := O5 H; obtain ⟨c18, be7, bs7, cN2, H⟩ := H
   have dm6 : (9223372036854775807 < 5 + t104.size + 1 + t105.size) = False := eq_false (by have z_ := c18; simp only [ByteArray.size_append] at z_; exact Nat.not_lt.2 z_)
   obtain rfl := Option.some.inj H
   go_enter Tryz.func24, Tryz.ntmps24
   try go_wp2_with (first | ((with_reducible refine l9 (N := 1) rfl ?_); refine bx (cs := #[.int .i64 r0, .int .i64 D2, .string R1, .string V1, .int .i64 Y2, .string X7, .string X8, .slice a96 R3.length a97, .slice a98 R4.length a99]) (t := 37) ?_; intro j8 hg w19 o8 hb; have j5 := j4.mk (o8); have L8 := gS hg; have J7 := gS hg; replace HB := bS hb; clear hb o8 hg; have cI6 := cz9 j5.out; have cI7 := fz9 j5.out))
   replace j5 := j4.mk (I7 j5.out)
   replace HB := j4.mk (E9 HB.out)
   refine ah3 (n := 10) (S := fun w' => w'.cell? ⟨j8, 0, none⟩ = some (.int .i64 r0) ∧ w'.cell? ⟨j8, 1, none⟩ = some (.int .i64 D2) ∧ w'.cell? ⟨j8, 2, none⟩ = some (.string R1) ∧ w'.cell? ⟨j8, 3, none⟩ = some (.string V1) ∧ w'.cell? ⟨j8, 4, none⟩ = some (.int .i64 Y2) ∧ w'.cell? ⟨j8, 5, none⟩ = some (.string X7) ∧ w'.cell? ⟨j8, 6, none⟩ = some (.string X8) ∧ w'.cell? ⟨j8, 7, none⟩ = some (.slice a96 R3.length a97) ∧ w'.cell? ⟨j8, 8, none⟩ = some (.slice a98 R4.length a99)) (ds := []) #[false, false, false, false, false, false, false, false, false, false] z2_ rfl rfl ⟨(l7 j5.out 0).trans rfl, (l7 j5.out 1).trans rfl, (l7 j5.out 2).trans rfl, (l7 j5.out 3).trans rfl, (l7 j5.out 4).trans rfl, (l7 j5.out 5).trans rfl, (l7 j5.out 6).trans rfl, (l7 j5.out 7).trans rfl, (l7 j5.out 8).trans rfl⟩ (fun hHeld => ?_); refine a60 E4.c00 E4.bp9 (fun HT_ HW_ => ?_)
   generalize w19.drew = w21 at j5 HB hHeld ⊢
   refine pu 0 18 ?_
   refine pu 5 23 ?_
   refine ta 1 19 ?_
   refine ta 6 24 ?_
   refine on 2 (some 20) (fun K hK => ?_)
   refine ar2 Tryz.func59 z2_ rfl #[.int .i64 D2] (by rfl) rfl rfl zm ?_
   with_reducible refine (L7.calls k D2 t104 _ A14.out).mono ?_
   rintro e w22 ⟨rfl, hb⟩
   refine ⟨_, rfl, ?_⟩
   replace j5 := kS j5 hb
   replace HB := bS hb
   (try clear hb)
   (try clear hb2)
   (try clear hk)
   (try clear hi)
   refine kO 20 hK (fun hHeld => ?_)
   clear hK K
   refine pu 3 21 ?_
   refine pu 4 22 ?_
   refine on 7 (some 25) (fun K hK => ?_)
   refine ar2 Tryz.func61 z2_ rfl #[.agg #[.string R1, .string V1]] (by rfl) rfl rfl zm ?_
   with_reducible refine (a74.calls R1 V1 t105 _ A17.out).mono ?_
   rintro e w23 ⟨rfl, hb⟩
   refine ⟨_, rfl, ?_⟩
   replace j5 := kS j5 hb
   replace HB := bS hb
   (try clear hb)
   (try clear hb2)
   (try clear hk)
   (try clear hi)
   refine kO 25 hK (fun hHeld => ?_)
   clear hK K
   refine pu 8 26 ?_
   refine pu 9 2 ?_
   refine au9 (ah0 HT_.out z2_) ?_
   try go_wp2
   go_ret
   exact ⟨zr, zB⟩
  ·replace H := S2 H; obtain ⟨t106, A24, H⟩ := H
   replace H := ab8 H; obtain ⟨ci0, dm7, eu0, H⟩ := H
   replace H := O5 H; obtain ⟨c26, cd6, dm8, dS4, H⟩ := H
   have dS5 : (9223372036854775807 < 6 + t106.size + 1) = False := eq_false (by have z_ := c26; simp only [ByteArray.size_append] at z_; exact Nat.not_lt.2 z_)
   replace H := S2 H; obtain ⟨t107, A27, H⟩ := H
   replace H := O5 H; obtain ⟨c28, dS6, dS7, eu1, H⟩ := H
   have eu2 : (9223372036854775807 < 6 + t106.size + 1 + t107.size) = False := eq_false (by have z_ := c28; simp only [ByteArray.size_append] at z_; exact Nat.not_lt.2 z_)
   replace H := O5 H; obtain ⟨c29, dm9, dn0, eu3, H⟩ := H
   have eu4 : (9223372036854775807 < 6 + t106.size + 1 + t107.size + 1) = False := eq_false (by have z_ := c29; simp only [ByteArray.size_append] at z_; exact Nat.not_lt.2 z_)
   replace H := S2 H; obtain ⟨t108, A30, H⟩ := H
   replace H := O5 H; obtain ⟨c31, cN3, cN4, cN5, H⟩ := H
   have dS8 : (9223372036854775807 < 6 + t106.size + 1 + t107.size + 1 + t108.size) = False := eq_false (by have z_ := c31; simp only [ByteArray.size_append] at z_; exact Nat.not_lt.2 z_)
   obtain rfl := Option.some.inj H
   go_enter Tryz.func24, Tryz.ntmps24
   try go_wp2_with (first | ((with_reducible refine l9 (N := 1) rfl ?_); refine bx (cs := #[.int .i64 r0, .int .i64 D2, .string R1, .string V1, .int .i64 Y2, .string X7, .string X8, .slice a96 R3.length a97, .slice a98 R4.length a99]) (t := 37) ?_; intro j8 hg w32 o8 hb; have j5 := j4.mk (o8); have L8 := gS hg; have J7 := gS hg; replace HB := bS hb; clear hb o8 hg; have bT7 := cz9 j5.out; have bT8 := fz9 j5.out))
   replace j5 := j4.mk (I7 j5.out)
   replace HB := j4.mk (E9 HB.out)
   refine ah3 (n := 15) (S := fun w' => w'.cell? ⟨j8, 0, none⟩ = some (.int .i64 r0) ∧ w'.cell? ⟨j8, 1, none⟩ = some (.int .i64 D2) ∧ w'.cell? ⟨j8, 2, none⟩ = some (.string R1) ∧ w'.cell? ⟨j8, 3, none⟩ = some (.string V1) ∧ w'.cell? ⟨j8, 4, none⟩ = some (.int .i64 Y2) ∧ w'.cell? ⟨j8, 5, none⟩ = some (.string X7) ∧ w'.cell? ⟨j8, 6, none⟩ = some (.string X8) ∧ w'.cell? ⟨j8, 7, none⟩ = some (.slice a96 R3.length a97) ∧ w'.cell? ⟨j8, 8, none⟩ = some (.slice a98 R4.length a99)) (ds := []) #[false, false, false, false, false, false, false, false, false, false, false, false, false, false, false] z2_ rfl rfl ⟨(l7 j5.out 0).trans rfl, (l7 j5.out 1).trans rfl, (l7 j5.out 2).trans rfl, (l7 j5.out 3).trans rfl, (l7 j5.out 4).trans rfl, (l7 j5.out 5).trans rfl, (l7 j5.out 6).trans rfl, (l7 j5.out 7).trans rfl, (l7 j5.out 8).trans rfl⟩ (fun hHeld => ?_); refine a60 E4.cZ9 E4.cq3 (fun HT_ HW_ => ?_)
   generalize w32.drew = w34 at j5 HB hHeld ⊢
   refine pu 0 27 ?_
   refine pu 5 32 ?_
   refine pu 10 37 ?_
   refine ta 1 28 ?_
   refine ta 6 33 ?_
   refine ta 11 38 ?_
   refine on 2 (some 29) (fun K hK => ?_)
   refine ar2 Tryz.func59 z2_ rfl #[.int .i64 D2] (by rfl) rfl rfl zm ?_
   with_reducible refine (L7.calls k D2 t106 _ A24.out).mono ?_
   rintro e w35 ⟨rfl, hb⟩
   refine ⟨_, rfl, ?_⟩
   replace j5 := kS j5 hb
   replace HB := bS hb
   (try clear hb)
   (try clear hb2)
   (try clear hk)
   (try clear hi)
   refine kO 29 hK (fun hHeld => ?_)
   clear hK K
   refine pu 3 30 ?_
   refine pu 4 31 ?_
   refine on 7 (some 34) (fun K hK => ?_)
   refine ar2 Tryz.func61 z2_ rfl #[.agg #[.string R1, .string V1]] (by rfl) rfl rfl zm ?_
   with_reducible refine (a74.calls R1 V1 t107 _ A27.out).mono ?_
   rintro e w36 ⟨rfl, hb⟩
   refine ⟨_, rfl, ?_⟩
   replace j5 := kS j5 hb
   replace HB := bS hb
   (try clear hb)
   (try clear hb2)
   (try clear hk)
   (try clear hi)
   refine kO 34 hK (fun hHeld => ?_)
   clear hK K
   refine pu 8 35 ?_
   refine pu 9 36 ?_
   refine on 12 (some 39) (fun K hK => ?_)
   refine ar2 Tryz.func59 z2_ rfl #[.int .i64 Y2] (by rfl) rfl rfl zm ?_
   with_reducible refine (L7.calls k Y2 t108 _ A30.out).mono ?_
   rintro e w37 ⟨rfl, hb⟩
   refine ⟨_, rfl, ?_⟩
   replace j5 := kS j5 hb
   replace HB := bS hb
   (try clear hb)
   (try clear hb2)
   (try clear hk)
   (try clear hi)
   refine kO 39 hK (fun hHeld => ?_)
   clear hK K
   refine pu 13 40 ?_
   refine pu 14 2 ?_
   refine au9 (ah0 HT_.out z2_) ?_
   try go_wp2
   go_ret
   exact ⟨zr, zB⟩
def al2.f (k : Nat) (r0 : Int) (D2 : Int) (R1 : ByteArray) (V1 : ByteArray) (Y2 : Int) (X7 : ByteArray) (X8 : ByteArray) (R3 : List (G6)) (R4 : List ByteArray) : Option (ByteArray) := (S6.f k r0 D2 R1 V1 Y2 X7 X8 R3 R4).bind fun t102 => (if t102 = true then ((E4.f k r0 D2 R1 V1 Y2 X7 X8 R3 R4).bind fun t103 => (some t103)) else (some (⟨#[]⟩ : ByteArray)))
set_option maxHeartbeats 8000000 in
set_option maxRecDepth 100000 in
theorem al2.calls (k : Nat) (r0 : Int) (D2 : Int) (R1 : ByteArray) (V1 : ByteArray) (Y2 : Int) (X7 : ByteArray) (X8 : ByteArray) (a96 : Option Addr) (a97 : Nat) (R3 : List (G6)) (a98 : Option Addr) (a99 : Nat) (R4 : List ByteArray) (r : ByteArray) (w : World) (a17 : Kd.C k32 w a96 R3.length R3) (a18 : R3.length ≤ a97) (a19 : Kd.C Kd.string w a98 R4.length R4) (a22 : R4.length ≤ a99) (h : al2.f k r0 D2 R1 V1 Y2 X7 X8 R3 R4 = some r) :
  Calls Tryz.prog 8 #[.agg #[.int .i64 r0, .int .i64 D2, .string R1, .string V1, .int .i64 Y2, .string X7, .string X8, .slice a96 R3.length a97, .slice a98 R4.length a99]] w fun e w' => e = .returned (.string r) ∧ Below w.heap.size w w' := by
 have by1 := Tryz.underlying37
 have ar4 := j4.mk a17
 have ar5 := j4.mk a18
 clear a17 a18
 have ar6 := j4.mk a19
 have ar7 := j4.mk a22
 clear a19 a22
 have HB := j4.mk (Below.refl w.heap.size w)
 have H := h
 clear h
 unfold al2.f at H
 replace H := S2 H; obtain ⟨t102, A2, H⟩ := H
 replace H := itb H; rcases H with ⟨rfl, H⟩ | ⟨rfl, H⟩
 ·replace H := S2 H; obtain ⟨t103, A4, H⟩ := H
  obtain rfl := Option.some.inj H
  go_enter Tryz.func8, Tryz.ntmps8
  go_wp2_with (first | ((with_reducible refine l9 (N := 1) rfl ?_); refine bx (cs := #[.int .i64 r0, .int .i64 D2, .string R1, .string V1, .int .i64 Y2, .string X7, .string X8, .slice a96 R3.length a97, .slice a98 R4.length a99]) (t := 37) ?_; intro j8 hg w5 o8 hb; have j5 := j4.mk (o8); have L8 := gS hg; have J7 := gS hg; replace HB := bS hb; clear hb o8 hg; have ct4 := cz9 j5.out; have ct5 := fz9 j5.out) | ((with_reducible refine j6 (f := 23) rfl ?_); refine gv 4 Tryz.func23 #[.agg #[.int .i64 r0, .int .i64 D2, .string R1, .string V1, .int .i64 Y2, .string X7, .string X8, .slice a96 R3.length a97, .slice a98 R4.length a99]] (S6.calls (w := _) (a17 := cB ar4) (a18 := ar5.out) (a19 := cB ar6) (a22 := ar7.out) (h := A2.out)) ?_; intro w7 hb; replace j5 := kS j5 hb; replace HB := bS hb; clear hb; have dq7 := cz9 j5.out; have dq8 := fz9 j5.out) | ((with_reducible refine j6 (f := 24) rfl ?_); refine gv 7 Tryz.func24 #[.agg #[.int .i64 r0, .int .i64 D2, .string R1, .string V1, .int .i64 Y2, .string X7, .string X8, .slice a96 R3.length a97, .slice a98 R4.length a99]] (E4.calls (w := _) (a17 := cB ar4) (a18 := ar5.out) (a19 := cB ar6) (a22 := ar7.out) (h := A4.out)) ?_; intro w9 hb; replace j5 := kS j5 hb; replace HB := bS hb; clear hb))
  go_ret
  exact ⟨zr, zB⟩
 ·obtain rfl := Option.some.inj H
  go_enter Tryz.func8, Tryz.ntmps8
  go_wp2_with (first | ((with_reducible refine l9 (N := 1) rfl ?_); refine bx (cs := #[.int .i64 r0, .int .i64 D2, .string R1, .string V1, .int .i64 Y2, .string X7, .string X8, .slice a96 R3.length a97, .slice a98 R4.length a99]) (t := 37) ?_; intro j8 hg w10 o8 hb; have j5 := j4.mk (o8); have L8 := gS hg; have J7 := gS hg; replace HB := bS hb; clear hb o8 hg; have be4 := cz9 j5.out; have be5 := fz9 j5.out) | ((with_reducible refine j6 (f := 23) rfl ?_); refine gv 4 Tryz.func23 #[.agg #[.int .i64 r0, .int .i64 D2, .string R1, .string V1, .int .i64 Y2, .string X7, .string X8, .slice a96 R3.length a97, .slice a98 R4.length a99]] (S6.calls (w := _) (a17 := cB ar4) (a18 := ar5.out) (a19 := cB ar6) (a22 := ar7.out) (h := A2.out)) ?_; intro w12 hb; replace j5 := kS j5 hb; replace HB := bS hb; clear hb))
  go_ret
  exact ⟨zr, zB⟩
end Go.Proofs.YtbncnjgflhoneaaGreatDoor.F
namespace Go.Proofs.YtbncnjgflhoneaaGreatDoor.F
open Go.RowKit Go.Proofs.YtbncnjgflhoneaaGreatDoor.Hand Go.Proofs.YtbncnjgflhoneaaGreatDoorW.l8 Go.Proofs.YtbncnjgflhoneaaGreatDoorW.s9 Go.Proofs.YtbncnjgflhoneaaGreatDoorW.y9
def Q2.f (r0 : ByteArray) (D2 : ByteArray) : Option (ByteArray) := (O1.f r0 D2).bind fun t102 => (if t102 = true then (some (⟨#[60, 62]⟩ : ByteArray)) else (if 1 + r0.size ≤ 9223372036854775807 then (if ((⟨#[60]⟩ : ByteArray) ++ r0).size + 1 ≤ 9223372036854775807 then (if (((⟨#[60]⟩ : ByteArray) ++ r0) ++ (⟨#[64]⟩ : ByteArray)).size + D2.size ≤ 9223372036854775807 then (if ((((⟨#[60]⟩ : ByteArray) ++ r0) ++ (⟨#[64]⟩ : ByteArray)) ++ D2).size + 1 ≤ 9223372036854775807 then (some (((((⟨#[60]⟩ : ByteArray) ++ r0) ++ (⟨#[64]⟩ : ByteArray)) ++ D2) ++ (⟨#[62]⟩ : ByteArray))) else (none)) else (none)) else (none)) else (none)))
set_option maxHeartbeats 8000000 in
set_option maxRecDepth 100000 in
theorem Q2.calls (r0 : ByteArray) (D2 : ByteArray) (r : ByteArray) (w : World) (h : Q2.f r0 D2 = some r) :
  Calls Tryz.prog 29 #[.agg #[.string r0, .string D2]] w fun e w' => e = .returned (.string r) ∧ Below w.heap.size w w' := by
 have as2 := Tryz.underlying32
 have HB := j4.mk (Below.refl w.heap.size w)
 have H := h
 clear h
 unfold Q2.f at H
 replace H := S2 H; obtain ⟨t102, A2, H⟩ := H
 replace H := itb H; rcases H with ⟨rfl, H⟩ | ⟨rfl, H⟩
 ·obtain rfl := Option.some.inj H
  go_enter Tryz.func29, Tryz.ntmps29
  go_wp2_with (first | ((with_reducible refine l9 (N := 1) rfl ?_); refine bx (cs := #[.string r0, .string D2]) (t := 32) ?_; intro j8 hg w4 o8 hb; have j5 := j4.mk (o8); have L8 := gS hg; have J7 := gS hg; replace HB := bS hb; clear hb o8 hg; have dq9 := cz2 j5.out; have dr0 := fz2 j5.out) | ((with_reducible refine j6 (f := 38) rfl ?_); refine gv 4 Tryz.func38 _ (O1.calls (w := _) (h := A2.out)) ?_; intro w6 hb; replace j5 := kS j5 hb; replace HB := bS hb; clear hb))
  go_ret
  exact ⟨zr, zB⟩
 ·replace H := ab8 H; obtain ⟨ak6, b77, dy5, H⟩ := H
  replace H := O5 H; obtain ⟨c8, aN6, bQ9, eh2, H⟩ := H
  have eh3 : (9223372036854775807 < 1 + r0.size + 1) = False := eq_false (by have z_ := c8; simp only [ByteArray.size_append] at z_; exact Nat.not_lt.2 z_)
  replace H := O5 H; obtain ⟨c9, aF9, bs6, dy6, H⟩ := H
  have dS0 : (9223372036854775807 < 1 + r0.size + 1 + D2.size) = False := eq_false (by have z_ := c9; simp only [ByteArray.size_append] at z_; exact Nat.not_lt.2 z_)
  replace H := O5 H; obtain ⟨c10, aF1, b92, cq2, H⟩ := H
  have dS1 : (9223372036854775807 < 1 + r0.size + 1 + D2.size + 1) = False := eq_false (by have z_ := c10; simp only [ByteArray.size_append] at z_; exact Nat.not_lt.2 z_)
  obtain rfl := Option.some.inj H
  go_enter Tryz.func29, Tryz.ntmps29
  go_wp2_with (first | ((with_reducible refine l9 (N := 1) rfl ?_); refine bx (cs := #[.string r0, .string D2]) (t := 32) ?_; intro j8 hg w11 o8 hb; have j5 := j4.mk (o8); have L8 := gS hg; have J7 := gS hg; replace HB := bS hb; clear hb o8 hg; have bC8 := cz2 j5.out; have bC9 := fz2 j5.out) | ((with_reducible refine j6 (f := 38) rfl ?_); refine gv 4 Tryz.func38 _ (O1.calls (w := _) (h := A2.out)) ?_; intro w13 hb; replace j5 := kS j5 hb; replace HB := bS hb; clear hb; have bD0 := cz2 j5.out; have bD1 := fz2 j5.out))
  go_ret
  exact ⟨zr, zB⟩
end Go.Proofs.YtbncnjgflhoneaaGreatDoor.F
namespace Go.Proofs.YtbncnjgflhoneaaGreatDoor.Hand
open Go.RowKit
set_option maxHeartbeats 1000000 in
set_option maxRecDepth 100000 in
theorem c54 (b : Nat) (w : World) (h0 : w.cell? ⟨b, 0, none⟩ = some (.pointer (some ⟨b, 0, none⟩))) :
  Calls Tryz.prog 140 #[.pointer (some ⟨b, 0, none⟩)] w fun e w' => e = .returned (.tuple #[]) ∧ w' = w := by
 obtain ⟨j, hj, _⟩ := Option.map_eq_some_iff.1 (show (Tryz.prog.info? 125).map (·.size) = some 2 by kernel_rfl)
 go_enter Tryz.func140, Tryz.ntmps140
 go_wp2
 rw [Lib.run_neq_ptr_same w _ Tryz.underlying123 hj]
 go_wp2
 go_end0
 exact ⟨rfl, rfl⟩
set_option maxHeartbeats 1000000 in
set_option maxRecDepth 100000 in
theorem bU1 (b : Nat) (w : World) (h0 : w.cell? ⟨b, 0, none⟩ = some (.pointer none)) (hsh : w.shape? b = some (125, 2)) (hfz : w.frozen? ⟨b, 0, none⟩ = false) :
  Calls Tryz.prog 140 #[.pointer (some ⟨b, 0, none⟩)] w fun e w' => e = .returned (.tuple #[]) ∧ w' = w.setCell ⟨b, 0, none⟩ (.pointer (some ⟨b, 0, none⟩)) := by
 obtain ⟨j, hj, hjs⟩ := Option.map_eq_some_iff.1 (show (Tryz.prog.info? 125).map (·.size) = some 2 by kernel_rfl)
 go_enter Tryz.func140, Tryz.ntmps140
 go_wp2
 rw [Lib.run_to_unsafe w ⟨b, 0, none⟩ Tryz.underlying123 Tryz.underlying176 hj (by rw [hjs]; decide) hsh (Nat.zero_lt_succ 1)]
 simp only [Result.andThen]
 rw [Oper.upon_value]
 go_wp2
 rw [run_callFunc_extern Tryz.func172 (by kernel_rfl) (by kernel_rfl) (by kernel_rfl) (e := Extern.AbiNoEscape.same) (by kernel_rfl)]
 rw [Lib.run_noEscape]
 simp only [Result.andThen]
 rw [Oper.upon_value]
 go_wp2
 rw [Lib.run_from_unsafe w ⟨b, 0, none⟩ Tryz.underlying176 Tryz.underlying123 hj hsh (by kernel_rfl)]
 simp only [Result.andThen]
 rw [Oper.upon_value]
 go_wp2
 go_end0
 exact ⟨rfl, rfl⟩
theorem b25 (B b : Nat) (bs : List Value) (w : World) (h : Lib.IsBuilder 125 5 B b bs w) :
  Calls Tryz.prog 140 #[.pointer (some ⟨b, 0, none⟩)] w fun e w' => e = .returned (.tuple #[]) ∧ (Lib.BuilderAt 125 5 B b (.pointer (some ⟨b, 0, none⟩)) bs w' ∧ Below B w w') := by
 rcases h with h | h
 ·refine (bU1 b w h.cell0 h.shape h.frozen0).mono ?_
  rintro e w' ⟨rfl, rfl⟩
  exact ⟨rfl, h.used _, (Below.refl B w).setCell (p := ⟨b, 0, none⟩) h.1 _⟩
 ·refine (c54 b w h.cell0).mono ?_
  rintro e w' ⟨rfl, rfl⟩
  exact ⟨rfl, h, Below.refl B _⟩
theorem infoByte : (Tryz.prog.info? 5).map (fun i => (i.zero, i.size, i.bytes)) = some (some (.int .u8 0), 1, 1) := by kernel_rfl
set_option maxHeartbeats 2000000 in
set_option maxRecDepth 100000 in
theorem bK2 (B b : Nat) (bs : List Value) (c : Int) (w : World) (h : Lib.IsBuilder 125 5 B b bs w) (hlen : bs.length + 1 ≤ 140737488355328) (hBw : B ≤ w.heap.size) :
  Calls Tryz.prog 106 #[.pointer (some ⟨b, 0, none⟩), .int .u8 c] w fun e w' => e = .returned .nilIface ∧ (Lib.BuilderAt 125 5 B b (.pointer (some ⟨b, 0, none⟩)) (bs ++ [.int .u8 c]) w' ∧ Below B w w') := by
 obtain ⟨i0, hi, hz0, hz1, hz2⟩ := info_parts infoByte
 go_enter Tryz.func106, Tryz.ntmps106
 go_wp2_with (go_at_call 140; refine (b25 B b bs _ h).mono ?_)
 rintro e w1 ⟨rfl, h1, hb1⟩
 obtain ⟨hB, v, hbk, hown, hne⟩ := h1
 have c0 : w1.cell? ⟨b, 0, none⟩ = some (.pointer (some ⟨b, 0, none⟩)) := by rw [Lib.cell_of_heap hbk]; rfl
 have c1 : w1.cell? ⟨b, 1, none⟩ = some v := by rw [Lib.cell_of_heap hbk]; rfl
 go_wp2_with (at_builtin; refine wpList_append_own _ rfl _ _ 41 rfl B 5 i0 (.int .u8 0) 1 1 Tryz.underlying41 hi hz0 hz1 hz2 rfl (by decide) _ _ _ rfl (hown.alloc _) ⟨w1.heap.size, 0, none⟩ 1 1 [.int .u8 c] rfl rfl ?c1 ?c2 ?c3 ?c4 ?c5 ?_)
 case c1 =>
  intro j u hj
  match j, hj with
  | 0, hj => simp at hj; subst hj; simp [Addr.add]
 case c2 => intro u hu; simp at hu; subst hu; rfl
 case c3 => unfold maxLen; omega
 case c4 => omega
 case c5 => have := hb1.size; simp; omega
 intro v' w2 hown' hgrow _
 have hlt : b < w1.heap.size := by
  rcases Nat.lt_or_ge b w1.heap.size with h' | h'
  ·exact h'
  ·simp [Array.getElem?_eq_none h'] at hbk
 have hb2 : w2.heap[b]? = some (.cells #[.pointer (some ⟨b, 0, none⟩), v] 125 (0, 0)) := by
  rw [hgrow.block b (by simp; omega) (fun e => hne e.symm), Lib.alloc_old w1 _ b hlt]
  exact hbk
 have d0 : w2.cell? ⟨b, 0, none⟩ = some (.pointer (some ⟨b, 0, none⟩)) := by rw [Lib.cell_of_heap hb2]; rfl
 have d1 : w2.cell? ⟨b, 1, none⟩ = some v := by rw [Lib.cell_of_heap hb2]; rfl
 have f1 : w2.frozen? ⟨b, 1, none⟩ = false := Lib.frozen_of_heap hb2 1
 obtain ⟨g, cap, rfl⟩ : ∃ g cap, v' = .slice (some ⟨g, 0, none⟩) (bs.length + 1) cap := by
  rcases hown'.2 with ⟨_, h0⟩ | ⟨g, cap, cur, hv, _⟩
  ·omega
  ·exact ⟨g, cap, hv⟩
 go_wp2
 go_ret
 refine ⟨rfl, ?_, ?_⟩
 ·exact Lib.BuilderAt.put (T := 125) (e := 5) hB hb2 (bs' := bs ++ [.int .u8 c]) (by simpa using hown') (by decide)
 ·exact ((hb1.alloc (by have := hb1.size; omega) _).grown hgrow (by have := hb1.size; simp; omega) (fun k hk => (hown.lt k hk).1)).setCell (p := ⟨b, 1, none⟩) hB _
set_option maxHeartbeats 2000000 in
set_option maxRecDepth 100000 in
theorem aS7 (B b : Nat) (bs : List Value) (s : ByteArray) (w : World) (h : Lib.IsBuilder 125 5 B b bs w) (hlen : bs.length + s.size ≤ 140737488355328) (hBw : B ≤ w.heap.size) :
  Calls Tryz.prog 107 #[.pointer (some ⟨b, 0, none⟩), .string s] w fun e w' => e = .returned (.tuple #[.int .i64 s.size, .nilIface]) ∧ (Lib.BuilderAt 125 5 B b (.pointer (some ⟨b, 0, none⟩)) (bs ++ Lib.strCells s) w' ∧ Below B w w') := by
 obtain ⟨i0, hi, hz0, hz1, hz2⟩ := info_parts infoByte
 go_enter Tryz.func107, Tryz.ntmps107
 go_wp2_with (go_at_call 140; refine (b25 B b bs _ h).mono ?_)
 rintro e w1 ⟨rfl, h1, hb1⟩
 obtain ⟨hB, v, hbk, hown, hne⟩ := h1
 have c0 : w1.cell? ⟨b, 0, none⟩ = some (.pointer (some ⟨b, 0, none⟩)) := by rw [Lib.cell_of_heap hbk]; rfl
 have c1 : w1.cell? ⟨b, 1, none⟩ = some v := by rw [Lib.cell_of_heap hbk]; rfl
 go_wp2_with (at_builtin; refine Lib.wpList_append_own_string _ rfl _ _ 41 9 rfl B 5 i0 Tryz.underlying41 Tryz.underlying9 hi hz0 hz1 hz2 _ _ _ rfl hown s rfl ?c3 ?c4 ?c5 ?_)
 case c3 => unfold maxLen; omega
 case c4 => omega
 case c5 => have := hb1.size; omega
 intro v' w2 hown' hgrow _
 have hlt : b < w1.heap.size := by
  rcases Nat.lt_or_ge b w1.heap.size with h' | h'
  ·exact h'
  ·simp [Array.getElem?_eq_none h'] at hbk
 have hb2 : w2.heap[b]? = some (.cells #[.pointer (some ⟨b, 0, none⟩), v] 125 (0, 0)) := by
  rw [hgrow.block b hlt (fun e => hne e.symm)]
  exact hbk
 have d0 : w2.cell? ⟨b, 0, none⟩ = some (.pointer (some ⟨b, 0, none⟩)) := by rw [Lib.cell_of_heap hb2]; rfl
 have d1 : w2.cell? ⟨b, 1, none⟩ = some v := by rw [Lib.cell_of_heap hb2]; rfl
 have f1 : w2.frozen? ⟨b, 1, none⟩ = false := Lib.frozen_of_heap hb2 1
 obtain ⟨ao, n', cap, rfl⟩ : ∃ ao n' cap, v' = .slice ao n' cap := by
  rcases hown'.2 with ⟨hv, _⟩ | ⟨g, cap, cur, hv, _⟩
  ·exact ⟨_, _, _, hv⟩
  ·exact ⟨_, _, _, hv⟩
 go_wp2
 go_ret2
 refine ⟨rfl, ?_, ?_⟩
 ·exact Lib.BuilderAt.put (T := 125) (e := 5) hB hb2 (bs' := bs ++ Lib.strCells s) (by simpa [Lib.strCells_length] using hown') (by decide)
 ·exact (hb1.grown hgrow (by have := hb1.size; omega) (fun k hk => (hown.lt k hk).1)).setCell (p := ⟨b, 1, none⟩) hB _
end Go.Proofs.YtbncnjgflhoneaaGreatDoor.Hand
namespace Go.Proofs.YtbncnjgflhoneaaGreatDoor.Hand
open Go.RowKit Go.Proofs.YtbncnjgflhoneaaGreatDoorW.l8 Go.Proofs.YtbncnjgflhoneaaGreatDoorW.s9 Go.Proofs.YtbncnjgflhoneaaGreatDoorW.y9
def aB2 (s : List UInt8) : List UInt8 := (if s.head? = some 46 then [46] else []) ++ (s ++ [13, 10])
def Z2 (l : List ByteArray) : List UInt8 := (l.flatMap fun s => aB2 s.data.toList) ++ [46, 13, 10]
def ac7.f (l : List ByteArray) : Option ByteArray := if (Z2 l).length ≤ 1099511627776 then some ⟨(Z2 l).toArray⟩ else none
def upTo (l : List ByteArray) (k : Nat) : List UInt8 := (l.take k).flatMap fun s => aB2 s.data.toList
theorem cw0 (l : List ByteArray) (k : Nat) (h : k < l.length) : upTo l (k + 1) = upTo l k ++ aB2 (l[k]).data.toList := by
 unfold upTo
 rw [List.take_succ_eq_append_getElem h, List.flatMap_append]
 simp
theorem cq4 (l : List ByteArray) (k : Nat) : (upTo l k).length + 3 ≤ (Z2 l).length := by
 have e : Z2 l = upTo l k ++ ((l.drop k).flatMap fun s => aB2 s.data.toList) ++ [46, 13, 10] := by
  unfold Z2 upTo
  rw [← List.flatMap_append, List.take_append_drop]
 rw [e, List.length_append, List.length_append, List.length_cons, List.length_cons, List.length_singleton]
 omega
theorem cN6 (l : List ByteArray) : upTo l l.length ++ [46, 13, 10] = Z2 l := by
 unfold upTo Z2
 rw [List.take_length]
theorem cN7 (s : ByteArray) : Lib.hasPrefix s.data.toList (⟨#[46]⟩ : ByteArray).data.toList = decide (s.data.toList.head? = some 46) := by
 cases hs : s.data.toList with
 | nil => rfl
 | cons a l =>
  show Lib.hasPrefix (a :: l) [46] = _
  rw [Bool.eq_iff_iff]
  simp only [Lib.hasPrefix, List.isPrefixOf, Bool.and_true, List.head?_cons, Option.some.injEq, decide_eq_true_eq, beq_iff_eq]
  exact ⟨fun h => h.symm, fun h => h.symm⟩
theorem c55 (l : List UInt8) (c : UInt8) : Lib.byteCells l ++ [.int .u8 c.toNat] = Lib.byteCells (l ++ [c]) := by simp [Lib.byteCells]
theorem b48 (l : List UInt8) (s : ByteArray) : Lib.byteCells l ++ Lib.strCells s = Lib.byteCells (l ++ s.data.toList) := by simp [Lib.byteCells, Lib.strCells]
theorem aI3 {α : Type} (d : α) (l : List α) (k : Nat) (h : k < l.length) : H9 d l (k : Int) = l[k] := by
 unfold H9
 simp [List.getD_eq_getElem?_getD, h]
def Holds (w : World) (l : List ByteArray) (k : Nat) (wr : World) : Prop := Lib.IsBuilder 125 5 w.heap.size w.heap.size (Lib.byteCells (upTo l k)) wr ∧ Below w.heap.size w wr
set_option maxHeartbeats 2000000 in
set_option maxRecDepth 100000 in
theorem ac7.calls (A0 : Option Addr) (c0 : Nat) (l0 : List ByteArray) (r : ByteArray) (w : World) (hr0 : Kd.C Kd.string w A0 l0.length l0) (_hc0 : l0.length ≤ c0) (h : ac7.f l0 = some r) :
  Calls Tryz.prog 65 #[.slice A0 l0.length c0] w fun e w' => e = .returned (.string r) ∧ Below w.heap.size w w' := by
 unfold ac7.f at h
 split at h
 ·rename_i hlim
  injection h with h
  have HR := j4.mk h
  have hm := hr0.2.1
  have HR0 := j4.mk hr0
  have HL := j4.mk hlim
  have H0 := j4.mk (show Holds w l0 0 (w.alloc (.cells #[.pointer none, .slice none 0 0] 125)) from ⟨Lib.fresh_isBuilder 125 5 w, (Below.refl _ _).alloc (Nat.le_refl _) _⟩)
  clear h hr0 hlim
  go_enter Tryz.func65, Tryz.ntmps65
  go_wp2
  go_loopw [8] (fun i wr => ∃ k : Nat, k ≤ l0.length ∧ i = .int .i64 k ∧ j4 (Holds w l0 k wr)) (fun i _ => l0.length - (intOf i).toNat)
  case atStart => exact ⟨0, by omega, rfl, H0⟩
  case round =>
   clear H0
   obtain ⟨k, hk, rfl, HH⟩ := hrel
   by_cases hlt : k < l0.length
   ·obtain ⟨ad, e, hx⟩ := Kd.E5 HR0.out k (by omega) (by omega)
    cases e
    rw [aI3 _ _ _ hlt, Int.toNat_natCast] at hx
    replace hx := (HH.out.2.cell (World.block_lt_of_cell? w _ hx)).trans hx
    have hsu := cw0 l0 k hlt
    have hle := cq4 l0 (k + 1)
    have hl := HL.out
    generalize l0[k] = s at hx hsu
    by_cases hd : s.data.toList.head? = some 46
    ·have e1 : upTo l0 (k + 1) = upTo l0 k ++ [46] ++ (s.data.toList ++ [13, 10]) := by rw [hsu]; unfold aB2; rw [if_pos hd, List.append_assoc]
     have e2 : (upTo l0 (k + 1)).length = (upTo l0 k).length + 1 + (s.size + 2) := by rw [e1]; simp [E3]; omega
     have hp : Lib.hasPrefix s.data.toList (⟨#[46]⟩ : ByteArray).data.toList = true := by rw [cN7, decide_eq_true hd]
     have HP := j4.mk (fun W => Tryz.strings_HasPrefix s ⟨#[46]⟩ W)
     rw [hp] at HP
     have E1 := j4.mk e1
     have B1 := j4.mk (show (upTo l0 k).length + 1 + (s.size + 2) ≤ 1099511627776 by omega)
     have z1 : (9223372036854775807 < s.size + 2) = False := eq_false (by have := B1.out; omega)
     have SZ := j4.mk (show (s ++ (⟨#[13, 10]⟩ : ByteArray)).size = s.size + 2 by rw [ByteArray.size_append]; rfl)
     clear e1 hsu hle hl hd hp e2
     go_wp2_with (first
      | (go_at_call 105; refine (HP.out _).mono ?_; rintro e w' ⟨rfl, rfl⟩)
      | (go_at_call 106; refine (bK2 w.heap.size w.heap.size (Lib.byteCells (upTo l0 k)) 46 _ HH.out.1 (by rw [Lib.byteCells_length]; have := B1.out; omega) HH.out.2.size).mono ?_; rintro e w1 ⟨rfl, hb1, dS9⟩; have HB1 := j4.mk hb1; have HL1 := j4.mk dS9; clear hb1 dS9)
      | (go_at_call 107; refine (aS7 w.heap.size w.heap.size _ _ _ (.inr HB1.out) (by rw [List.length_append, Lib.byteCells_length, SZ.out, List.length_singleton]; have := B1.out; omega) (Nat.le_trans HH.out.2.size HL1.out.size)).mono ?_; rintro e w2 ⟨rfl, hb2, bU2⟩; have HB2 := j4.mk hb2; have HL2 := j4.mk bU2; clear hb2 bU2))
     go_roundw
     case rel => exact ⟨k + 1, by omega, by go_num, ⟨⟨.inr (by have h3 := HB2.out; rw [show ([.int .u8 46] : List Value) = [.int .u8 ((46 : UInt8).toNat : Int)] from rfl, c55 (upTo l0 k) 46, b48] at h3; rw [E1.out]; simpa using h3), (HH.out.2.trans HL1.out).trans HL2.out⟩⟩⟩
     case measure => simp [intOf]; omega
    ·have e1 : upTo l0 (k + 1) = upTo l0 k ++ (s.data.toList ++ [13, 10]) := by rw [hsu]; unfold aB2; rw [if_neg hd, List.nil_append]
     have e2 : (upTo l0 (k + 1)).length = (upTo l0 k).length + (s.size + 2) := by rw [e1]; simp [E3]
     have hp : Lib.hasPrefix s.data.toList (⟨#[46]⟩ : ByteArray).data.toList = false := by rw [cN7, decide_eq_false hd]
     have HP := j4.mk (fun W => Tryz.strings_HasPrefix s ⟨#[46]⟩ W)
     rw [hp] at HP
     have E1 := j4.mk e1
     have B1 := j4.mk (show (upTo l0 k).length + (s.size + 2) ≤ 1099511627776 by omega)
     have z1 : (9223372036854775807 < s.size + 2) = False := eq_false (by have := B1.out; omega)
     have SZ := j4.mk (show (s ++ (⟨#[13, 10]⟩ : ByteArray)).size = s.size + 2 by rw [ByteArray.size_append]; rfl)
     clear e1 hsu hle hl hd hp e2
     go_wp2_with (first
      | (go_at_call 105; refine (HP.out _).mono ?_; rintro e w' ⟨rfl, rfl⟩)
      | (go_at_call 107; refine (aS7 w.heap.size w.heap.size _ _ _ HH.out.1 (by rw [Lib.byteCells_length, SZ.out]; have := B1.out; omega) HH.out.2.size).mono ?_; rintro e w2 ⟨rfl, hb2, bU2⟩; have HB2 := j4.mk hb2; have HL2 := j4.mk bU2; clear hb2 bU2))
     go_roundw
     case rel => exact ⟨k + 1, by omega, by go_num, ⟨⟨.inr (by have h3 := HB2.out; rw [b48] at h3; rw [E1.out]; simpa using h3), HH.out.2.trans HL2.out⟩⟩⟩
     case measure => simp [intOf]; omega
   ·obtain rfl : k = l0.length := by omega
    have hle := cq4 l0 l0.length
    have hl := HL.out
    have B1 := j4.mk (show (upTo l0 l0.length).length + 3 ≤ 1099511627776 by omega)
    have EA := j4.mk (cN6 l0)
    clear hlt hle hl
    go_wp2_with (first
     | (go_at_call 107; refine (aS7 w.heap.size w.heap.size _ ⟨#[46, 13, 10]⟩ _ HH.out.1 (by rw [Lib.byteCells_length, show (⟨#[46, 13, 10]⟩ : ByteArray).size = 3 from rfl]; have := B1.out; omega) HH.out.2.size).mono ?_; rintro e w2 ⟨rfl, hb2, bU2⟩; have HB2 := j4.mk hb2; have HL2 := j4.mk bU2; clear hb2 bU2)
     | (go_at_call 108; refine (Tryz.Builder_String_any w.heap.size w.heap.size (Z2 l0) _ (.inr (by have h3 := HB2.out; rw [b48] at h3; rw [← EA.out]; exact h3)) (Nat.le_trans HH.out.2.size HL2.out.size)).mono ?_; rintro e w3 ⟨rfl, dT0⟩; have HL3 := j4.mk dT0; clear dT0))
    go_ret
    exact ⟨congrArg (fun x => Ending.returned (.string x)) HR.out, (HH.out.2.trans HL2.out).trans HL3.out⟩
 ·cases h
end Go.Proofs.YtbncnjgflhoneaaGreatDoor.Hand
namespace Go.Proofs.YtbncnjgflhoneaaGreatDoor.F
open Go.RowKit Go.Proofs.YtbncnjgflhoneaaGreatDoor.Hand Go.Proofs.YtbncnjgflhoneaaGreatDoorW.l8 Go.Proofs.YtbncnjgflhoneaaGreatDoorW.s9 Go.Proofs.YtbncnjgflhoneaaGreatDoorW.y9
def L0.l0 : Nat → ByteArray → List (G6) → Int → Int → ByteArray → ByteArray → List (G6) → List ByteArray → Option (ByteArray)
 | 0, _, _, _, _, _, _, _, _ => none
 | k + 1, x3, x15, x16, x17, a14, X5, Y3, ad9 => if x17 < x16 then (if 0 ≤ x17 then (if x17 < (x15.length : Int) then ((Q2.f ((E6 x15 x17).f0) ((E6 x15 x17).f1)).bind fun t106 => (if 3 + t106.size ≤ 9223372036854775807 then (if ((⟨#[116, 111, 32]⟩ : ByteArray) ++ t106).size + 2 ≤ 9223372036854775807 then (if x3.size + (((⟨#[116, 111, 32]⟩ : ByteArray) ++ t106) ++ (⟨#[13, 10]⟩ : ByteArray)).size ≤ 9223372036854775807 then (L0.l0 k (x3 ++ (((⟨#[116, 111, 32]⟩ : ByteArray) ++ t106) ++ (⟨#[13, 10]⟩ : ByteArray))) x15 x16 (wrap64 (x17 + 1)) a14 X5 Y3 ad9) else (none)) else (none)) else (none))) else (none)) else (none)) else (if x3.size + 2 ≤ 9223372036854775807 then ((ac7.f ad9).bind fun t107 => (if (x3 ++ (⟨#[13, 10]⟩ : ByteArray)).size + t107.size ≤ 9223372036854775807 then (some ((x3 ++ (⟨#[13, 10]⟩ : ByteArray)) ++ t107)) else (none))) else (none))
def L0.f (k : Nat) (r0 : ByteArray) (D2 : ByteArray) (J2 : List (G6)) (P8 : List ByteArray) : Option (ByteArray) := (a33.f r0 D2 J2 P8).bind fun t102 => (if t102 = true then ((Q2.f r0 D2).bind fun t103 => (if 5 + t103.size ≤ 9223372036854775807 then (if ((⟨#[102, 114, 111, 109, 32]⟩ : ByteArray) ++ t103).size + 2 ≤ 9223372036854775807 then (L0.l0 k (((⟨#[102, 114, 111, 109, 32]⟩ : ByteArray) ++ t103) ++ (⟨#[13, 10]⟩ : ByteArray)) J2 (J2.length : Int) 0 r0 D2 J2 P8) else (none)) else (none))) else (some (⟨#[]⟩ : ByteArray)))
set_option maxHeartbeats 8000000 in
set_option maxRecDepth 100000 in
theorem L0.calls (k : Nat) (r0 : ByteArray) (D2 : ByteArray) (ae6 : Option Addr) (ae1 : Nat) (J2 : List (G6)) (a71 : Option Addr) (a73 : Nat) (P8 : List ByteArray) (r : ByteArray) (w : World) (hG : Laid w) (a90 : Kd.C k32 w ae6 J2.length J2) (aj7 : J2.length ≤ ae1) (a09 : Kd.C Kd.string w a71 P8.length P8) (a10 : P8.length ≤ a73) (h : L0.f k r0 D2 J2 P8 = some r) :
  Calls Tryz.prog 28 #[.agg #[.string r0, .string D2, .slice ae6 J2.length ae1, .slice a71 P8.length a73]] w fun e w' => e = .returned (.string r) ∧ Below w.heap.size w w' := by
 have aV0 := Tryz.underlying35
 have as2 := Tryz.underlying32
 have HG := j4.mk hG
 clear hG
 have aF5 := j4.mk a90
 have bf4 := j4.mk aj7
 clear a90 aj7
 have ax6 := j4.mk a09
 have aF3 := j4.mk a10
 clear a09 a10
 have HB := j4.mk (Below.refl w.heap.size w)
 have H := h
 clear h
 unfold L0.f at H
 replace H := S2 H; obtain ⟨t102, A2, H⟩ := H
 replace H := itb H; rcases H with ⟨rfl, H⟩ | ⟨rfl, H⟩
 ·replace H := S2 H; obtain ⟨t103, A4, H⟩ := H
  replace H := ab8 H; obtain ⟨ap1, bc3, cM8, H⟩ := H
  replace H := O5 H; obtain ⟨c6, am1, aZ8, cL0, H⟩ := H
  have eh1 : (9223372036854775807 < 5 + t103.size + 2) = False := eq_false (by have z_ := c6; simp only [ByteArray.size_append] at z_; exact Nat.not_lt.2 z_)
  have H' := j4.mk H
  clear H
  go_enter Tryz.func28, Tryz.ntmps28
  go_wp2_with (first | ((with_reducible refine l9 (N := 1) rfl ?_); refine bx (cs := #[.string r0, .string D2, .slice ae6 J2.length ae1, .slice a71 P8.length a73]) (t := 35) ?_; intro j8 hg w7 o8 hb; have j5 := j4.mk (o8); have L8 := gS hg; have J7 := gS hg; replace HB := bS hb; clear hb o8 hg; have dq7 := cz4 j5.out; have dq8 := fz4 j5.out) | ((with_reducible refine j6 (f := 36) rfl ?_); refine gv 7 Tryz.func36 #[.agg #[.string r0, .string D2, .slice ae6 J2.length ae1, .slice a71 P8.length a73]] (a33.calls (w := _) (hG := gB) (a90 := cB aF5) (_hc0_2 := bf4.out) (a09 := cB ax6) (a10 := aF3.out) (h := A2.out)) ?_; intro w9 hb; replace j5 := kS j5 hb; replace HB := bS hb; clear hb; have cp6 := cz4 j5.out; have cp7 := fz4 j5.out) | ((with_reducible refine j6 (f := 29) rfl ?_); refine gv 11 Tryz.func29 _ (Q2.calls (w := _) (h := A4.out)) ?_; intro w11 hb; replace j5 := kS j5 hb; replace HB := bS hb; clear hb; have bC8 := cz4 j5.out; have bC9 := fz4 j5.out))
  go_loopg [3, 17] k (fun kq v3 v17 w' => ∃ (E8 : ByteArray) (b93 : Int), v3 = .string E8 ∧ v17 = .int .i64 b93 ∧ j4 (L0.l0 kq E8 J2 (J2.length : Int) b93 r0 D2 J2 P8 = some r) ∧ j4 (kq ≤ k) ∧ j4 (w'.heap[j8]? = some (.cells #[.string r0, .string D2, (.slice ae6 J2.length ae1), (.slice a71 P8.length a73)] 35 (0, 0))) ∧ j4 (Below w.heap.size w w'))
  case atStart => exact ⟨(((⟨#[102, 114, 111, 109, 32]⟩ : ByteArray) ++ t103) ++ (⟨#[13, 10]⟩ : ByteArray)), (0), zs, zs, H', ⟨Nat.le_refl _⟩, ⟨kQ j5⟩, ⟨zB⟩⟩
  case round =>
   clear H'
   obtain ⟨E8, b93, rfl, rfl, HA, HK1, j5, HB⟩ := hrel
   cases gk with
   | zero => exact absurd HA.out (by simp [L0.l0])
   | succ k1 =>
    have H := HA.out
    clear HA
    simp only [L0.l0] at H
    replace H := K2 H; rcases H with ⟨al5, H⟩ | ⟨al5, H⟩
    ·replace H := S1 H; obtain ⟨aL5, H⟩ := H
     replace H := S1 H; obtain ⟨aN7, H⟩ := H
     replace H := S2 H; obtain ⟨t106, A16, H⟩ := H
     replace H := ab8 H; obtain ⟨cg6, cg7, eu5, H⟩ := H
     replace H := O5 H; obtain ⟨c18, be7, bs7, cN2, H⟩ := H
     have dm6 : (9223372036854775807 < 3 + t106.size + 2) = False := eq_false (by have z_ := c18; simp only [ByteArray.size_append] at z_; exact Nat.not_lt.2 z_)
     replace H := O5 H; obtain ⟨c19, aD4, bf3, dn1, H⟩ := H
     have dT1 : (9223372036854775807 < E8.size + (3 + t106.size + 2)) = False := eq_false (by have z_ := c19; simp only [ByteArray.size_append] at z_; exact Nat.not_lt.2 z_)
     have H' := j4.mk H
     clear H
     have au1 : 0 ≤ (b93 : Int) := of_decide_eq_true za
     have au2 : b93 < (J2.length : Int) := of_decide_eq_true za
     obtain ⟨av1, b40, af5, aq8⟩ := as1 aF5.out b93 au1 au2
     cases b40
     replace af5 := kx HB af5
     replace aq8 := kx HB aq8
     replace au1 := eq_true au1
     replace au2 := eq_true au2
     go_wp2_with (first | ((with_reducible refine l9 (N := 5) rfl ?_); refine bx (cs := #[.string ⟨#[]⟩, .string ⟨#[]⟩]) (t := 32) ?_; intro b26 hg w20 o8 hb; have M0 := j4.mk (o8); have dT2 := gS hg; have dT3 := gS hg; have av4 := nS hg j5; have av5 := nG hg j5; replace j5 := kS j5 hb; replace HB := bS hb; clear hb o8 hg; have cd2 := av5.out; have cd3 := av4.out; have cM3 := cz2 M0.out; have cM4 := fz2 M0.out) | ((with_reducible refine j6 (f := 29) rfl ?_); refine gv 23 Tryz.func29 _ (Q2.calls (w := _) (h := A16.out)) ?_; intro w23 hb; replace j5 := kS j5 hb; replace M0 := kP (.cells #[.string ((E6 J2 b93).f0), .string ((E6 J2 b93).f1)] 32 (0, 0)) M0 hb; replace HB := bS hb; clear hb))
     go_roundg k1
     case measure => have := HK1.out; omega
     case rel => exact ⟨(E8 ++ (((⟨#[116, 111, 32]⟩ : ByteArray) ++ t106) ++ (⟨#[13, 10]⟩ : ByteArray))), (wrap64 (b93 + 1)), zs, zs, H', ⟨by have := HK1.out; omega⟩, ⟨kQ j5⟩, ⟨zB⟩⟩
    ·replace H := ab8 H; obtain ⟨cN8, cN9, eu6, H⟩ := H
     replace H := S2 H; obtain ⟨t107, A25, H⟩ := H
     replace H := O5 H; obtain ⟨c26, cd6, dm8, dS4, H⟩ := H
     have dS5 : (9223372036854775807 < E8.size + 2 + t107.size) = False := eq_false (by have z_ := c26; simp only [ByteArray.size_append] at z_; exact Nat.not_lt.2 z_)
     obtain rfl := Option.some.inj H
     have bq2 := cz4 j5.out
     have bq3 := fz4 j5.out
     go_wp2_with (first | ((with_reducible refine j6 (f := 65) rfl ?_); refine gv 32 Tryz.func65 #[.slice a71 P8.length a73] (ac7.calls (w := _) (hr0 := cB ax6) (_hc0 := aF3.out) (h := A25.out)) ?_; intro w28 hb; replace j5 := kS j5 hb; replace HB := bS hb; clear hb))
     go_ret
     exact ⟨zr, zB⟩
 ·obtain rfl := Option.some.inj H
  go_enter Tryz.func28, Tryz.ntmps28
  go_wp2_with (first | ((with_reducible refine l9 (N := 1) rfl ?_); refine bx (cs := #[.string r0, .string D2, .slice ae6 J2.length ae1, .slice a71 P8.length a73]) (t := 35) ?_; intro j8 hg w29 o8 hb; have j5 := j4.mk (o8); have L8 := gS hg; have J7 := gS hg; replace HB := bS hb; clear hb o8 hg; have cq0 := cz4 j5.out; have cq1 := fz4 j5.out) | ((with_reducible refine j6 (f := 36) rfl ?_); refine gv 7 Tryz.func36 #[.agg #[.string r0, .string D2, .slice ae6 J2.length ae1, .slice a71 P8.length a73]] (a33.calls (w := _) (hG := gB) (a90 := cB aF5) (_hc0_2 := bf4.out) (a09 := cB ax6) (a10 := aF3.out) (h := A2.out)) ?_; intro w31 hb; replace j5 := kS j5 hb; replace HB := bS hb; clear hb))
  go_ret
  exact ⟨zr, zB⟩
end Go.Proofs.YtbncnjgflhoneaaGreatDoor.F
namespace Go.Proofs.YtbncnjgflhoneaaGreatDoor.Hand
open Go.RowKit Go.Proofs.YtbncnjgflhoneaaGreatDoorW.l8 Go.Proofs.YtbncnjgflhoneaaGreatDoorW.s9 Go.Proofs.YtbncnjgflhoneaaGreatDoorW.y9
def strconv_Itoa.f (n : Int) : Option ByteArray := if -9223372036854775808 ≤ n ∧ n ≤ 9223372036854775807 then some ⟨(Lib.itoa n).toArray⟩ else none
theorem strconv_Itoa.calls (a0 : Int) (r : ByteArray) (w : World) (hG : Laid w) (h : strconv_Itoa.f a0 = some r) :
  Calls Tryz.prog 27 #[.int .i64 a0] w fun e w' => e = .returned (.string r) ∧ Below w.heap.size w w' := by
 unfold strconv_Itoa.f at h
 split at h
 ·rename_i hn
  injection h with h
  subst h
  refine (Tryz.strconv_Itoa a0 hn.1 hn.2 w hG.tab).mono fun e w' ⟨he, k, os, hw⟩ => ⟨he, ?_⟩
  subst hw
  exact Lib.below_grow _ w (Nat.le_refl _) k os
 ·cases h
def ay6 (l : List UInt8) : Int × Bool :=
 match Lib.atoiAll l with
 | .ok v => (v, decide (0 ≤ v) && (Lib.itoa v == l))
 | .range => (Lib.atoiSat l, false)
 | _ => (0, false)
def O8.f (s : ByteArray) : Option (Int × Bool) := if s.size ≤ 1099511627776 then some (ay6 s.data.toList) else none
theorem cq5 (s : ByteArray) (hs : s.size ≤ 1099511627776) (v : Int) (h : Lib.atoiAll s.data.toList = .ok v) (w : World) :
  Calls Tryz.prog 77 #[.string s] w fun e w' => e = .returned (.tuple #[.int .i64 v, .nilIface]) ∧ Below w.heap.size w w' := by
 refine (Tryz.strconv_Atoi_ok s (by omega) v h w).mono fun e w' ⟨he, hw⟩ => ⟨he, ?_⟩
 rcases hw with rfl | ⟨t, rfl⟩
 ·exact Below.refl _ _
 ·exact bN1 (Below.refl _ _) (Nat.le_refl _) 5 t
def Bad (x : Int) (w : World) (e : Ending) (w' : World) : Prop := ∃ n : Nat, e = .returned (.tuple #[.int .i64 x, .iface 165 (.pointer (some ⟨n, 0, none⟩))]) ∧ Below w.heap.size w w'
theorem cO0 (s : ByteArray) (hs : s.size ≤ 1099511627776) (h : ∀ v, Lib.atoiAll s.data.toList ≠ .ok v) (w : World) (hG : Laid w) :
  Calls Tryz.prog 77 #[.string s] w (Bad (ay6 s.data.toList).1 w) := by
 unfold ay6
 cases hq : Lib.atoiAll s.data.toList with
 | ok v => exact absurd hq (h v)
 | range =>
  obtain ⟨ev, hv, hev⟩ := hG.e76
  exact (Any.strconv_Atoi_range Tryz.bo3 s (by omega) hq ev w hv hev).mono fun e w' ⟨n, he, _, _, hb⟩ => ⟨n, he, hb⟩
 | _ =>
  obtain ⟨ev, hv, hev⟩ := hG.e75
  exact (Any.strconv_Atoi_syntax Tryz.bo3 s (by omega) hq ev w hv hev).mono fun e w' ⟨n, he, _, _, hb⟩ => ⟨n, he, hb⟩
theorem cO1 (l : List UInt8) (h : ∀ v, Lib.atoiAll l ≠ .ok v) : (ay6 l).2 = false := by
 unfold ay6
 cases hq : Lib.atoiAll l with
 | ok v => exact absurd hq (h v)
 | _ => rfl
set_option maxHeartbeats 1000000 in
set_option maxRecDepth 100000 in
theorem O8.calls (a0 : ByteArray) (r1 : Int) (r2 : Bool) (w : World) (hG : Laid w) (h : O8.f a0 = some (r1, r2)) :
  Calls Tryz.prog 40 #[.string a0] w fun e w' => e = .returned (.tuple #[.int .i64 r1, .bool r2]) ∧ Below w.heap.size w w' := by
 unfold O8.f at h
 split at h
 ·rename_i hs
  injection h with h
  have hs := j4.mk hs
  have HG := j4.mk hG
  clear hG
  by_cases hk : ∃ v, Lib.atoiAll a0.data.toList = .ok v
  ·obtain ⟨v, hv⟩ := hk
   obtain ⟨b0, b1⟩ := Lib.atoiAll_bounds hv
   have hd : ay6 a0.data.toList = (v, decide (0 ≤ v) && (Lib.itoa v == a0.data.toList)) := by unfold ay6; rw [hv]
   rw [hd] at h
   injection h with h1 h2
   subst h1
   have HV := j4.mk hv
   clear hv hd
   by_cases hz : 0 ≤ v
   ·rw [decide_eq_true hz, Bool.true_and] at h2
    obtain ⟨x, hx⟩ : ∃ x : ByteArray, x = ⟨(Lib.itoa v).toArray⟩ := ⟨_, rfl⟩
    have HX := j4.mk (show strconv_Itoa.f v = some x by unfold strconv_Itoa.f; rw [if_pos ⟨b0, b1⟩, hx])
    have hxe : (x.toList == a0.toList) = r2 := by rw [hx, Lib.toList_data, Lib.toList_data, ← h2]
    have hz0 : decide (0 ≤ v) = true := decide_eq_true hz
    clear hx h2 b0 b1
    cases r2
    all_goals
     go_enter Tryz.func40, Tryz.ntmps40
     go_wp2_with (first | (go_at_call 77; refine (cq5 a0 hs.out v HV.out _).mono ?_; rintro e w1 ⟨rfl, hb⟩; have HB := j4.mk hb; clear hb) | (go_at_call 27; refine (strconv_Itoa.calls v x _ (HG.out.below HB.out) HX.out).mono ?_; rintro e w2 ⟨rfl, hb2⟩; have HB2 := j4.mk hb2; clear hb2))
     go_ret2
     exact ⟨rfl, HB.out.trans (HB2.out.mono HB.out.size)⟩
   ·rw [decide_eq_false hz, Bool.false_and] at h2
    subst h2
    have hz0 : decide (0 ≤ v) = false := decide_eq_false hz
    clear hz b0 b1
    go_enter Tryz.func40, Tryz.ntmps40
    go_wp2_with (first | (go_at_call 77; refine (cq5 a0 hs.out v HV.out _).mono ?_; rintro e w1 ⟨rfl, hb⟩; have HB := j4.mk hb; clear hb))
    go_ret2
    exact ⟨rfl, HB.out⟩
  ·have hk : ∀ v, Lib.atoiAll a0.data.toList ≠ .ok v := fun v hv => hk ⟨v, hv⟩
   have h2 := cO1 _ hk
   obtain ⟨x, y⟩ : ∃ x, x = (ay6 a0.data.toList).1 := ⟨_, rfl⟩
   have HC := j4.mk (fun W hW => cO0 a0 hs.out hk W hW)
   rw [h] at h2 HC
   simp only at h2 HC
   subst h2
   clear h hk y
   go_enter Tryz.func40, Tryz.ntmps40
   go_wp2_with (first | (go_at_call 77; refine (HC.out _ HG.out).mono ?_; rintro e w1 ⟨n, rfl, hb⟩; have HB := j4.mk hb; clear hb))
   go_ret2
   exact ⟨rfl, HB.out⟩
 ·cases h
end Go.Proofs.YtbncnjgflhoneaaGreatDoor.Hand
namespace Go.Proofs.YtbncnjgflhoneaaGreatDoor.F
open Go.RowKit Go.Proofs.YtbncnjgflhoneaaGreatDoor.Hand Go.Proofs.YtbncnjgflhoneaaGreatDoorW.l8 Go.Proofs.YtbncnjgflhoneaaGreatDoorW.s9 Go.Proofs.YtbncnjgflhoneaaGreatDoorW.y9
def M6.f (k : Nat) (r0 : Int) (D2 : Int) (R1 : ByteArray) (V1 : ByteArray) (Y2 : Int) (X7 : ByteArray) (X8 : ByteArray) (R3 : List (G6)) (R4 : List ByteArray) : Option (ByteArray) := (K8.f k r0 D2 R1 V1 Y2 X7 X8 R3 R4).bind fun t102 => (if t102 = true then ((strconv_Itoa.f Y2).bind fun t103 => (if r0 = 1 then (if 4 + t103.size ≤ 9223372036854775807 then (if ((⟨#[97, 100, 100, 32]⟩ : ByteArray) ++ t103).size + 1 ≤ 9223372036854775807 then ((L0.f k X7 X8 R3 R4).bind fun t104 => (if (((⟨#[97, 100, 100, 32]⟩ : ByteArray) ++ t103) ++ (⟨#[10]⟩ : ByteArray)).size + t104.size ≤ 9223372036854775807 then (some ((((⟨#[97, 100, 100, 32]⟩ : ByteArray) ++ t103) ++ (⟨#[10]⟩ : ByteArray)) ++ t104)) else (none))) else (none)) else (none)) else ((strconv_Itoa.f D2).bind fun t105 => (if t105.size + 1 ≤ 9223372036854775807 then ((Q2.f R1 V1).bind fun t106 => (if (t105 ++ (⟨#[32]⟩ : ByteArray)).size + t106.size ≤ 9223372036854775807 then (if r0 = 2 then (if 5 + ((t105 ++ (⟨#[32]⟩ : ByteArray)) ++ t106).size ≤ 9223372036854775807 then (some ((⟨#[100, 111, 110, 101, 32]⟩ : ByteArray) ++ ((t105 ++ (⟨#[32]⟩ : ByteArray)) ++ t106))) else (none)) else (if 6 + ((t105 ++ (⟨#[32]⟩ : ByteArray)) ++ t106).size ≤ 9223372036854775807 then (if ((⟨#[108, 97, 116, 101, 114, 32]⟩ : ByteArray) ++ ((t105 ++ (⟨#[32]⟩ : ByteArray)) ++ t106)).size + 1 ≤ 9223372036854775807 then (if (((⟨#[108, 97, 116, 101, 114, 32]⟩ : ByteArray) ++ ((t105 ++ (⟨#[32]⟩ : ByteArray)) ++ t106)) ++ (⟨#[32]⟩ : ByteArray)).size + t103.size ≤ 9223372036854775807 then (some ((((⟨#[108, 97, 116, 101, 114, 32]⟩ : ByteArray) ++ ((t105 ++ (⟨#[32]⟩ : ByteArray)) ++ t106)) ++ (⟨#[32]⟩ : ByteArray)) ++ t103)) else (none)) else (none)) else (none))) else (none))) else (none))))) else (some (⟨#[]⟩ : ByteArray)))
def M6.T6 : Bool × List (List Nat × List Nat) := (true, [([], []), ([0], [0]), ([1], [1]), ([2], [2]), ([], []), ([4], [4]), ([5, 2], [5]), ([3, 6], [3, 6]), ([7, 6, 0, 1, 2, 3, 4, 5, 6, 7], [7])])
def M6.B6 : List Nat := [0, 1, 3, 7, 0, 16, 55, 127, 255]
theorem M6.cZ9 : aq1 .any (opsOf Tryz.f10 6) = M6.T6 := by kernel_rfl
theorem M6.cq3 : af3 M6.T6.2 M6.B6 = true := by kernel_rfl
set_option maxHeartbeats 8000000 in
set_option maxRecDepth 100000 in
theorem M6.calls (k : Nat) (r0 : Int) (D2 : Int) (R1 : ByteArray) (V1 : ByteArray) (Y2 : Int) (X7 : ByteArray) (X8 : ByteArray) (a96 : Option Addr) (a97 : Nat) (R3 : List (G6)) (a98 : Option Addr) (a99 : Nat) (R4 : List ByteArray) (r : ByteArray) (w : World) (hG : Laid w) (a17 : Kd.C k32 w a96 R3.length R3) (a18 : R3.length ≤ a97) (a19 : Kd.C Kd.string w a98 R4.length R4) (a22 : R4.length ≤ a99) (h : M6.f k r0 D2 R1 V1 Y2 X7 X8 R3 R4 = some r) :
  Calls Tryz.prog 10 #[.agg #[.int .i64 r0, .int .i64 D2, .string R1, .string V1, .int .i64 Y2, .string X7, .string X8, .slice a96 R3.length a97, .slice a98 R4.length a99]] w fun e w' => e = .returned (.string r) ∧ Below w.heap.size w w' := by
 have by1 := Tryz.underlying37
 have aV0 := Tryz.underlying35
 have as2 := Tryz.underlying32
 have HG := j4.mk hG
 clear hG
 have ar4 := j4.mk a17
 have ar5 := j4.mk a18
 clear a17 a18
 have ar6 := j4.mk a19
 have ar7 := j4.mk a22
 clear a19 a22
 have HB := j4.mk (Below.refl w.heap.size w)
 have H := h
 clear h
 unfold M6.f at H
 replace H := S2 H; obtain ⟨t102, A2, H⟩ := H
 replace H := itb H; rcases H with ⟨rfl, H⟩ | ⟨rfl, H⟩
 ·replace H := S2 H; obtain ⟨t103, A4, H⟩ := H
  replace H := F6 H; rcases H with ⟨ap1, bc3, H⟩ | ⟨ap1, bc3, H⟩
  ·replace H := ab8 H; obtain ⟨am1, aZ8, cL0, H⟩ := H
   replace H := O5 H; obtain ⟨c7, ak6, b77, dy5, H⟩ := H
   have eh6 : (9223372036854775807 < 4 + t103.size + 1) = False := eq_false (by have z_ := c7; simp only [ByteArray.size_append] at z_; exact Nat.not_lt.2 z_)
   replace H := S2 H; obtain ⟨t104, A8, H⟩ := H
   replace H := O5 H; obtain ⟨c9, aF9, bs6, dy6, H⟩ := H
   have dS0 : (9223372036854775807 < 4 + t103.size + 1 + t104.size) = False := eq_false (by have z_ := c9; simp only [ByteArray.size_append] at z_; exact Nat.not_lt.2 z_)
   obtain rfl := Option.some.inj H
   go_enter Tryz.func10, Tryz.ntmps10
   go_wp2_with (first | ((with_reducible refine l9 (N := 1) rfl ?_); refine bx (cs := #[.int .i64 r0, .int .i64 D2, .string R1, .string V1, .int .i64 Y2, .string X7, .string X8, .slice a96 R3.length a97, .slice a98 R4.length a99]) (t := 37) ?_; intro j8 hg w10 o8 hb; have j5 := j4.mk (o8); have L8 := gS hg; have J7 := gS hg; replace HB := bS hb; clear hb o8 hg; have be4 := cz9 j5.out; have be5 := fz9 j5.out) | ((with_reducible refine j6 (f := 13) rfl ?_); refine gv 6 Tryz.func13 #[.agg #[.int .i64 r0, .int .i64 D2, .string R1, .string V1, .int .i64 Y2, .string X7, .string X8, .slice a96 R3.length a97, .slice a98 R4.length a99]] (K8.calls (w := _) (hG := gB) (a17 := cB ar4) (a18 := ar5.out) (a19 := cB ar6) (a22 := ar7.out) (h := A2.out)) ?_; intro w12 hb; replace j5 := kS j5 hb; replace HB := bS hb; clear hb; have bT2 := cz9 j5.out; have bT3 := fz9 j5.out) | ((with_reducible refine j6 (f := 27) rfl ?_); refine gv 10 Tryz.func27 _ (strconv_Itoa.calls (w := _) (hG := gB) (h := A4.out)) ?_; intro w14 hb; replace j5 := kS j5 hb; replace HB := bS hb; clear hb; have bB7 := cz9 j5.out; have bB8 := fz9 j5.out) | ((with_reducible refine j6 (f := 28) rfl ?_); refine gv 19 Tryz.func28 #[.agg #[.string X7, .string X8, .slice a96 R3.length a97, .slice a98 R4.length a99]] (L0.calls (w := _) (hG := gB) (a90 := cB ar4) (aj7 := ar5.out) (a09 := cB ar6) (a10 := ar7.out) (h := A8.out)) ?_; intro w16 hb; replace j5 := kS j5 hb; replace HB := bS hb; clear hb))
   go_ret
   exact ⟨zr, zB⟩
  ·replace H := S2 H; obtain ⟨t105, A17, H⟩ := H
   replace H := ab8 H; obtain ⟨be7, bs7, cN2, H⟩ := H
   replace H := S2 H; obtain ⟨t106, A19, H⟩ := H
   replace H := O5 H; obtain ⟨c20, aL3, b22, eu7, H⟩ := H
   have eu8 : (9223372036854775807 < t105.size + 1 + t106.size) = False := eq_false (by have z_ := c20; simp only [ByteArray.size_append] at z_; exact Nat.not_lt.2 z_)
   replace H := F6 H; rcases H with ⟨bf1, bB2, H⟩ | ⟨bf1, bB2, H⟩
   ·replace H := O5 H; obtain ⟨c22, aT9, bs8, eu9, H⟩ := H
    have ev0 : (9223372036854775807 < 5 + (t105.size + 1 + t106.size)) = False := eq_false (by have z_ := c22; simp only [ByteArray.size_append] at z_; exact Nat.not_lt.2 z_)
    obtain rfl := Option.some.inj H
    go_enter Tryz.func10, Tryz.ntmps10
    try go_wp2_with (first | ((with_reducible refine l9 (N := 1) rfl ?_); refine bx (cs := #[.int .i64 r0, .int .i64 D2, .string R1, .string V1, .int .i64 Y2, .string X7, .string X8, .slice a96 R3.length a97, .slice a98 R4.length a99]) (t := 37) ?_; intro j8 hg w23 o8 hb; have j5 := j4.mk (o8); have L8 := gS hg; have J7 := gS hg; replace HB := bS hb; clear hb o8 hg; have br0 := cz9 j5.out; have br1 := fz9 j5.out) | ((with_reducible refine j6 (f := 13) rfl ?_); refine gv 6 Tryz.func13 #[.agg #[.int .i64 r0, .int .i64 D2, .string R1, .string V1, .int .i64 Y2, .string X7, .string X8, .slice a96 R3.length a97, .slice a98 R4.length a99]] (K8.calls (w := _) (hG := gB) (a17 := cB ar4) (a18 := ar5.out) (a19 := cB ar6) (a22 := ar7.out) (h := A2.out)) ?_; intro w25 hb; replace j5 := kS j5 hb; replace HB := bS hb; clear hb; have bR4 := cz9 j5.out; have bR5 := fz9 j5.out) | ((with_reducible refine j6 (f := 27) rfl ?_); refine gv 10 Tryz.func27 _ (strconv_Itoa.calls (w := _) (hG := gB) (h := A4.out)) ?_; intro w27 hb; replace j5 := kS j5 hb; replace HB := bS hb; clear hb; have cK0 := cz9 j5.out; have cK1 := fz9 j5.out))
    replace j5 := j4.mk (I7 j5.out)
    replace HB := j4.mk (E9 HB.out)
    refine ah3 (n := 9) (S := fun w' => w'.cell? ⟨j8, 0, none⟩ = some (.int .i64 r0) ∧ w'.cell? ⟨j8, 1, none⟩ = some (.int .i64 D2) ∧ w'.cell? ⟨j8, 2, none⟩ = some (.string R1) ∧ w'.cell? ⟨j8, 3, none⟩ = some (.string V1) ∧ w'.cell? ⟨j8, 4, none⟩ = some (.int .i64 Y2) ∧ w'.cell? ⟨j8, 5, none⟩ = some (.string X7) ∧ w'.cell? ⟨j8, 6, none⟩ = some (.string X8) ∧ w'.cell? ⟨j8, 7, none⟩ = some (.slice a96 R3.length a97) ∧ w'.cell? ⟨j8, 8, none⟩ = some (.slice a98 R4.length a99)) (ds := []) #[false, false, false, false, false, false, false, false, false] z2_ rfl rfl ⟨(l7 j5.out 0).trans rfl, (l7 j5.out 1).trans rfl, (l7 j5.out 2).trans rfl, (l7 j5.out 3).trans rfl, (l7 j5.out 4).trans rfl, (l7 j5.out 5).trans rfl, (l7 j5.out 6).trans rfl, (l7 j5.out 7).trans rfl, (l7 j5.out 8).trans rfl⟩ (fun hHeld => ?_); refine a60 M6.cZ9 M6.cq3 (fun HT_ HW_ => ?_)
    generalize w27.drew = w29 at j5 HB hHeld ⊢
    refine pu 0 21 ?_
    refine pu 4 25 ?_
    refine ta 1 22 ?_
    refine ta 5 26 ?_
    refine on 2 (some 23) (fun K hK => ?_)
    refine ar2 Tryz.func27 z2_ rfl #[.int .i64 D2] (by rfl) rfl rfl zm ?_
    with_reducible refine (strconv_Itoa.calls D2 t105 _ ?a92 A17.out).mono ?_
    (case a92 => exact Laid.below HG.out zB)
    rintro e w30 ⟨rfl, hb⟩
    refine ⟨_, rfl, ?_⟩
    replace j5 := kS j5 hb
    replace HB := bS hb
    (try clear hb)
    (try clear hb2)
    (try clear hk)
    (try clear hi)
    refine kO 23 hK (fun hHeld => ?_)
    clear hK K
    refine pu 3 24 ?_
    refine on 6 (some 27) (fun K hK => ?_)
    refine ar2 Tryz.func29 z2_ rfl #[.agg #[.string R1, .string V1]] (by rfl) rfl rfl zm ?_
    with_reducible refine (Q2.calls R1 V1 t106 _ A19.out).mono ?_
    rintro e w31 ⟨rfl, hb⟩
    refine ⟨_, rfl, ?_⟩
    replace j5 := kS j5 hb
    replace HB := bS hb
    (try clear hb)
    (try clear hb2)
    (try clear hk)
    (try clear hi)
    refine kO 27 hK (fun hHeld => ?_)
    clear hK K
    refine pu 7 28 ?_
    refine pu 8 4 ?_
    refine au9 (ah0 HT_.out z2_) ?_
    have bD2 := cz9 j5.out
    have bD3 := fz9 j5.out
    try go_wp2
    go_ret
    exact ⟨zr, zB⟩
   ·replace H := O5 H; obtain ⟨c33, dT4, ev1, ev2, H⟩ := H
    have ev3 : (9223372036854775807 < 6 + (t105.size + 1 + t106.size)) = False := eq_false (by have z_ := c33; simp only [ByteArray.size_append] at z_; exact Nat.not_lt.2 z_)
    replace H := O5 H; obtain ⟨c34, ce3, dm0, ev4, H⟩ := H
    have ev5 : (9223372036854775807 < 6 + (t105.size + 1 + t106.size) + 1) = False := eq_false (by have z_ := c34; simp only [ByteArray.size_append] at z_; exact Nat.not_lt.2 z_)
    replace H := O5 H; obtain ⟨c35, dm3, dm4, ev6, H⟩ := H
    have ev7 : (9223372036854775807 < 6 + (t105.size + 1 + t106.size) + 1 + t103.size) = False := eq_false (by have z_ := c35; simp only [ByteArray.size_append] at z_; exact Nat.not_lt.2 z_)
    obtain rfl := Option.some.inj H
    go_enter Tryz.func10, Tryz.ntmps10
    try go_wp2_with (first | ((with_reducible refine l9 (N := 1) rfl ?_); refine bx (cs := #[.int .i64 r0, .int .i64 D2, .string R1, .string V1, .int .i64 Y2, .string X7, .string X8, .slice a96 R3.length a97, .slice a98 R4.length a99]) (t := 37) ?_; intro j8 hg w36 o8 hb; have j5 := j4.mk (o8); have L8 := gS hg; have J7 := gS hg; replace HB := bS hb; clear hb o8 hg; have bB9 := cz9 j5.out; have bC0 := fz9 j5.out) | ((with_reducible refine j6 (f := 13) rfl ?_); refine gv 6 Tryz.func13 #[.agg #[.int .i64 r0, .int .i64 D2, .string R1, .string V1, .int .i64 Y2, .string X7, .string X8, .slice a96 R3.length a97, .slice a98 R4.length a99]] (K8.calls (w := _) (hG := gB) (a17 := cB ar4) (a18 := ar5.out) (a19 := cB ar6) (a22 := ar7.out) (h := A2.out)) ?_; intro w38 hb; replace j5 := kS j5 hb; replace HB := bS hb; clear hb; have dG6 := cz9 j5.out; have dG7 := fz9 j5.out) | ((with_reducible refine j6 (f := 27) rfl ?_); refine gv 10 Tryz.func27 _ (strconv_Itoa.calls (w := _) (hG := gB) (h := A4.out)) ?_; intro w40 hb; replace j5 := kS j5 hb; replace HB := bS hb; clear hb; have cq6 := cz9 j5.out; have cq7 := fz9 j5.out))
    replace j5 := j4.mk (I7 j5.out)
    replace HB := j4.mk (E9 HB.out)
    refine ah3 (n := 9) (S := fun w' => w'.cell? ⟨j8, 0, none⟩ = some (.int .i64 r0) ∧ w'.cell? ⟨j8, 1, none⟩ = some (.int .i64 D2) ∧ w'.cell? ⟨j8, 2, none⟩ = some (.string R1) ∧ w'.cell? ⟨j8, 3, none⟩ = some (.string V1) ∧ w'.cell? ⟨j8, 4, none⟩ = some (.int .i64 Y2) ∧ w'.cell? ⟨j8, 5, none⟩ = some (.string X7) ∧ w'.cell? ⟨j8, 6, none⟩ = some (.string X8) ∧ w'.cell? ⟨j8, 7, none⟩ = some (.slice a96 R3.length a97) ∧ w'.cell? ⟨j8, 8, none⟩ = some (.slice a98 R4.length a99)) (ds := []) #[false, false, false, false, false, false, false, false, false] z2_ rfl rfl ⟨(l7 j5.out 0).trans rfl, (l7 j5.out 1).trans rfl, (l7 j5.out 2).trans rfl, (l7 j5.out 3).trans rfl, (l7 j5.out 4).trans rfl, (l7 j5.out 5).trans rfl, (l7 j5.out 6).trans rfl, (l7 j5.out 7).trans rfl, (l7 j5.out 8).trans rfl⟩ (fun hHeld => ?_); refine a60 M6.cZ9 M6.cq3 (fun HT_ HW_ => ?_)
    generalize w40.drew = w42 at j5 HB hHeld ⊢
    refine pu 0 21 ?_
    refine pu 4 25 ?_
    refine ta 1 22 ?_
    refine ta 5 26 ?_
    refine on 2 (some 23) (fun K hK => ?_)
    refine ar2 Tryz.func27 z2_ rfl #[.int .i64 D2] (by rfl) rfl rfl zm ?_
    with_reducible refine (strconv_Itoa.calls D2 t105 _ ?a92 A17.out).mono ?_
    (case a92 => exact Laid.below HG.out zB)
    rintro e w43 ⟨rfl, hb⟩
    refine ⟨_, rfl, ?_⟩
    replace j5 := kS j5 hb
    replace HB := bS hb
    (try clear hb)
    (try clear hb2)
    (try clear hk)
    (try clear hi)
    refine kO 23 hK (fun hHeld => ?_)
    clear hK K
    refine pu 3 24 ?_
    refine on 6 (some 27) (fun K hK => ?_)
    refine ar2 Tryz.func29 z2_ rfl #[.agg #[.string R1, .string V1]] (by rfl) rfl rfl zm ?_
    with_reducible refine (Q2.calls R1 V1 t106 _ A19.out).mono ?_
    rintro e w44 ⟨rfl, hb⟩
    refine ⟨_, rfl, ?_⟩
    replace j5 := kS j5 hb
    replace HB := bS hb
    (try clear hb)
    (try clear hb2)
    (try clear hk)
    (try clear hi)
    refine kO 27 hK (fun hHeld => ?_)
    clear hK K
    refine pu 7 28 ?_
    refine pu 8 4 ?_
    refine au9 (ah0 HT_.out z2_) ?_
    have ce4 := cz9 j5.out
    have ce5 := fz9 j5.out
    try go_wp2
    go_ret
    exact ⟨zr, zB⟩
 ·obtain rfl := Option.some.inj H
  go_enter Tryz.func10, Tryz.ntmps10
  go_wp2_with (first | ((with_reducible refine l9 (N := 1) rfl ?_); refine bx (cs := #[.int .i64 r0, .int .i64 D2, .string R1, .string V1, .int .i64 Y2, .string X7, .string X8, .slice a96 R3.length a97, .slice a98 R4.length a99]) (t := 37) ?_; intro j8 hg w46 o8 hb; have j5 := j4.mk (o8); have L8 := gS hg; have J7 := gS hg; replace HB := bS hb; clear hb o8 hg; have ci3 := cz9 j5.out; have ci4 := fz9 j5.out) | ((with_reducible refine j6 (f := 13) rfl ?_); refine gv 6 Tryz.func13 #[.agg #[.int .i64 r0, .int .i64 D2, .string R1, .string V1, .int .i64 Y2, .string X7, .string X8, .slice a96 R3.length a97, .slice a98 R4.length a99]] (K8.calls (w := _) (hG := gB) (a17 := cB ar4) (a18 := ar5.out) (a19 := cB ar6) (a22 := ar7.out) (h := A2.out)) ?_; intro w48 hb; replace j5 := kS j5 hb; replace HB := bS hb; clear hb))
  go_ret
  exact ⟨zr, zB⟩
end Go.Proofs.YtbncnjgflhoneaaGreatDoor.F
