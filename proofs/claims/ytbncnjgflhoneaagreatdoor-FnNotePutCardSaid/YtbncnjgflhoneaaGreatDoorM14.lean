/- Of this claim, merged by program: F24, F8, F29, HBuild, HDots, F28, HNum, F10. -/
import Derived.Lib.AppendIntMem
import Derived.Test.YtbncnjgflhoneaaGreatDoorM02
import Derived.Test.YtbncnjgflhoneaaGreatDoorM03
import Derived.Test.YtbncnjgflhoneaaGreatDoorM05
import Derived.Test.YtbncnjgflhoneaaGreatDoorM13
namespace Go.Proofs.YtbncnjgflhoneaaGreatDoor.F
open Go.RowKit Go.Proofs.YtbncnjgflhoneaaGreatDoor.Hand Go.Proofs.YtbncnjgflhoneaaGreatDoorW.PrintWords Go.Proofs.YtbncnjgflhoneaaGreatDoorW.PrintLast Go.Proofs.YtbncnjgflhoneaaGreatDoorW.PrintMore
set_option linter.unusedVariables false
set_option linter.unusedSimpArgs false
def spec_l6Body.f (k : Nat) (a0_0 : Int) (a0_1 : Int) (a0_2 : ByteArray) (a0_3 : ByteArray) (a0_4 : Int) (a0_5 : ByteArray) (a0_6 : ByteArray) (l0_7 : List (S32)) (l0_8 : List ByteArray) : Option (ByteArray) := if a0_0 = 1 then ((spec_l1Dec.f k a0_4).bind fun t102 => (if 4 + t102.size ≤ 9223372036854775807 then (if ((⟨#[97, 100, 100, 32]⟩ : ByteArray) ++ t102).size + 1 ≤ 9223372036854775807 then ((spec_l2Put.f k a0_5 a0_6 l0_7 l0_8).bind fun t103 => (if (((⟨#[97, 100, 100, 32]⟩ : ByteArray) ++ t102) ++ (⟨#[10]⟩ : ByteArray)).size + t103.size ≤ 9223372036854775807 then (some ((((⟨#[97, 100, 100, 32]⟩ : ByteArray) ++ t102) ++ (⟨#[10]⟩ : ByteArray)) ++ t103)) else (none))) else (none)) else (none))) else (if a0_0 = 2 then ((spec_l1Dec.f k a0_1).bind fun t104 => (if 5 + t104.size ≤ 9223372036854775807 then (if ((⟨#[100, 111, 110, 101, 32]⟩ : ByteArray) ++ t104).size + 1 ≤ 9223372036854775807 then ((spec_l1Put.f a0_2 a0_3).bind fun t105 => (if (((⟨#[100, 111, 110, 101, 32]⟩ : ByteArray) ++ t104) ++ (⟨#[32]⟩ : ByteArray)).size + t105.size ≤ 9223372036854775807 then (some ((((⟨#[100, 111, 110, 101, 32]⟩ : ByteArray) ++ t104) ++ (⟨#[32]⟩ : ByteArray)) ++ t105)) else (none))) else (none)) else (none))) else ((spec_l1Dec.f k a0_1).bind fun t106 => (if 6 + t106.size ≤ 9223372036854775807 then (if ((⟨#[108, 97, 116, 101, 114, 32]⟩ : ByteArray) ++ t106).size + 1 ≤ 9223372036854775807 then ((spec_l1Put.f a0_2 a0_3).bind fun t107 => (if (((⟨#[108, 97, 116, 101, 114, 32]⟩ : ByteArray) ++ t106) ++ (⟨#[32]⟩ : ByteArray)).size + t107.size ≤ 9223372036854775807 then (if ((((⟨#[108, 97, 116, 101, 114, 32]⟩ : ByteArray) ++ t106) ++ (⟨#[32]⟩ : ByteArray)) ++ t107).size + 1 ≤ 9223372036854775807 then ((spec_l1Dec.f k a0_4).bind fun t108 => (if (((((⟨#[108, 97, 116, 101, 114, 32]⟩ : ByteArray) ++ t106) ++ (⟨#[32]⟩ : ByteArray)) ++ t107) ++ (⟨#[32]⟩ : ByteArray)).size + t108.size ≤ 9223372036854775807 then (some ((((((⟨#[108, 97, 116, 101, 114, 32]⟩ : ByteArray) ++ t106) ++ (⟨#[32]⟩ : ByteArray)) ++ t107) ++ (⟨#[32]⟩ : ByteArray)) ++ t108)) else (none))) else (none)) else (none))) else (none)) else (none))))
def spec_l6Body.T3 : Bool × List (List Nat × List Nat) := (true, [([], []), ([0], [0]), ([1], [1]), ([2], [2]), ([3], [3]), ([], []), ([5], [5]), ([6, 2], [6]), ([4, 7], [4, 7]), ([8, 7, 0, 1, 2, 3, 4, 5, 6, 7, 8], [8])])
def spec_l6Body.B3 : List Nat := [0, 1, 3, 7, 15, 0, 32, 103, 255, 511]
theorem spec_l6Body.tab3 : rtab .any (opsOf Tryz.f24 3) = spec_l6Body.T3 := by kernel_rfl
theorem spec_l6Body.bits3 : waitsOk spec_l6Body.T3.2 spec_l6Body.B3 = true := by kernel_rfl
def spec_l6Body.T5 : Bool × List (List Nat × List Nat) := (true, [([], []), ([0], [0]), ([1], [1]), ([2], [2]), ([3], [3]), ([], []), ([5], [5]), ([6, 2], [6]), ([4, 7], [4, 7]), ([8, 7, 0, 1, 2, 3, 4, 5, 6, 7, 8], [8])])
def spec_l6Body.B5 : List Nat := [0, 1, 3, 7, 15, 0, 32, 103, 255, 511]
theorem spec_l6Body.tab5 : rtab .any (opsOf Tryz.f24 5) = spec_l6Body.T5 := by kernel_rfl
theorem spec_l6Body.bits5 : waitsOk spec_l6Body.T5.2 spec_l6Body.B5 = true := by kernel_rfl
def spec_l6Body.T6 : Bool × List (List Nat × List Nat) := (true, [([], []), ([0], [0]), ([1], [1]), ([2], [2]), ([3], [3]), ([], []), ([5], [5]), ([6, 2], [6]), ([4, 7], [4, 7]), ([8], [8]), ([], []), ([10], [10]), ([11, 7], [11]), ([9, 12], [9, 12]), ([13, 12, 0, 1, 2, 3, 4, 5, 6, 7, 8, 9, 10, 11, 12, 13], [13])])
def spec_l6Body.B6 : List Nat := [0, 1, 3, 7, 15, 0, 32, 103, 255, 511, 0, 1024, 3303, 8191, 16383]
theorem spec_l6Body.tab6 : rtab .any (opsOf Tryz.f24 6) = spec_l6Body.T6 := by kernel_rfl
theorem spec_l6Body.bits6 : waitsOk spec_l6Body.T6.2 spec_l6Body.B6 = true := by kernel_rfl
set_option maxHeartbeats 8000000 in
set_option maxRecDepth 100000 in
theorem spec_l6Body.calls (k : Nat) (a0_0 : Int) (a0_1 : Int) (a0_2 : ByteArray) (a0_3 : ByteArray) (a0_4 : Int) (a0_5 : ByteArray) (a0_6 : ByteArray) (A0_7 : Option Addr) (c0_7 : Nat) (l0_7 : List (S32)) (A0_8 : Option Addr) (c0_8 : Nat) (l0_8 : List ByteArray) (r : ByteArray) (w : World) (hr0_7 : Kd.C k32 w A0_7 l0_7.length l0_7) (hc0_7 : l0_7.length ≤ c0_7) (hr0_8 : Kd.C Kd.string w A0_8 l0_8.length l0_8) (hc0_8 : l0_8.length ≤ c0_8) (h : spec_l6Body.f k a0_0 a0_1 a0_2 a0_3 a0_4 a0_5 a0_6 l0_7 l0_8 = some r) :
  Calls Tryz.prog 24 #[.agg #[.int .i64 a0_0, .int .i64 a0_1, .string a0_2, .string a0_3, .int .i64 a0_4, .string a0_5, .string a0_6, .slice A0_7 l0_7.length c0_7, .slice A0_8 l0_8.length c0_8]] w fun e w' => e = .returned (.string r) ∧ Below w.heap.size w w' := by
 have hu37 := Tryz.underlying37
 have hu35 := Tryz.underlying35
 have hu32 := Tryz.underlying32
 have HR0_7 := Aside0.mk hr0_7
 have HC0_7 := Aside0.mk hc0_7
 clear hr0_7 hc0_7
 have HR0_8 := Aside0.mk hr0_8
 have HC0_8 := Aside0.mk hc0_8
 clear hr0_8 hc0_8
 have HB := Aside0.mk (Below.refl w.heap.size w)
 have H := h
 clear h
 unfold spec_l6Body.f at H
 replace H := its_qn_qn H; rcases H with ⟨c2b0, c2b1, H⟩ | ⟨c2b0, c2b1, H⟩
 ·replace H := bnd H; obtain ⟨t102, A3, H⟩ := H
  replace H := itn_edm H; obtain ⟨c4b0, c4b1, c4b2, H⟩ := H
  replace H := itn_cedm H; obtain ⟨c5, c5b0, c5b1, c5b2, H⟩ := H
  have c5b3 : (9223372036854775807 < 4 + t102.size + 1) = False := eq_false (by have z_ := c5; simp only [ByteArray.size_append] at z_; exact Nat.not_lt.2 z_)
  replace H := bnd H; obtain ⟨t103, A6, H⟩ := H
  replace H := itn_cedm H; obtain ⟨c7, c7b0, c7b1, c7b2, H⟩ := H
  have c7b3 : (9223372036854775807 < 4 + t102.size + 1 + t103.size) = False := eq_false (by have z_ := c7; simp only [ByteArray.size_append] at z_; exact Nat.not_lt.2 z_)
  obtain rfl := Option.some.inj H
  go_enter Tryz.func24, Tryz.ntmps24
  try go_wp2_with (first | ((with_reducible refine gate_dst (N := 1) rfl ?_); refine bx (cs := #[.int .i64 a0_0, .int .i64 a0_1, .string a0_2, .string a0_3, .int .i64 a0_4, .string a0_5, .string a0_6, .slice A0_7 l0_7.length c0_7, .slice A0_8 l0_8.length c0_8]) (t := 37) ?_; intro gb101 hg w8 hbox hb; have BK101 := Aside0.mk (hbox); have GW101 := gS hg; have GE101 := gS hg; replace HB := bS hb; clear hb hbox hg; have hcz9 := cz9 BK101.out; have hfz9 := fz9 BK101.out))
  replace BK101 := Aside0.mk (blk_drew BK101.out)
  replace HB := Aside0.mk (below_drew1 HB.out)
  refine start_ (n := 10) (S := fun w' => w'.cell? ⟨gb101, 0, none⟩ = some (.int .i64 a0_0) ∧ w'.cell? ⟨gb101, 1, none⟩ = some (.int .i64 a0_1) ∧ w'.cell? ⟨gb101, 2, none⟩ = some (.string a0_2) ∧ w'.cell? ⟨gb101, 3, none⟩ = some (.string a0_3) ∧ w'.cell? ⟨gb101, 4, none⟩ = some (.int .i64 a0_4) ∧ w'.cell? ⟨gb101, 5, none⟩ = some (.string a0_5) ∧ w'.cell? ⟨gb101, 6, none⟩ = some (.string a0_6) ∧ w'.cell? ⟨gb101, 7, none⟩ = some (.slice A0_7 l0_7.length c0_7) ∧ w'.cell? ⟨gb101, 8, none⟩ = some (.slice A0_8 l0_8.length c0_8)) (ds := []) #[false, false, false, false, false, false, false, false, false, false] (by kernel_rfl) rfl rfl ⟨(blk_cell BK101.out 0).trans rfl, (blk_cell BK101.out 1).trans rfl, (blk_cell BK101.out 2).trans rfl, (blk_cell BK101.out 3).trans rfl, (blk_cell BK101.out 4).trans rfl, (blk_cell BK101.out 5).trans rfl, (blk_cell BK101.out 6).trans rfl, (blk_cell BK101.out 7).trans rfl, (blk_cell BK101.out 8).trans rfl⟩ (fun hHeld => ?_); refine with_tabW spec_l6Body.tab3 spec_l6Body.bits3 (fun HT_ HW_ => ?_)
  generalize w8.drew = w10 at BK101 HB hHeld ⊢
  refine pu 0 7 ?_
  refine pu 5 12 ?_
  refine ta 1 8 ?_
  refine ta 6 13 ?_
  refine on 2 (some 9) (fun K hK => ?_)
  refine goes_ Tryz.func59 (by kernel_rfl) rfl #[.int .i64 a0_4] (by rfl) rfl rfl zm ?_
  with_reducible refine (spec_l1Dec.calls k a0_4 t102 _ A3.out).mono ?_
  rintro e w11 ⟨rfl, hb⟩
  refine ⟨_, rfl, ?_⟩
  replace BK101 := kS BK101 hb
  replace HB := bS hb
  (try clear hb)
  (try clear hb2)
  (try clear hk)
  (try clear hi)
  refine kO 9 hK (fun hHeld => ?_)
  clear hK K
  refine pu 3 10 ?_
  refine pu 4 11 ?_
  refine on 7 (some 14) (fun K hK => ?_)
  refine goes_ Tryz.func60 (by kernel_rfl) rfl #[.agg #[.string a0_5, .string a0_6, .slice A0_7 l0_7.length c0_7, .slice A0_8 l0_8.length c0_8]] (by rfl) rfl rfl zm ?_
  with_reducible refine (spec_l2Put.calls k a0_5 a0_6 _ _ l0_7 _ _ l0_8 t103 _ ?side1 ?side2 ?side3 ?side4 A6.out).mono ?_
  (case side1 => exact (by repeat (first | exact (Kd.C_below HR0_7.out HB.out) | (with_reducible refine Kd.C_alloc ?_ _) | (with_reducible refine Kd.C_drewN ?_ _) | (with_reducible refine Kd.C_drew ?_))))
  (case side2 => exact HC0_7.out)
  (case side3 => exact (by repeat (first | exact (Kd.C_below HR0_8.out HB.out) | (with_reducible refine Kd.C_alloc ?_ _) | (with_reducible refine Kd.C_drewN ?_ _) | (with_reducible refine Kd.C_drew ?_))))
  (case side4 => exact HC0_8.out)
  rintro e w12 ⟨rfl, hb⟩
  refine ⟨_, rfl, ?_⟩
  replace BK101 := kS BK101 hb
  replace HB := bS hb
  (try clear hb)
  (try clear hb2)
  (try clear hk)
  (try clear hi)
  refine kO 14 hK (fun hHeld => ?_)
  clear hK K
  refine pu 8 15 ?_
  refine pu 9 2 ?_
  refine done_ (done_of HT_.out (by kernel_rfl)) ?_
  try go_wp2
  go_ret
  exact ⟨zr, zB⟩
 ·replace H := its_qn_qn H; rcases H with ⟨c13b0, c13b1, H⟩ | ⟨c13b0, c13b1, H⟩
  ·replace H := bnd H; obtain ⟨t104, A14, H⟩ := H
   replace H := itn_edm H; obtain ⟨c15b0, c15b1, c15b2, H⟩ := H
   replace H := itn_cedm H; obtain ⟨c16, c16b0, c16b1, c16b2, H⟩ := H
   have c16b3 : (9223372036854775807 < 5 + t104.size + 1) = False := eq_false (by have z_ := c16; simp only [ByteArray.size_append] at z_; exact Nat.not_lt.2 z_)
   replace H := bnd H; obtain ⟨t105, A17, H⟩ := H
   replace H := itn_cedm H; obtain ⟨c18, c18b0, c18b1, c18b2, H⟩ := H
   have c18b3 : (9223372036854775807 < 5 + t104.size + 1 + t105.size) = False := eq_false (by have z_ := c18; simp only [ByteArray.size_append] at z_; exact Nat.not_lt.2 z_)
   obtain rfl := Option.some.inj H
   go_enter Tryz.func24, Tryz.ntmps24
   try go_wp2_with (first | ((with_reducible refine gate_dst (N := 1) rfl ?_); refine bx (cs := #[.int .i64 a0_0, .int .i64 a0_1, .string a0_2, .string a0_3, .int .i64 a0_4, .string a0_5, .string a0_6, .slice A0_7 l0_7.length c0_7, .slice A0_8 l0_8.length c0_8]) (t := 37) ?_; intro gb101 hg w19 hbox hb; have BK101 := Aside0.mk (hbox); have GW101 := gS hg; have GE101 := gS hg; replace HB := bS hb; clear hb hbox hg; have hcz20 := cz9 BK101.out; have hfz20 := fz9 BK101.out))
   replace BK101 := Aside0.mk (blk_drew BK101.out)
   replace HB := Aside0.mk (below_drew1 HB.out)
   refine start_ (n := 10) (S := fun w' => w'.cell? ⟨gb101, 0, none⟩ = some (.int .i64 a0_0) ∧ w'.cell? ⟨gb101, 1, none⟩ = some (.int .i64 a0_1) ∧ w'.cell? ⟨gb101, 2, none⟩ = some (.string a0_2) ∧ w'.cell? ⟨gb101, 3, none⟩ = some (.string a0_3) ∧ w'.cell? ⟨gb101, 4, none⟩ = some (.int .i64 a0_4) ∧ w'.cell? ⟨gb101, 5, none⟩ = some (.string a0_5) ∧ w'.cell? ⟨gb101, 6, none⟩ = some (.string a0_6) ∧ w'.cell? ⟨gb101, 7, none⟩ = some (.slice A0_7 l0_7.length c0_7) ∧ w'.cell? ⟨gb101, 8, none⟩ = some (.slice A0_8 l0_8.length c0_8)) (ds := []) #[false, false, false, false, false, false, false, false, false, false] (by kernel_rfl) rfl rfl ⟨(blk_cell BK101.out 0).trans rfl, (blk_cell BK101.out 1).trans rfl, (blk_cell BK101.out 2).trans rfl, (blk_cell BK101.out 3).trans rfl, (blk_cell BK101.out 4).trans rfl, (blk_cell BK101.out 5).trans rfl, (blk_cell BK101.out 6).trans rfl, (blk_cell BK101.out 7).trans rfl, (blk_cell BK101.out 8).trans rfl⟩ (fun hHeld => ?_); refine with_tabW spec_l6Body.tab5 spec_l6Body.bits5 (fun HT_ HW_ => ?_)
   generalize w19.drew = w21 at BK101 HB hHeld ⊢
   refine pu 0 18 ?_
   refine pu 5 23 ?_
   refine ta 1 19 ?_
   refine ta 6 24 ?_
   refine on 2 (some 20) (fun K hK => ?_)
   refine goes_ Tryz.func59 (by kernel_rfl) rfl #[.int .i64 a0_1] (by rfl) rfl rfl zm ?_
   with_reducible refine (spec_l1Dec.calls k a0_1 t104 _ A14.out).mono ?_
   rintro e w22 ⟨rfl, hb⟩
   refine ⟨_, rfl, ?_⟩
   replace BK101 := kS BK101 hb
   replace HB := bS hb
   (try clear hb)
   (try clear hb2)
   (try clear hk)
   (try clear hi)
   refine kO 20 hK (fun hHeld => ?_)
   clear hK K
   refine pu 3 21 ?_
   refine pu 4 22 ?_
   refine on 7 (some 25) (fun K hK => ?_)
   refine goes_ Tryz.func61 (by kernel_rfl) rfl #[.agg #[.string a0_2, .string a0_3]] (by rfl) rfl rfl zm ?_
   with_reducible refine (spec_l1Put.calls a0_2 a0_3 t105 _ A17.out).mono ?_
   rintro e w23 ⟨rfl, hb⟩
   refine ⟨_, rfl, ?_⟩
   replace BK101 := kS BK101 hb
   replace HB := bS hb
   (try clear hb)
   (try clear hb2)
   (try clear hk)
   (try clear hi)
   refine kO 25 hK (fun hHeld => ?_)
   clear hK K
   refine pu 8 26 ?_
   refine pu 9 2 ?_
   refine done_ (done_of HT_.out (by kernel_rfl)) ?_
   try go_wp2
   go_ret
   exact ⟨zr, zB⟩
  ·replace H := bnd H; obtain ⟨t106, A24, H⟩ := H
   replace H := itn_edm H; obtain ⟨c25b0, c25b1, c25b2, H⟩ := H
   replace H := itn_cedm H; obtain ⟨c26, c26b0, c26b1, c26b2, H⟩ := H
   have c26b3 : (9223372036854775807 < 6 + t106.size + 1) = False := eq_false (by have z_ := c26; simp only [ByteArray.size_append] at z_; exact Nat.not_lt.2 z_)
   replace H := bnd H; obtain ⟨t107, A27, H⟩ := H
   replace H := itn_cedm H; obtain ⟨c28, c28b0, c28b1, c28b2, H⟩ := H
   have c28b3 : (9223372036854775807 < 6 + t106.size + 1 + t107.size) = False := eq_false (by have z_ := c28; simp only [ByteArray.size_append] at z_; exact Nat.not_lt.2 z_)
   replace H := itn_cedm H; obtain ⟨c29, c29b0, c29b1, c29b2, H⟩ := H
   have c29b3 : (9223372036854775807 < 6 + t106.size + 1 + t107.size + 1) = False := eq_false (by have z_ := c29; simp only [ByteArray.size_append] at z_; exact Nat.not_lt.2 z_)
   replace H := bnd H; obtain ⟨t108, A30, H⟩ := H
   replace H := itn_cedm H; obtain ⟨c31, c31b0, c31b1, c31b2, H⟩ := H
   have c31b3 : (9223372036854775807 < 6 + t106.size + 1 + t107.size + 1 + t108.size) = False := eq_false (by have z_ := c31; simp only [ByteArray.size_append] at z_; exact Nat.not_lt.2 z_)
   obtain rfl := Option.some.inj H
   go_enter Tryz.func24, Tryz.ntmps24
   try go_wp2_with (first | ((with_reducible refine gate_dst (N := 1) rfl ?_); refine bx (cs := #[.int .i64 a0_0, .int .i64 a0_1, .string a0_2, .string a0_3, .int .i64 a0_4, .string a0_5, .string a0_6, .slice A0_7 l0_7.length c0_7, .slice A0_8 l0_8.length c0_8]) (t := 37) ?_; intro gb101 hg w32 hbox hb; have BK101 := Aside0.mk (hbox); have GW101 := gS hg; have GE101 := gS hg; replace HB := bS hb; clear hb hbox hg; have hcz33 := cz9 BK101.out; have hfz33 := fz9 BK101.out))
   replace BK101 := Aside0.mk (blk_drew BK101.out)
   replace HB := Aside0.mk (below_drew1 HB.out)
   refine start_ (n := 15) (S := fun w' => w'.cell? ⟨gb101, 0, none⟩ = some (.int .i64 a0_0) ∧ w'.cell? ⟨gb101, 1, none⟩ = some (.int .i64 a0_1) ∧ w'.cell? ⟨gb101, 2, none⟩ = some (.string a0_2) ∧ w'.cell? ⟨gb101, 3, none⟩ = some (.string a0_3) ∧ w'.cell? ⟨gb101, 4, none⟩ = some (.int .i64 a0_4) ∧ w'.cell? ⟨gb101, 5, none⟩ = some (.string a0_5) ∧ w'.cell? ⟨gb101, 6, none⟩ = some (.string a0_6) ∧ w'.cell? ⟨gb101, 7, none⟩ = some (.slice A0_7 l0_7.length c0_7) ∧ w'.cell? ⟨gb101, 8, none⟩ = some (.slice A0_8 l0_8.length c0_8)) (ds := []) #[false, false, false, false, false, false, false, false, false, false, false, false, false, false, false] (by kernel_rfl) rfl rfl ⟨(blk_cell BK101.out 0).trans rfl, (blk_cell BK101.out 1).trans rfl, (blk_cell BK101.out 2).trans rfl, (blk_cell BK101.out 3).trans rfl, (blk_cell BK101.out 4).trans rfl, (blk_cell BK101.out 5).trans rfl, (blk_cell BK101.out 6).trans rfl, (blk_cell BK101.out 7).trans rfl, (blk_cell BK101.out 8).trans rfl⟩ (fun hHeld => ?_); refine with_tabW spec_l6Body.tab6 spec_l6Body.bits6 (fun HT_ HW_ => ?_)
   generalize w32.drew = w34 at BK101 HB hHeld ⊢
   refine pu 0 27 ?_
   refine pu 5 32 ?_
   refine pu 10 37 ?_
   refine ta 1 28 ?_
   refine ta 6 33 ?_
   refine ta 11 38 ?_
   refine on 2 (some 29) (fun K hK => ?_)
   refine goes_ Tryz.func59 (by kernel_rfl) rfl #[.int .i64 a0_1] (by rfl) rfl rfl zm ?_
   with_reducible refine (spec_l1Dec.calls k a0_1 t106 _ A24.out).mono ?_
   rintro e w35 ⟨rfl, hb⟩
   refine ⟨_, rfl, ?_⟩
   replace BK101 := kS BK101 hb
   replace HB := bS hb
   (try clear hb)
   (try clear hb2)
   (try clear hk)
   (try clear hi)
   refine kO 29 hK (fun hHeld => ?_)
   clear hK K
   refine pu 3 30 ?_
   refine pu 4 31 ?_
   refine on 7 (some 34) (fun K hK => ?_)
   refine goes_ Tryz.func61 (by kernel_rfl) rfl #[.agg #[.string a0_2, .string a0_3]] (by rfl) rfl rfl zm ?_
   with_reducible refine (spec_l1Put.calls a0_2 a0_3 t107 _ A27.out).mono ?_
   rintro e w36 ⟨rfl, hb⟩
   refine ⟨_, rfl, ?_⟩
   replace BK101 := kS BK101 hb
   replace HB := bS hb
   (try clear hb)
   (try clear hb2)
   (try clear hk)
   (try clear hi)
   refine kO 34 hK (fun hHeld => ?_)
   clear hK K
   refine pu 8 35 ?_
   refine pu 9 36 ?_
   refine on 12 (some 39) (fun K hK => ?_)
   refine goes_ Tryz.func59 (by kernel_rfl) rfl #[.int .i64 a0_4] (by rfl) rfl rfl zm ?_
   with_reducible refine (spec_l1Dec.calls k a0_4 t108 _ A30.out).mono ?_
   rintro e w37 ⟨rfl, hb⟩
   refine ⟨_, rfl, ?_⟩
   replace BK101 := kS BK101 hb
   replace HB := bS hb
   (try clear hb)
   (try clear hb2)
   (try clear hk)
   (try clear hi)
   refine kO 39 hK (fun hHeld => ?_)
   clear hK K
   refine pu 13 40 ?_
   refine pu 14 2 ?_
   refine done_ (done_of HT_.out (by kernel_rfl)) ?_
   try go_wp2
   go_ret
   exact ⟨zr, zB⟩
def spec_NotePut.f (k : Nat) (a0_0 : Int) (a0_1 : Int) (a0_2 : ByteArray) (a0_3 : ByteArray) (a0_4 : Int) (a0_5 : ByteArray) (a0_6 : ByteArray) (l0_7 : List (S32)) (l0_8 : List ByteArray) : Option (ByteArray) := (spec_l6Ok.f k a0_0 a0_1 a0_2 a0_3 a0_4 a0_5 a0_6 l0_7 l0_8).bind fun t102 => (if t102 = true then ((spec_l6Body.f k a0_0 a0_1 a0_2 a0_3 a0_4 a0_5 a0_6 l0_7 l0_8).bind fun t103 => (some t103)) else (some (⟨#[]⟩ : ByteArray)))
set_option maxHeartbeats 8000000 in
set_option maxRecDepth 100000 in
theorem spec_NotePut.calls (k : Nat) (a0_0 : Int) (a0_1 : Int) (a0_2 : ByteArray) (a0_3 : ByteArray) (a0_4 : Int) (a0_5 : ByteArray) (a0_6 : ByteArray) (A0_7 : Option Addr) (c0_7 : Nat) (l0_7 : List (S32)) (A0_8 : Option Addr) (c0_8 : Nat) (l0_8 : List ByteArray) (r : ByteArray) (w : World) (hr0_7 : Kd.C k32 w A0_7 l0_7.length l0_7) (hc0_7 : l0_7.length ≤ c0_7) (hr0_8 : Kd.C Kd.string w A0_8 l0_8.length l0_8) (hc0_8 : l0_8.length ≤ c0_8) (h : spec_NotePut.f k a0_0 a0_1 a0_2 a0_3 a0_4 a0_5 a0_6 l0_7 l0_8 = some r) :
  Calls Tryz.prog 8 #[.agg #[.int .i64 a0_0, .int .i64 a0_1, .string a0_2, .string a0_3, .int .i64 a0_4, .string a0_5, .string a0_6, .slice A0_7 l0_7.length c0_7, .slice A0_8 l0_8.length c0_8]] w fun e w' => e = .returned (.string r) ∧ Below w.heap.size w w' := by
 have hu37 := Tryz.underlying37
 have HR0_7 := Aside0.mk hr0_7
 have HC0_7 := Aside0.mk hc0_7
 clear hr0_7 hc0_7
 have HR0_8 := Aside0.mk hr0_8
 have HC0_8 := Aside0.mk hc0_8
 clear hr0_8 hc0_8
 have HB := Aside0.mk (Below.refl w.heap.size w)
 have H := h
 clear h
 unfold spec_NotePut.f at H
 replace H := bnd H; obtain ⟨t102, A2, H⟩ := H
 replace H := itb H; rcases H with ⟨rfl, H⟩ | ⟨rfl, H⟩
 ·replace H := bnd H; obtain ⟨t103, A4, H⟩ := H
  obtain rfl := Option.some.inj H
  go_enter Tryz.func8, Tryz.ntmps8
  go_wp2_with (first | ((with_reducible refine gate_dst (N := 1) rfl ?_); refine bx (cs := #[.int .i64 a0_0, .int .i64 a0_1, .string a0_2, .string a0_3, .int .i64 a0_4, .string a0_5, .string a0_6, .slice A0_7 l0_7.length c0_7, .slice A0_8 l0_8.length c0_8]) (t := 37) ?_; intro gb101 hg w5 hbox hb; have BK101 := Aside0.mk (hbox); have GW101 := gS hg; have GE101 := gS hg; replace HB := bS hb; clear hb hbox hg; have hcz6 := cz9 BK101.out; have hfz6 := fz9 BK101.out) | ((with_reducible refine gate_callee (f := 23) rfl ?_); refine gv 4 Tryz.func23 #[.agg #[.int .i64 a0_0, .int .i64 a0_1, .string a0_2, .string a0_3, .int .i64 a0_4, .string a0_5, .string a0_6, .slice A0_7 l0_7.length c0_7, .slice A0_8 l0_8.length c0_8]] (spec_l6Ok.calls (w := _) (hr0_7 := cB HR0_7) (hc0_7 := HC0_7.out) (hr0_8 := cB HR0_8) (hc0_8 := HC0_8.out) (h := A2.out)) ?_; intro w7 hb; replace BK101 := kS BK101 hb; replace HB := bS hb; clear hb; have hcz8 := cz9 BK101.out; have hfz8 := fz9 BK101.out) | ((with_reducible refine gate_callee (f := 24) rfl ?_); refine gv 7 Tryz.func24 #[.agg #[.int .i64 a0_0, .int .i64 a0_1, .string a0_2, .string a0_3, .int .i64 a0_4, .string a0_5, .string a0_6, .slice A0_7 l0_7.length c0_7, .slice A0_8 l0_8.length c0_8]] (spec_l6Body.calls (w := _) (hr0_7 := cB HR0_7) (hc0_7 := HC0_7.out) (hr0_8 := cB HR0_8) (hc0_8 := HC0_8.out) (h := A4.out)) ?_; intro w9 hb; replace BK101 := kS BK101 hb; replace HB := bS hb; clear hb))
  go_ret
  exact ⟨zr, zB⟩
 ·obtain rfl := Option.some.inj H
  go_enter Tryz.func8, Tryz.ntmps8
  go_wp2_with (first | ((with_reducible refine gate_dst (N := 1) rfl ?_); refine bx (cs := #[.int .i64 a0_0, .int .i64 a0_1, .string a0_2, .string a0_3, .int .i64 a0_4, .string a0_5, .string a0_6, .slice A0_7 l0_7.length c0_7, .slice A0_8 l0_8.length c0_8]) (t := 37) ?_; intro gb101 hg w10 hbox hb; have BK101 := Aside0.mk (hbox); have GW101 := gS hg; have GE101 := gS hg; replace HB := bS hb; clear hb hbox hg; have hcz11 := cz9 BK101.out; have hfz11 := fz9 BK101.out) | ((with_reducible refine gate_callee (f := 23) rfl ?_); refine gv 4 Tryz.func23 #[.agg #[.int .i64 a0_0, .int .i64 a0_1, .string a0_2, .string a0_3, .int .i64 a0_4, .string a0_5, .string a0_6, .slice A0_7 l0_7.length c0_7, .slice A0_8 l0_8.length c0_8]] (spec_l6Ok.calls (w := _) (hr0_7 := cB HR0_7) (hc0_7 := HC0_7.out) (hr0_8 := cB HR0_8) (hc0_8 := HC0_8.out) (h := A2.out)) ?_; intro w12 hb; replace BK101 := kS BK101 hb; replace HB := bS hb; clear hb))
  go_ret
  exact ⟨zr, zB⟩
end Go.Proofs.YtbncnjgflhoneaaGreatDoor.F
namespace Go.Proofs.YtbncnjgflhoneaaGreatDoor.F
open Go.RowKit Go.Proofs.YtbncnjgflhoneaaGreatDoor.Hand Go.Proofs.YtbncnjgflhoneaaGreatDoorW.PrintWords Go.Proofs.YtbncnjgflhoneaaGreatDoorW.PrintLast Go.Proofs.YtbncnjgflhoneaaGreatDoorW.PrintMore
set_option linter.unusedVariables false
set_option linter.unusedSimpArgs false
def impl_Addr_text.f (a0_0 : ByteArray) (a0_1 : ByteArray) : Option (ByteArray) := (impl_Addr_null.f a0_0 a0_1).bind fun t102 => (if t102 = true then (some (⟨#[60, 62]⟩ : ByteArray)) else (if 1 + a0_0.size ≤ 9223372036854775807 then (if ((⟨#[60]⟩ : ByteArray) ++ a0_0).size + 1 ≤ 9223372036854775807 then (if (((⟨#[60]⟩ : ByteArray) ++ a0_0) ++ (⟨#[64]⟩ : ByteArray)).size + a0_1.size ≤ 9223372036854775807 then (if ((((⟨#[60]⟩ : ByteArray) ++ a0_0) ++ (⟨#[64]⟩ : ByteArray)) ++ a0_1).size + 1 ≤ 9223372036854775807 then (some (((((⟨#[60]⟩ : ByteArray) ++ a0_0) ++ (⟨#[64]⟩ : ByteArray)) ++ a0_1) ++ (⟨#[62]⟩ : ByteArray))) else (none)) else (none)) else (none)) else (none)))
set_option maxHeartbeats 8000000 in
set_option maxRecDepth 100000 in
theorem impl_Addr_text.calls (a0_0 : ByteArray) (a0_1 : ByteArray) (r : ByteArray) (w : World) (h : impl_Addr_text.f a0_0 a0_1 = some r) :
  Calls Tryz.prog 29 #[.agg #[.string a0_0, .string a0_1]] w fun e w' => e = .returned (.string r) ∧ Below w.heap.size w w' := by
 have hu32 := Tryz.underlying32
 have HB := Aside0.mk (Below.refl w.heap.size w)
 have H := h
 clear h
 unfold impl_Addr_text.f at H
 replace H := bnd H; obtain ⟨t102, A2, H⟩ := H
 replace H := itb H; rcases H with ⟨rfl, H⟩ | ⟨rfl, H⟩
 ·obtain rfl := Option.some.inj H
  go_enter Tryz.func29, Tryz.ntmps29
  go_wp2_with (first | ((with_reducible refine gate_dst (N := 1) rfl ?_); refine bx (cs := #[.string a0_0, .string a0_1]) (t := 32) ?_; intro gb101 hg w4 hbox hb; have BK101 := Aside0.mk (hbox); have GW101 := gS hg; have GE101 := gS hg; replace HB := bS hb; clear hb hbox hg; have hcz5 := cz2 BK101.out; have hfz5 := fz2 BK101.out) | ((with_reducible refine gate_callee (f := 38) rfl ?_); refine gv 4 Tryz.func38 _ (impl_Addr_null.calls (w := _) (h := A2.out)) ?_; intro w6 hb; replace BK101 := kS BK101 hb; replace HB := bS hb; clear hb))
  go_ret
  exact ⟨zr, zB⟩
 ·replace H := itn_edm H; obtain ⟨c7b0, c7b1, c7b2, H⟩ := H
  replace H := itn_cedm H; obtain ⟨c8, c8b0, c8b1, c8b2, H⟩ := H
  have c8b3 : (9223372036854775807 < 1 + a0_0.size + 1) = False := eq_false (by have z_ := c8; simp only [ByteArray.size_append] at z_; exact Nat.not_lt.2 z_)
  replace H := itn_cedm H; obtain ⟨c9, c9b0, c9b1, c9b2, H⟩ := H
  have c9b3 : (9223372036854775807 < 1 + a0_0.size + 1 + a0_1.size) = False := eq_false (by have z_ := c9; simp only [ByteArray.size_append] at z_; exact Nat.not_lt.2 z_)
  replace H := itn_cedm H; obtain ⟨c10, c10b0, c10b1, c10b2, H⟩ := H
  have c10b3 : (9223372036854775807 < 1 + a0_0.size + 1 + a0_1.size + 1) = False := eq_false (by have z_ := c10; simp only [ByteArray.size_append] at z_; exact Nat.not_lt.2 z_)
  obtain rfl := Option.some.inj H
  go_enter Tryz.func29, Tryz.ntmps29
  go_wp2_with (first | ((with_reducible refine gate_dst (N := 1) rfl ?_); refine bx (cs := #[.string a0_0, .string a0_1]) (t := 32) ?_; intro gb101 hg w11 hbox hb; have BK101 := Aside0.mk (hbox); have GW101 := gS hg; have GE101 := gS hg; replace HB := bS hb; clear hb hbox hg; have hcz12 := cz2 BK101.out; have hfz12 := fz2 BK101.out) | ((with_reducible refine gate_callee (f := 38) rfl ?_); refine gv 4 Tryz.func38 _ (impl_Addr_null.calls (w := _) (h := A2.out)) ?_; intro w13 hb; replace BK101 := kS BK101 hb; replace HB := bS hb; clear hb; have hcz14 := cz2 BK101.out; have hfz14 := fz2 BK101.out))
  go_ret
  exact ⟨zr, zB⟩
end Go.Proofs.YtbncnjgflhoneaaGreatDoor.F
namespace Go.Proofs.YtbncnjgflhoneaaGreatDoor.Hand
open Go.RowKit
set_option maxHeartbeats 1000000 in
set_option maxRecDepth 100000 in
theorem check_used (b : Nat) (w : World) (h0 : w.cell? ⟨b, 0, none⟩ = some (.pointer (some ⟨b, 0, none⟩))) :
  Calls Tryz.prog 140 #[.pointer (some ⟨b, 0, none⟩)] w fun e w' => e = .returned (.tuple #[]) ∧ w' = w := by
 obtain ⟨j, hj, _⟩ := Option.map_eq_some_iff.1 (show (Tryz.prog.info? 125).map (·.size) = some 2 by kernel_rfl)
 go_enter Tryz.func140, Tryz.ntmps140
 go_wp2
 rw [Lib.run_neq_ptr_same w _ Tryz.underlying123 hj]
 go_wp2
 go_end0
 exact ⟨rfl, rfl⟩
set_option maxHeartbeats 1000000 in
set_option maxRecDepth 100000 in
theorem check_fresh (b : Nat) (w : World) (h0 : w.cell? ⟨b, 0, none⟩ = some (.pointer none)) (hsh : w.shape? b = some (125, 2)) (hfz : w.frozen? ⟨b, 0, none⟩ = false) :
  Calls Tryz.prog 140 #[.pointer (some ⟨b, 0, none⟩)] w fun e w' => e = .returned (.tuple #[]) ∧ w' = w.setCell ⟨b, 0, none⟩ (.pointer (some ⟨b, 0, none⟩)) := by
 obtain ⟨j, hj, hjs⟩ := Option.map_eq_some_iff.1 (show (Tryz.prog.info? 125).map (·.size) = some 2 by kernel_rfl)
 go_enter Tryz.func140, Tryz.ntmps140
 go_wp2
 rw [Lib.run_to_unsafe w ⟨b, 0, none⟩ Tryz.underlying123 Tryz.underlying176 hj (by rw [hjs]; decide) hsh (Nat.zero_lt_succ 1)]
 simp only [Result.andThen]
 rw [Oper.upon_value]
 go_wp2
 rw [run_callFunc_extern Tryz.func172 (by kernel_rfl) (by kernel_rfl) (by kernel_rfl) (e := Extern.AbiNoEscape.same) (by kernel_rfl)]
 rw [Lib.run_noEscape]
 simp only [Result.andThen]
 rw [Oper.upon_value]
 go_wp2
 rw [Lib.run_from_unsafe w ⟨b, 0, none⟩ Tryz.underlying176 Tryz.underlying123 hj hsh (by kernel_rfl)]
 simp only [Result.andThen]
 rw [Oper.upon_value]
 go_wp2
 go_end0
 exact ⟨rfl, rfl⟩
theorem Builder_check (B b : Nat) (bs : List Value) (w : World) (h : Lib.IsBuilder 125 5 B b bs w) :
  Calls Tryz.prog 140 #[.pointer (some ⟨b, 0, none⟩)] w fun e w' => e = .returned (.tuple #[]) ∧ (Lib.BuilderAt 125 5 B b (.pointer (some ⟨b, 0, none⟩)) bs w' ∧ Below B w w') := by
 rcases h with h | h
 ·refine (check_fresh b w h.cell0 h.shape h.frozen0).mono ?_
  rintro e w' ⟨rfl, rfl⟩
  exact ⟨rfl, h.used _, (Below.refl B w).setCell (p := ⟨b, 0, none⟩) h.1 _⟩
 ·refine (check_used b w h.cell0).mono ?_
  rintro e w' ⟨rfl, rfl⟩
  exact ⟨rfl, h, Below.refl B _⟩
theorem infoByte : (Tryz.prog.info? 5).map (fun i => (i.zero, i.size, i.bytes)) = some (some (.int .u8 0), 1, 1) := by kernel_rfl
set_option maxHeartbeats 2000000 in
set_option maxRecDepth 100000 in
theorem Builder_byte (B b : Nat) (bs : List Value) (c : Int) (w : World) (h : Lib.IsBuilder 125 5 B b bs w) (hlen : bs.length + 1 ≤ 140737488355328) (hBw : B ≤ w.heap.size) :
  Calls Tryz.prog 106 #[.pointer (some ⟨b, 0, none⟩), .int .u8 c] w fun e w' => e = .returned .nilIface ∧ (Lib.BuilderAt 125 5 B b (.pointer (some ⟨b, 0, none⟩)) (bs ++ [.int .u8 c]) w' ∧ Below B w w') := by
 obtain ⟨i0, hi, hz0, hz1, hz2⟩ := info_parts infoByte
 go_enter Tryz.func106, Tryz.ntmps106
 go_wp2_with (go_at_call 140; refine (Builder_check B b bs _ h).mono ?_)
 rintro e w1 ⟨rfl, h1, hb1⟩
 obtain ⟨hB, v, hbk, hown, hne⟩ := h1
 have c0 : w1.cell? ⟨b, 0, none⟩ = some (.pointer (some ⟨b, 0, none⟩)) := by rw [Lib.cell_of_heap hbk]; rfl
 have c1 : w1.cell? ⟨b, 1, none⟩ = some v := by rw [Lib.cell_of_heap hbk]; rfl
 go_wp2_with (at_builtin; refine wpList_append_own _ rfl _ _ 41 rfl B 5 i0 (.int .u8 0) 1 1 Tryz.underlying41 hi hz0 hz1 hz2 rfl (by decide) _ _ _ rfl (hown.alloc _) ⟨w1.heap.size, 0, none⟩ 1 1 [.int .u8 c] rfl rfl ?c1 ?c2 ?c3 ?c4 ?c5 ?_)
 case c1 =>
  intro j u hj
  match j, hj with
  | 0, hj => simp at hj; subst hj; simp [Addr.add]
 case c2 => intro u hu; simp at hu; subst hu; rfl
 case c3 => unfold maxLen; omega
 case c4 => omega
 case c5 => have := hb1.size; simp; omega
 intro v' w2 hown' hgrow _
 have hlt : b < w1.heap.size := by
  rcases Nat.lt_or_ge b w1.heap.size with h' | h'
  ·exact h'
  ·simp [Array.getElem?_eq_none h'] at hbk
 have hb2 : w2.heap[b]? = some (.cells #[.pointer (some ⟨b, 0, none⟩), v] 125 (0, 0)) := by
  rw [hgrow.block b (by simp; omega) (fun e => hne e.symm), Lib.alloc_old w1 _ b hlt]
  exact hbk
 have d0 : w2.cell? ⟨b, 0, none⟩ = some (.pointer (some ⟨b, 0, none⟩)) := by rw [Lib.cell_of_heap hb2]; rfl
 have d1 : w2.cell? ⟨b, 1, none⟩ = some v := by rw [Lib.cell_of_heap hb2]; rfl
 have f1 : w2.frozen? ⟨b, 1, none⟩ = false := Lib.frozen_of_heap hb2 1
 obtain ⟨g, cap, rfl⟩ : ∃ g cap, v' = .slice (some ⟨g, 0, none⟩) (bs.length + 1) cap := by
  rcases hown'.2 with ⟨_, h0⟩ | ⟨g, cap, cur, hv, _⟩
  ·omega
  ·exact ⟨g, cap, hv⟩
 go_wp2
 go_ret
 refine ⟨rfl, ?_, ?_⟩
 ·exact Lib.BuilderAt.put (T := 125) (e := 5) hB hb2 (bs' := bs ++ [.int .u8 c]) (by simpa using hown') (by decide)
 ·exact ((hb1.alloc (by have := hb1.size; omega) _).grown hgrow (by have := hb1.size; simp; omega) (fun k hk => (hown.lt k hk).1)).setCell (p := ⟨b, 1, none⟩) hB _
set_option maxHeartbeats 2000000 in
set_option maxRecDepth 100000 in
theorem Builder_text (B b : Nat) (bs : List Value) (s : ByteArray) (w : World) (h : Lib.IsBuilder 125 5 B b bs w) (hlen : bs.length + s.size ≤ 140737488355328) (hBw : B ≤ w.heap.size) :
  Calls Tryz.prog 107 #[.pointer (some ⟨b, 0, none⟩), .string s] w fun e w' => e = .returned (.tuple #[.int .i64 s.size, .nilIface]) ∧ (Lib.BuilderAt 125 5 B b (.pointer (some ⟨b, 0, none⟩)) (bs ++ Lib.strCells s) w' ∧ Below B w w') := by
 obtain ⟨i0, hi, hz0, hz1, hz2⟩ := info_parts infoByte
 go_enter Tryz.func107, Tryz.ntmps107
 go_wp2_with (go_at_call 140; refine (Builder_check B b bs _ h).mono ?_)
 rintro e w1 ⟨rfl, h1, hb1⟩
 obtain ⟨hB, v, hbk, hown, hne⟩ := h1
 have c0 : w1.cell? ⟨b, 0, none⟩ = some (.pointer (some ⟨b, 0, none⟩)) := by rw [Lib.cell_of_heap hbk]; rfl
 have c1 : w1.cell? ⟨b, 1, none⟩ = some v := by rw [Lib.cell_of_heap hbk]; rfl
 go_wp2_with (at_builtin; refine Lib.wpList_append_own_string _ rfl _ _ 41 9 rfl B 5 i0 Tryz.underlying41 Tryz.underlying9 hi hz0 hz1 hz2 _ _ _ rfl hown s rfl ?c3 ?c4 ?c5 ?_)
 case c3 => unfold maxLen; omega
 case c4 => omega
 case c5 => have := hb1.size; omega
 intro v' w2 hown' hgrow _
 have hlt : b < w1.heap.size := by
  rcases Nat.lt_or_ge b w1.heap.size with h' | h'
  ·exact h'
  ·simp [Array.getElem?_eq_none h'] at hbk
 have hb2 : w2.heap[b]? = some (.cells #[.pointer (some ⟨b, 0, none⟩), v] 125 (0, 0)) := by
  rw [hgrow.block b hlt (fun e => hne e.symm)]
  exact hbk
 have d0 : w2.cell? ⟨b, 0, none⟩ = some (.pointer (some ⟨b, 0, none⟩)) := by rw [Lib.cell_of_heap hb2]; rfl
 have d1 : w2.cell? ⟨b, 1, none⟩ = some v := by rw [Lib.cell_of_heap hb2]; rfl
 have f1 : w2.frozen? ⟨b, 1, none⟩ = false := Lib.frozen_of_heap hb2 1
 obtain ⟨ao, n', cap, rfl⟩ : ∃ ao n' cap, v' = .slice ao n' cap := by
  rcases hown'.2 with ⟨hv, _⟩ | ⟨g, cap, cur, hv, _⟩
  ·exact ⟨_, _, _, hv⟩
  ·exact ⟨_, _, _, hv⟩
 go_wp2
 go_ret2
 refine ⟨rfl, ?_, ?_⟩
 ·exact Lib.BuilderAt.put (T := 125) (e := 5) hB hb2 (bs' := bs ++ Lib.strCells s) (by simpa [Lib.strCells_length] using hown') (by decide)
 ·exact (hb1.grown hgrow (by have := hb1.size; omega) (fun k hk => (hown.lt k hk).1)).setCell (p := ⟨b, 1, none⟩) hB _
end Go.Proofs.YtbncnjgflhoneaaGreatDoor.Hand
namespace Go.Proofs.YtbncnjgflhoneaaGreatDoor.Hand
open Go.RowKit Go.Proofs.YtbncnjgflhoneaaGreatDoorW.PrintWords Go.Proofs.YtbncnjgflhoneaaGreatDoorW.PrintLast Go.Proofs.YtbncnjgflhoneaaGreatDoorW.PrintMore
def dotL (s : List UInt8) : List UInt8 := (if s.head? = some 46 then [46] else []) ++ (s ++ [13, 10])
def dotsL (l : List ByteArray) : List UInt8 := (l.flatMap fun s => dotL s.data.toList) ++ [46, 13, 10]
def impl_dotted.f (l : List ByteArray) : Option ByteArray := if (dotsL l).length ≤ 1099511627776 then some ⟨(dotsL l).toArray⟩ else none
def upTo (l : List ByteArray) (k : Nat) : List UInt8 := (l.take k).flatMap fun s => dotL s.data.toList
theorem upTo_succ (l : List ByteArray) (k : Nat) (h : k < l.length) : upTo l (k + 1) = upTo l k ++ dotL (l[k]).data.toList := by
 unfold upTo
 rw [List.take_succ_eq_append_getElem h, List.flatMap_append]
 simp
theorem upTo_le (l : List ByteArray) (k : Nat) : (upTo l k).length + 3 ≤ (dotsL l).length := by
 have e : dotsL l = upTo l k ++ ((l.drop k).flatMap fun s => dotL s.data.toList) ++ [46, 13, 10] := by
  unfold dotsL upTo
  rw [← List.flatMap_append, List.take_append_drop]
 rw [e, List.length_append, List.length_append, List.length_cons, List.length_cons, List.length_singleton]
 omega
theorem upTo_all (l : List ByteArray) : upTo l l.length ++ [46, 13, 10] = dotsL l := by
 unfold upTo dotsL
 rw [List.take_length]
theorem hasDot (s : ByteArray) : Lib.hasPrefix s.data.toList (⟨#[46]⟩ : ByteArray).data.toList = decide (s.data.toList.head? = some 46) := by
 cases hs : s.data.toList with
 | nil => rfl
 | cons a l =>
  show Lib.hasPrefix (a :: l) [46] = _
  rw [Bool.eq_iff_iff]
  simp only [Lib.hasPrefix, List.isPrefixOf, Bool.and_true, List.head?_cons, Option.some.injEq, decide_eq_true_eq, beq_iff_eq]
  exact ⟨fun h => h.symm, fun h => h.symm⟩
theorem cells_byte (l : List UInt8) (c : UInt8) : Lib.byteCells l ++ [.int .u8 c.toNat] = Lib.byteCells (l ++ [c]) := by simp [Lib.byteCells]
theorem cells_text (l : List UInt8) (s : ByteArray) : Lib.byteCells l ++ Lib.strCells s = Lib.byteCells (l ++ s.data.toList) := by simp [Lib.byteCells, Lib.strCells]
theorem rdOf_mem' {α : Type} (d : α) (l : List α) (k : Nat) (h : k < l.length) : rdOf d l (k : Int) = l[k] := by
 unfold rdOf
 simp [List.getD_eq_getElem?_getD, h]
def Holds (w : World) (l : List ByteArray) (k : Nat) (wr : World) : Prop := Lib.IsBuilder 125 5 w.heap.size w.heap.size (Lib.byteCells (upTo l k)) wr ∧ Below w.heap.size w wr
set_option maxHeartbeats 2000000 in
set_option maxRecDepth 100000 in
theorem impl_dotted.calls (A0 : Option Addr) (c0 : Nat) (l0 : List ByteArray) (r : ByteArray) (w : World) (hr0 : Kd.C Kd.string w A0 l0.length l0) (_hc0 : l0.length ≤ c0) (h : impl_dotted.f l0 = some r) :
  Calls Tryz.prog 65 #[.slice A0 l0.length c0] w fun e w' => e = .returned (.string r) ∧ Below w.heap.size w w' := by
 unfold impl_dotted.f at h
 split at h
 ·rename_i hlim
  injection h with h
  have HR := Aside0.mk h
  have hm := hr0.2.1
  have HR0 := Aside0.mk hr0
  have HL := Aside0.mk hlim
  have H0 := Aside0.mk (show Holds w l0 0 (w.alloc (.cells #[.pointer none, .slice none 0 0] 125)) from ⟨Lib.fresh_isBuilder 125 5 w, (Below.refl _ _).alloc (Nat.le_refl _) _⟩)
  clear h hr0 hlim
  go_enter Tryz.func65, Tryz.ntmps65
  go_wp2
  go_loopw [8] (fun i wr => ∃ k : Nat, k ≤ l0.length ∧ i = .int .i64 k ∧ Aside0 (Holds w l0 k wr)) (fun i _ => l0.length - (intOf i).toNat)
  case atStart => exact ⟨0, by omega, rfl, H0⟩
  case round =>
   clear H0
   obtain ⟨k, hk, rfl, HH⟩ := hrel
   by_cases hlt : k < l0.length
   ·obtain ⟨ad, e, hx⟩ := Kd.at_string HR0.out k (by omega) (by omega)
    cases e
    rw [rdOf_mem' _ _ _ hlt, Int.toNat_natCast] at hx
    replace hx := (HH.out.2.cell (World.block_lt_of_cell? w _ hx)).trans hx
    have hsu := upTo_succ l0 k hlt
    have hle := upTo_le l0 (k + 1)
    have hl := HL.out
    generalize l0[k] = s at hx hsu
    by_cases hd : s.data.toList.head? = some 46
    ·have e1 : upTo l0 (k + 1) = upTo l0 k ++ [46] ++ (s.data.toList ++ [13, 10]) := by rw [hsu]; unfold dotL; rw [if_pos hd, List.append_assoc]
     have e2 : (upTo l0 (k + 1)).length = (upTo l0 k).length + 1 + (s.size + 2) := by rw [e1]; simp [data_length]; omega
     have hp : Lib.hasPrefix s.data.toList (⟨#[46]⟩ : ByteArray).data.toList = true := by rw [hasDot, decide_eq_true hd]
     have HP := Aside0.mk (fun W => Tryz.strings_HasPrefix s ⟨#[46]⟩ W)
     rw [hp] at HP
     have E1 := Aside0.mk e1
     have B1 := Aside0.mk (show (upTo l0 k).length + 1 + (s.size + 2) ≤ 1099511627776 by omega)
     have z1 : (9223372036854775807 < s.size + 2) = False := eq_false (by have := B1.out; omega)
     have SZ := Aside0.mk (show (s ++ (⟨#[13, 10]⟩ : ByteArray)).size = s.size + 2 by rw [ByteArray.size_append]; rfl)
     clear e1 hsu hle hl hd hp e2
     go_wp2_with (first
      | (go_at_call 105; refine (HP.out _).mono ?_; rintro e w' ⟨rfl, rfl⟩)
      | (go_at_call 106; refine (Builder_byte w.heap.size w.heap.size (Lib.byteCells (upTo l0 k)) 46 _ HH.out.1 (by rw [Lib.byteCells_length]; have := B1.out; omega) HH.out.2.size).mono ?_; rintro e w1 ⟨rfl, hb1, hbl1⟩; have HB1 := Aside0.mk hb1; have HL1 := Aside0.mk hbl1; clear hb1 hbl1)
      | (go_at_call 107; refine (Builder_text w.heap.size w.heap.size _ _ _ (.inr HB1.out) (by rw [List.length_append, Lib.byteCells_length, SZ.out, List.length_singleton]; have := B1.out; omega) (Nat.le_trans HH.out.2.size HL1.out.size)).mono ?_; rintro e w2 ⟨rfl, hb2, hbl2⟩; have HB2 := Aside0.mk hb2; have HL2 := Aside0.mk hbl2; clear hb2 hbl2))
     go_roundw
     case rel => exact ⟨k + 1, by omega, by go_num, ⟨⟨.inr (by have h3 := HB2.out; rw [show ([.int .u8 46] : List Value) = [.int .u8 ((46 : UInt8).toNat : Int)] from rfl, cells_byte (upTo l0 k) 46, cells_text] at h3; rw [E1.out]; simpa using h3), (HH.out.2.trans HL1.out).trans HL2.out⟩⟩⟩
     case measure => simp [intOf]; omega
    ·have e1 : upTo l0 (k + 1) = upTo l0 k ++ (s.data.toList ++ [13, 10]) := by rw [hsu]; unfold dotL; rw [if_neg hd, List.nil_append]
     have e2 : (upTo l0 (k + 1)).length = (upTo l0 k).length + (s.size + 2) := by rw [e1]; simp [data_length]
     have hp : Lib.hasPrefix s.data.toList (⟨#[46]⟩ : ByteArray).data.toList = false := by rw [hasDot, decide_eq_false hd]
     have HP := Aside0.mk (fun W => Tryz.strings_HasPrefix s ⟨#[46]⟩ W)
     rw [hp] at HP
     have E1 := Aside0.mk e1
     have B1 := Aside0.mk (show (upTo l0 k).length + (s.size + 2) ≤ 1099511627776 by omega)
     have z1 : (9223372036854775807 < s.size + 2) = False := eq_false (by have := B1.out; omega)
     have SZ := Aside0.mk (show (s ++ (⟨#[13, 10]⟩ : ByteArray)).size = s.size + 2 by rw [ByteArray.size_append]; rfl)
     clear e1 hsu hle hl hd hp e2
     go_wp2_with (first
      | (go_at_call 105; refine (HP.out _).mono ?_; rintro e w' ⟨rfl, rfl⟩)
      | (go_at_call 107; refine (Builder_text w.heap.size w.heap.size _ _ _ HH.out.1 (by rw [Lib.byteCells_length, SZ.out]; have := B1.out; omega) HH.out.2.size).mono ?_; rintro e w2 ⟨rfl, hb2, hbl2⟩; have HB2 := Aside0.mk hb2; have HL2 := Aside0.mk hbl2; clear hb2 hbl2))
     go_roundw
     case rel => exact ⟨k + 1, by omega, by go_num, ⟨⟨.inr (by have h3 := HB2.out; rw [cells_text] at h3; rw [E1.out]; simpa using h3), HH.out.2.trans HL2.out⟩⟩⟩
     case measure => simp [intOf]; omega
   ·obtain rfl : k = l0.length := by omega
    have hle := upTo_le l0 l0.length
    have hl := HL.out
    have B1 := Aside0.mk (show (upTo l0 l0.length).length + 3 ≤ 1099511627776 by omega)
    have EA := Aside0.mk (upTo_all l0)
    clear hlt hle hl
    go_wp2_with (first
     | (go_at_call 107; refine (Builder_text w.heap.size w.heap.size _ ⟨#[46, 13, 10]⟩ _ HH.out.1 (by rw [Lib.byteCells_length, show (⟨#[46, 13, 10]⟩ : ByteArray).size = 3 from rfl]; have := B1.out; omega) HH.out.2.size).mono ?_; rintro e w2 ⟨rfl, hb2, hbl2⟩; have HB2 := Aside0.mk hb2; have HL2 := Aside0.mk hbl2; clear hb2 hbl2)
     | (go_at_call 108; refine (Tryz.Builder_String_any w.heap.size w.heap.size (dotsL l0) _ (.inr (by have h3 := HB2.out; rw [cells_text] at h3; rw [← EA.out]; exact h3)) (Nat.le_trans HH.out.2.size HL2.out.size)).mono ?_; rintro e w3 ⟨rfl, hbl3⟩; have HL3 := Aside0.mk hbl3; clear hbl3))
    go_ret
    exact ⟨congrArg (fun x => Ending.returned (.string x)) HR.out, (HH.out.2.trans HL2.out).trans HL3.out⟩
 ·cases h
end Go.Proofs.YtbncnjgflhoneaaGreatDoor.Hand
namespace Go.Proofs.YtbncnjgflhoneaaGreatDoor.F
open Go.RowKit Go.Proofs.YtbncnjgflhoneaaGreatDoor.Hand Go.Proofs.YtbncnjgflhoneaaGreatDoorW.PrintWords Go.Proofs.YtbncnjgflhoneaaGreatDoorW.PrintLast Go.Proofs.YtbncnjgflhoneaaGreatDoorW.PrintMore
set_option linter.unusedVariables false
set_option linter.unusedSimpArgs false
def impl_MailPut.l0 : Nat → ByteArray → List (S32) → Int → Int → ByteArray → ByteArray → List (S32) → List ByteArray → Option (ByteArray)
 | 0, _, _, _, _, _, _, _, _ => none
 | k + 1, x3, x15, x16, x17, x102000, x102001, x102002, x102003 => if x17 < x16 then (if 0 ≤ x17 then (if x17 < (x15.length : Int) then ((impl_Addr_text.f ((rd_T32 x15 x17).f0) ((rd_T32 x15 x17).f1)).bind fun t106 => (if 3 + t106.size ≤ 9223372036854775807 then (if ((⟨#[116, 111, 32]⟩ : ByteArray) ++ t106).size + 2 ≤ 9223372036854775807 then (if x3.size + (((⟨#[116, 111, 32]⟩ : ByteArray) ++ t106) ++ (⟨#[13, 10]⟩ : ByteArray)).size ≤ 9223372036854775807 then (impl_MailPut.l0 k (x3 ++ (((⟨#[116, 111, 32]⟩ : ByteArray) ++ t106) ++ (⟨#[13, 10]⟩ : ByteArray))) x15 x16 (wrap64 (x17 + 1)) x102000 x102001 x102002 x102003) else (none)) else (none)) else (none))) else (none)) else (none)) else (if x3.size + 2 ≤ 9223372036854775807 then ((impl_dotted.f x102003).bind fun t107 => (if (x3 ++ (⟨#[13, 10]⟩ : ByteArray)).size + t107.size ≤ 9223372036854775807 then (some ((x3 ++ (⟨#[13, 10]⟩ : ByteArray)) ++ t107)) else (none))) else (none))
def impl_MailPut.f (k : Nat) (a0_0 : ByteArray) (a0_1 : ByteArray) (l0_2 : List (S32)) (l0_3 : List ByteArray) : Option (ByteArray) := (impl_MailOk.f a0_0 a0_1 l0_2 l0_3).bind fun t102 => (if t102 = true then ((impl_Addr_text.f a0_0 a0_1).bind fun t103 => (if 5 + t103.size ≤ 9223372036854775807 then (if ((⟨#[102, 114, 111, 109, 32]⟩ : ByteArray) ++ t103).size + 2 ≤ 9223372036854775807 then (impl_MailPut.l0 k (((⟨#[102, 114, 111, 109, 32]⟩ : ByteArray) ++ t103) ++ (⟨#[13, 10]⟩ : ByteArray)) l0_2 (l0_2.length : Int) 0 a0_0 a0_1 l0_2 l0_3) else (none)) else (none))) else (some (⟨#[]⟩ : ByteArray)))
set_option maxHeartbeats 8000000 in
set_option maxRecDepth 100000 in
theorem impl_MailPut.calls (k : Nat) (a0_0 : ByteArray) (a0_1 : ByteArray) (A0_2 : Option Addr) (c0_2 : Nat) (l0_2 : List (S32)) (A0_3 : Option Addr) (c0_3 : Nat) (l0_3 : List ByteArray) (r : ByteArray) (w : World) (hG : Laid w) (hr0_2 : Kd.C k32 w A0_2 l0_2.length l0_2) (hc0_2 : l0_2.length ≤ c0_2) (hr0_3 : Kd.C Kd.string w A0_3 l0_3.length l0_3) (hc0_3 : l0_3.length ≤ c0_3) (h : impl_MailPut.f k a0_0 a0_1 l0_2 l0_3 = some r) :
  Calls Tryz.prog 28 #[.agg #[.string a0_0, .string a0_1, .slice A0_2 l0_2.length c0_2, .slice A0_3 l0_3.length c0_3]] w fun e w' => e = .returned (.string r) ∧ Below w.heap.size w w' := by
 have hu35 := Tryz.underlying35
 have hu32 := Tryz.underlying32
 have HG := Aside0.mk hG
 clear hG
 have HR0_2 := Aside0.mk hr0_2
 have HC0_2 := Aside0.mk hc0_2
 clear hr0_2 hc0_2
 have HR0_3 := Aside0.mk hr0_3
 have HC0_3 := Aside0.mk hc0_3
 clear hr0_3 hc0_3
 have HB := Aside0.mk (Below.refl w.heap.size w)
 have H := h
 clear h
 unfold impl_MailPut.f at H
 replace H := bnd H; obtain ⟨t102, A2, H⟩ := H
 replace H := itb H; rcases H with ⟨rfl, H⟩ | ⟨rfl, H⟩
 ·replace H := bnd H; obtain ⟨t103, A4, H⟩ := H
  replace H := itn_edm H; obtain ⟨c5b0, c5b1, c5b2, H⟩ := H
  replace H := itn_cedm H; obtain ⟨c6, c6b0, c6b1, c6b2, H⟩ := H
  have c6b3 : (9223372036854775807 < 5 + t103.size + 2) = False := eq_false (by have z_ := c6; simp only [ByteArray.size_append] at z_; exact Nat.not_lt.2 z_)
  have H' := Aside0.mk H
  clear H
  go_enter Tryz.func28, Tryz.ntmps28
  go_wp2_with (first | ((with_reducible refine gate_dst (N := 1) rfl ?_); refine bx (cs := #[.string a0_0, .string a0_1, .slice A0_2 l0_2.length c0_2, .slice A0_3 l0_3.length c0_3]) (t := 35) ?_; intro gb101 hg w7 hbox hb; have BK101 := Aside0.mk (hbox); have GW101 := gS hg; have GE101 := gS hg; replace HB := bS hb; clear hb hbox hg; have hcz8 := cz4 BK101.out; have hfz8 := fz4 BK101.out) | ((with_reducible refine gate_callee (f := 36) rfl ?_); refine gv 7 Tryz.func36 #[.agg #[.string a0_0, .string a0_1, .slice A0_2 l0_2.length c0_2, .slice A0_3 l0_3.length c0_3]] (impl_MailOk.calls (w := _) (hG := gB) (hr0_2 := cB HR0_2) (_hc0_2 := HC0_2.out) (hr0_3 := cB HR0_3) (hc0_3 := HC0_3.out) (h := A2.out)) ?_; intro w9 hb; replace BK101 := kS BK101 hb; replace HB := bS hb; clear hb; have hcz10 := cz4 BK101.out; have hfz10 := fz4 BK101.out) | ((with_reducible refine gate_callee (f := 29) rfl ?_); refine gv 11 Tryz.func29 _ (impl_Addr_text.calls (w := _) (h := A4.out)) ?_; intro w11 hb; replace BK101 := kS BK101 hb; replace HB := bS hb; clear hb; have hcz12 := cz4 BK101.out; have hfz12 := fz4 BK101.out))
  go_loopg [3, 17] k (fun kq v3 v17 w' => ∃ (x3_1 : ByteArray) (x17_1 : Int), v3 = .string x3_1 ∧ v17 = .int .i64 x17_1 ∧ Aside0 (impl_MailPut.l0 kq x3_1 l0_2 (l0_2.length : Int) x17_1 a0_0 a0_1 l0_2 l0_3 = some r) ∧ Aside0 (kq ≤ k) ∧ Aside0 (w'.heap[gb101]? = some (.cells #[.string a0_0, .string a0_1, (.slice A0_2 l0_2.length c0_2), (.slice A0_3 l0_3.length c0_3)] 35 (0, 0))) ∧ Aside0 (Below w.heap.size w w'))
  case atStart => exact ⟨(((⟨#[102, 114, 111, 109, 32]⟩ : ByteArray) ++ t103) ++ (⟨#[13, 10]⟩ : ByteArray)), (0), zs, zs, H', ⟨Nat.le_refl _⟩, ⟨kQ BK101⟩, ⟨zB⟩⟩
  case round =>
   clear H'
   obtain ⟨x3_1, x17_1, rfl, rfl, HA, HK1, BK101, HB⟩ := hrel
   cases gk with
   | zero => exact absurd HA.out (by simp [impl_MailPut.l0])
   | succ k1 =>
    have H := HA.out
    clear HA
    simp only [impl_MailPut.l0] at H
    replace H := its_d_d H; rcases H with ⟨c13b0, H⟩ | ⟨c13b0, H⟩
    ·replace H := itn_d H; obtain ⟨c14b0, H⟩ := H
     replace H := itn_d H; obtain ⟨c15b0, H⟩ := H
     replace H := bnd H; obtain ⟨t106, A16, H⟩ := H
     replace H := itn_edm H; obtain ⟨c17b0, c17b1, c17b2, H⟩ := H
     replace H := itn_cedm H; obtain ⟨c18, c18b0, c18b1, c18b2, H⟩ := H
     have c18b3 : (9223372036854775807 < 3 + t106.size + 2) = False := eq_false (by have z_ := c18; simp only [ByteArray.size_append] at z_; exact Nat.not_lt.2 z_)
     replace H := itn_cedm H; obtain ⟨c19, c19b0, c19b1, c19b2, H⟩ := H
     have c19b3 : (9223372036854775807 < x3_1.size + (3 + t106.size + 2)) = False := eq_false (by have z_ := c19; simp only [ByteArray.size_append] at z_; exact Nat.not_lt.2 z_)
     have H' := Aside0.mk H
     clear H
     have p104 : 0 ≤ (x17_1 : Int) := of_decide_eq_true za
     have q104 : x17_1 < (l0_2.length : Int) := of_decide_eq_true za
     obtain ⟨ad104, e104, hx104_0, hx104_1⟩ := at_T32 HR0_2.out x17_1 p104 q104
     cases e104
     replace hx104_0 := kx HB hx104_0
     replace hx104_1 := kx HB hx104_1
     replace p104 := eq_true p104
     replace q104 := eq_true q104
     go_wp2_with (first | ((with_reducible refine gate_dst (N := 5) rfl ?_); refine bx (cs := #[.string ⟨#[]⟩, .string ⟨#[]⟩]) (t := 32) ?_; intro gb105 hg w20 hbox hb; have BK105 := Aside0.mk (hbox); have GW105 := gS hg; have GE105 := gS hg; have NB101_105 := nS hg BK101; have NB105_101 := nG hg BK101; replace BK101 := kS BK101 hb; replace HB := bS hb; clear hb hbox hg; have hnb21 := NB105_101.out; have hnc21 := NB101_105.out; have hcz22 := cz2 BK105.out; have hfz22 := fz2 BK105.out) | ((with_reducible refine gate_callee (f := 29) rfl ?_); refine gv 23 Tryz.func29 _ (impl_Addr_text.calls (w := _) (h := A16.out)) ?_; intro w23 hb; replace BK101 := kS BK101 hb; replace BK105 := kP (.cells #[.string ((rd_T32 l0_2 x17_1).f0), .string ((rd_T32 l0_2 x17_1).f1)] 32 (0, 0)) BK105 hb; replace HB := bS hb; clear hb))
     go_roundg k1
     case measure => have := HK1.out; omega
     case rel => exact ⟨(x3_1 ++ (((⟨#[116, 111, 32]⟩ : ByteArray) ++ t106) ++ (⟨#[13, 10]⟩ : ByteArray))), (wrap64 (x17_1 + 1)), zs, zs, H', ⟨by have := HK1.out; omega⟩, ⟨kQ BK101⟩, ⟨zB⟩⟩
    ·replace H := itn_edm H; obtain ⟨c24b0, c24b1, c24b2, H⟩ := H
     replace H := bnd H; obtain ⟨t107, A25, H⟩ := H
     replace H := itn_cedm H; obtain ⟨c26, c26b0, c26b1, c26b2, H⟩ := H
     have c26b3 : (9223372036854775807 < x3_1.size + 2 + t107.size) = False := eq_false (by have z_ := c26; simp only [ByteArray.size_append] at z_; exact Nat.not_lt.2 z_)
     obtain rfl := Option.some.inj H
     have hcz27 := cz4 BK101.out
     have hfz27 := fz4 BK101.out
     go_wp2_with (first | ((with_reducible refine gate_callee (f := 65) rfl ?_); refine gv 32 Tryz.func65 #[.slice A0_3 l0_3.length c0_3] (impl_dotted.calls (w := _) (hr0 := cB HR0_3) (_hc0 := HC0_3.out) (h := A25.out)) ?_; intro w28 hb; replace BK101 := kS BK101 hb; replace HB := bS hb; clear hb))
     go_ret
     exact ⟨zr, zB⟩
 ·obtain rfl := Option.some.inj H
  go_enter Tryz.func28, Tryz.ntmps28
  go_wp2_with (first | ((with_reducible refine gate_dst (N := 1) rfl ?_); refine bx (cs := #[.string a0_0, .string a0_1, .slice A0_2 l0_2.length c0_2, .slice A0_3 l0_3.length c0_3]) (t := 35) ?_; intro gb101 hg w29 hbox hb; have BK101 := Aside0.mk (hbox); have GW101 := gS hg; have GE101 := gS hg; replace HB := bS hb; clear hb hbox hg; have hcz30 := cz4 BK101.out; have hfz30 := fz4 BK101.out) | ((with_reducible refine gate_callee (f := 36) rfl ?_); refine gv 7 Tryz.func36 #[.agg #[.string a0_0, .string a0_1, .slice A0_2 l0_2.length c0_2, .slice A0_3 l0_3.length c0_3]] (impl_MailOk.calls (w := _) (hG := gB) (hr0_2 := cB HR0_2) (_hc0_2 := HC0_2.out) (hr0_3 := cB HR0_3) (hc0_3 := HC0_3.out) (h := A2.out)) ?_; intro w31 hb; replace BK101 := kS BK101 hb; replace HB := bS hb; clear hb))
  go_ret
  exact ⟨zr, zB⟩
end Go.Proofs.YtbncnjgflhoneaaGreatDoor.F
namespace Go.Proofs.YtbncnjgflhoneaaGreatDoor.Hand
open Go.RowKit Go.Proofs.YtbncnjgflhoneaaGreatDoorW.PrintWords Go.Proofs.YtbncnjgflhoneaaGreatDoorW.PrintLast Go.Proofs.YtbncnjgflhoneaaGreatDoorW.PrintMore
def strconv_Itoa.f (n : Int) : Option ByteArray := if -9223372036854775808 ≤ n ∧ n ≤ 9223372036854775807 then some ⟨(Lib.itoa n).toArray⟩ else none
theorem strconv_Itoa.calls (a0 : Int) (r : ByteArray) (w : World) (hG : Laid w) (h : strconv_Itoa.f a0 = some r) :
  Calls Tryz.prog 27 #[.int .i64 a0] w fun e w' => e = .returned (.string r) ∧ Below w.heap.size w w' := by
 unfold strconv_Itoa.f at h
 split at h
 ·rename_i hn
  injection h with h
  subst h
  refine (Tryz.strconv_Itoa a0 hn.1 hn.2 w hG.tab).mono fun e w' ⟨he, k, os, hw⟩ => ⟨he, ?_⟩
  subst hw
  exact Lib.below_grow _ w (Nat.le_refl _) k os
 ·cases h
def decV (l : List UInt8) : Int × Bool :=
 match Lib.atoiAll l with
 | .ok v => (v, decide (0 ≤ v) && (Lib.itoa v == l))
 | .range => (Lib.atoiSat l, false)
 | _ => (0, false)
def impl_decimal.f (s : ByteArray) : Option (Int × Bool) := if s.size ≤ 1099511627776 then some (decV s.data.toList) else none
theorem atoi_ok (s : ByteArray) (hs : s.size ≤ 1099511627776) (v : Int) (h : Lib.atoiAll s.data.toList = .ok v) (w : World) :
  Calls Tryz.prog 77 #[.string s] w fun e w' => e = .returned (.tuple #[.int .i64 v, .nilIface]) ∧ Below w.heap.size w w' := by
 refine (Tryz.strconv_Atoi_ok s (by omega) v h w).mono fun e w' ⟨he, hw⟩ => ⟨he, ?_⟩
 rcases hw with rfl | ⟨t, rfl⟩
 ·exact Below.refl _ _
 ·exact bytes_below (Below.refl _ _) (Nat.le_refl _) 5 t
def Bad (x : Int) (w : World) (e : Ending) (w' : World) : Prop := ∃ n : Nat, e = .returned (.tuple #[.int .i64 x, .iface 165 (.pointer (some ⟨n, 0, none⟩))]) ∧ Below w.heap.size w w'
theorem atoi_bad (s : ByteArray) (hs : s.size ≤ 1099511627776) (h : ∀ v, Lib.atoiAll s.data.toList ≠ .ok v) (w : World) (hG : Laid w) :
  Calls Tryz.prog 77 #[.string s] w (Bad (decV s.data.toList).1 w) := by
 unfold decV
 cases hq : Lib.atoiAll s.data.toList with
 | ok v => exact absurd hq (h v)
 | range =>
  obtain ⟨ev, hv, hev⟩ := hG.eran
  exact (Any.strconv_Atoi_range Tryz.laysC172 s (by omega) hq ev w hv hev).mono fun e w' ⟨n, he, _, _, hb⟩ => ⟨n, he, hb⟩
 | _ =>
  obtain ⟨ev, hv, hev⟩ := hG.esyn
  exact (Any.strconv_Atoi_syntax Tryz.laysC172 s (by omega) hq ev w hv hev).mono fun e w' ⟨n, he, _, _, hb⟩ => ⟨n, he, hb⟩
theorem decV_bad (l : List UInt8) (h : ∀ v, Lib.atoiAll l ≠ .ok v) : (decV l).2 = false := by
 unfold decV
 cases hq : Lib.atoiAll l with
 | ok v => exact absurd hq (h v)
 | _ => rfl
set_option maxHeartbeats 1000000 in
set_option maxRecDepth 100000 in
theorem impl_decimal.calls (a0 : ByteArray) (r1 : Int) (r2 : Bool) (w : World) (hG : Laid w) (h : impl_decimal.f a0 = some (r1, r2)) :
  Calls Tryz.prog 40 #[.string a0] w fun e w' => e = .returned (.tuple #[.int .i64 r1, .bool r2]) ∧ Below w.heap.size w w' := by
 unfold impl_decimal.f at h
 split at h
 ·rename_i hs
  injection h with h
  have hs := Aside0.mk hs
  have HG := Aside0.mk hG
  clear hG
  by_cases hk : ∃ v, Lib.atoiAll a0.data.toList = .ok v
  ·obtain ⟨v, hv⟩ := hk
   obtain ⟨b0, b1⟩ := Lib.atoiAll_bounds hv
   have hd : decV a0.data.toList = (v, decide (0 ≤ v) && (Lib.itoa v == a0.data.toList)) := by unfold decV; rw [hv]
   rw [hd] at h
   injection h with h1 h2
   subst h1
   have HV := Aside0.mk hv
   clear hv hd
   by_cases hz : 0 ≤ v
   ·rw [decide_eq_true hz, Bool.true_and] at h2
    obtain ⟨x, hx⟩ : ∃ x : ByteArray, x = ⟨(Lib.itoa v).toArray⟩ := ⟨_, rfl⟩
    have HX := Aside0.mk (show strconv_Itoa.f v = some x by unfold strconv_Itoa.f; rw [if_pos ⟨b0, b1⟩, hx])
    have hxe : (x.toList == a0.toList) = r2 := by rw [hx, Lib.toList_data, Lib.toList_data, ← h2]
    have hz0 : decide (0 ≤ v) = true := decide_eq_true hz
    clear hx h2 b0 b1
    cases r2
    all_goals
     go_enter Tryz.func40, Tryz.ntmps40
     go_wp2_with (first | (go_at_call 77; refine (atoi_ok a0 hs.out v HV.out _).mono ?_; rintro e w1 ⟨rfl, hb⟩; have HB := Aside0.mk hb; clear hb) | (go_at_call 27; refine (strconv_Itoa.calls v x _ (HG.out.below HB.out) HX.out).mono ?_; rintro e w2 ⟨rfl, hb2⟩; have HB2 := Aside0.mk hb2; clear hb2))
     go_ret2
     exact ⟨rfl, HB.out.trans (HB2.out.mono HB.out.size)⟩
   ·rw [decide_eq_false hz, Bool.false_and] at h2
    subst h2
    have hz0 : decide (0 ≤ v) = false := decide_eq_false hz
    clear hz b0 b1
    go_enter Tryz.func40, Tryz.ntmps40
    go_wp2_with (first | (go_at_call 77; refine (atoi_ok a0 hs.out v HV.out _).mono ?_; rintro e w1 ⟨rfl, hb⟩; have HB := Aside0.mk hb; clear hb))
    go_ret2
    exact ⟨rfl, HB.out⟩
  ·have hk : ∀ v, Lib.atoiAll a0.data.toList ≠ .ok v := fun v hv => hk ⟨v, hv⟩
   have h2 := decV_bad _ hk
   obtain ⟨x, y⟩ : ∃ x, x = (decV a0.data.toList).1 := ⟨_, rfl⟩
   have HC := Aside0.mk (fun W hW => atoi_bad a0 hs.out hk W hW)
   rw [h] at h2 HC
   simp only at h2 HC
   subst h2
   clear h hk y
   go_enter Tryz.func40, Tryz.ntmps40
   go_wp2_with (first | (go_at_call 77; refine (HC.out _ HG.out).mono ?_; rintro e w1 ⟨n, rfl, hb⟩; have HB := Aside0.mk hb; clear hb))
   go_ret2
   exact ⟨rfl, HB.out⟩
 ·cases h
end Go.Proofs.YtbncnjgflhoneaaGreatDoor.Hand
namespace Go.Proofs.YtbncnjgflhoneaaGreatDoor.F
open Go.RowKit Go.Proofs.YtbncnjgflhoneaaGreatDoor.Hand Go.Proofs.YtbncnjgflhoneaaGreatDoorW.PrintWords Go.Proofs.YtbncnjgflhoneaaGreatDoorW.PrintLast Go.Proofs.YtbncnjgflhoneaaGreatDoorW.PrintMore
set_option linter.unusedVariables false
set_option linter.unusedSimpArgs false
def impl_NotePut.f (k : Nat) (a0_0 : Int) (a0_1 : Int) (a0_2 : ByteArray) (a0_3 : ByteArray) (a0_4 : Int) (a0_5 : ByteArray) (a0_6 : ByteArray) (l0_7 : List (S32)) (l0_8 : List ByteArray) : Option (ByteArray) := (impl_NoteOk.f k a0_0 a0_1 a0_2 a0_3 a0_4 a0_5 a0_6 l0_7 l0_8).bind fun t102 => (if t102 = true then ((strconv_Itoa.f a0_4).bind fun t103 => (if a0_0 = 1 then (if 4 + t103.size ≤ 9223372036854775807 then (if ((⟨#[97, 100, 100, 32]⟩ : ByteArray) ++ t103).size + 1 ≤ 9223372036854775807 then ((impl_MailPut.f k a0_5 a0_6 l0_7 l0_8).bind fun t104 => (if (((⟨#[97, 100, 100, 32]⟩ : ByteArray) ++ t103) ++ (⟨#[10]⟩ : ByteArray)).size + t104.size ≤ 9223372036854775807 then (some ((((⟨#[97, 100, 100, 32]⟩ : ByteArray) ++ t103) ++ (⟨#[10]⟩ : ByteArray)) ++ t104)) else (none))) else (none)) else (none)) else ((strconv_Itoa.f a0_1).bind fun t105 => (if t105.size + 1 ≤ 9223372036854775807 then ((impl_Addr_text.f a0_2 a0_3).bind fun t106 => (if (t105 ++ (⟨#[32]⟩ : ByteArray)).size + t106.size ≤ 9223372036854775807 then (if a0_0 = 2 then (if 5 + ((t105 ++ (⟨#[32]⟩ : ByteArray)) ++ t106).size ≤ 9223372036854775807 then (some ((⟨#[100, 111, 110, 101, 32]⟩ : ByteArray) ++ ((t105 ++ (⟨#[32]⟩ : ByteArray)) ++ t106))) else (none)) else (if 6 + ((t105 ++ (⟨#[32]⟩ : ByteArray)) ++ t106).size ≤ 9223372036854775807 then (if ((⟨#[108, 97, 116, 101, 114, 32]⟩ : ByteArray) ++ ((t105 ++ (⟨#[32]⟩ : ByteArray)) ++ t106)).size + 1 ≤ 9223372036854775807 then (if (((⟨#[108, 97, 116, 101, 114, 32]⟩ : ByteArray) ++ ((t105 ++ (⟨#[32]⟩ : ByteArray)) ++ t106)) ++ (⟨#[32]⟩ : ByteArray)).size + t103.size ≤ 9223372036854775807 then (some ((((⟨#[108, 97, 116, 101, 114, 32]⟩ : ByteArray) ++ ((t105 ++ (⟨#[32]⟩ : ByteArray)) ++ t106)) ++ (⟨#[32]⟩ : ByteArray)) ++ t103)) else (none)) else (none)) else (none))) else (none))) else (none))))) else (some (⟨#[]⟩ : ByteArray)))
def impl_NotePut.T6 : Bool × List (List Nat × List Nat) := (true, [([], []), ([0], [0]), ([1], [1]), ([2], [2]), ([], []), ([4], [4]), ([5, 2], [5]), ([3, 6], [3, 6]), ([7, 6, 0, 1, 2, 3, 4, 5, 6, 7], [7])])
def impl_NotePut.B6 : List Nat := [0, 1, 3, 7, 0, 16, 55, 127, 255]
theorem impl_NotePut.tab6 : rtab .any (opsOf Tryz.f10 6) = impl_NotePut.T6 := by kernel_rfl
theorem impl_NotePut.bits6 : waitsOk impl_NotePut.T6.2 impl_NotePut.B6 = true := by kernel_rfl
set_option maxHeartbeats 8000000 in
set_option maxRecDepth 100000 in
theorem impl_NotePut.calls (k : Nat) (a0_0 : Int) (a0_1 : Int) (a0_2 : ByteArray) (a0_3 : ByteArray) (a0_4 : Int) (a0_5 : ByteArray) (a0_6 : ByteArray) (A0_7 : Option Addr) (c0_7 : Nat) (l0_7 : List (S32)) (A0_8 : Option Addr) (c0_8 : Nat) (l0_8 : List ByteArray) (r : ByteArray) (w : World) (hG : Laid w) (hr0_7 : Kd.C k32 w A0_7 l0_7.length l0_7) (hc0_7 : l0_7.length ≤ c0_7) (hr0_8 : Kd.C Kd.string w A0_8 l0_8.length l0_8) (hc0_8 : l0_8.length ≤ c0_8) (h : impl_NotePut.f k a0_0 a0_1 a0_2 a0_3 a0_4 a0_5 a0_6 l0_7 l0_8 = some r) :
  Calls Tryz.prog 10 #[.agg #[.int .i64 a0_0, .int .i64 a0_1, .string a0_2, .string a0_3, .int .i64 a0_4, .string a0_5, .string a0_6, .slice A0_7 l0_7.length c0_7, .slice A0_8 l0_8.length c0_8]] w fun e w' => e = .returned (.string r) ∧ Below w.heap.size w w' := by
 have hu37 := Tryz.underlying37
 have hu35 := Tryz.underlying35
 have hu32 := Tryz.underlying32
 have HG := Aside0.mk hG
 clear hG
 have HR0_7 := Aside0.mk hr0_7
 have HC0_7 := Aside0.mk hc0_7
 clear hr0_7 hc0_7
 have HR0_8 := Aside0.mk hr0_8
 have HC0_8 := Aside0.mk hc0_8
 clear hr0_8 hc0_8
 have HB := Aside0.mk (Below.refl w.heap.size w)
 have H := h
 clear h
 unfold impl_NotePut.f at H
 replace H := bnd H; obtain ⟨t102, A2, H⟩ := H
 replace H := itb H; rcases H with ⟨rfl, H⟩ | ⟨rfl, H⟩
 ·replace H := bnd H; obtain ⟨t103, A4, H⟩ := H
  replace H := its_qn_qn H; rcases H with ⟨c5b0, c5b1, H⟩ | ⟨c5b0, c5b1, H⟩
  ·replace H := itn_edm H; obtain ⟨c6b0, c6b1, c6b2, H⟩ := H
   replace H := itn_cedm H; obtain ⟨c7, c7b0, c7b1, c7b2, H⟩ := H
   have c7b3 : (9223372036854775807 < 4 + t103.size + 1) = False := eq_false (by have z_ := c7; simp only [ByteArray.size_append] at z_; exact Nat.not_lt.2 z_)
   replace H := bnd H; obtain ⟨t104, A8, H⟩ := H
   replace H := itn_cedm H; obtain ⟨c9, c9b0, c9b1, c9b2, H⟩ := H
   have c9b3 : (9223372036854775807 < 4 + t103.size + 1 + t104.size) = False := eq_false (by have z_ := c9; simp only [ByteArray.size_append] at z_; exact Nat.not_lt.2 z_)
   obtain rfl := Option.some.inj H
   go_enter Tryz.func10, Tryz.ntmps10
   go_wp2_with (first | ((with_reducible refine gate_dst (N := 1) rfl ?_); refine bx (cs := #[.int .i64 a0_0, .int .i64 a0_1, .string a0_2, .string a0_3, .int .i64 a0_4, .string a0_5, .string a0_6, .slice A0_7 l0_7.length c0_7, .slice A0_8 l0_8.length c0_8]) (t := 37) ?_; intro gb101 hg w10 hbox hb; have BK101 := Aside0.mk (hbox); have GW101 := gS hg; have GE101 := gS hg; replace HB := bS hb; clear hb hbox hg; have hcz11 := cz9 BK101.out; have hfz11 := fz9 BK101.out) | ((with_reducible refine gate_callee (f := 13) rfl ?_); refine gv 6 Tryz.func13 #[.agg #[.int .i64 a0_0, .int .i64 a0_1, .string a0_2, .string a0_3, .int .i64 a0_4, .string a0_5, .string a0_6, .slice A0_7 l0_7.length c0_7, .slice A0_8 l0_8.length c0_8]] (impl_NoteOk.calls (w := _) (hG := gB) (hr0_7 := cB HR0_7) (hc0_7 := HC0_7.out) (hr0_8 := cB HR0_8) (hc0_8 := HC0_8.out) (h := A2.out)) ?_; intro w12 hb; replace BK101 := kS BK101 hb; replace HB := bS hb; clear hb; have hcz13 := cz9 BK101.out; have hfz13 := fz9 BK101.out) | ((with_reducible refine gate_callee (f := 27) rfl ?_); refine gv 10 Tryz.func27 _ (strconv_Itoa.calls (w := _) (hG := gB) (h := A4.out)) ?_; intro w14 hb; replace BK101 := kS BK101 hb; replace HB := bS hb; clear hb; have hcz15 := cz9 BK101.out; have hfz15 := fz9 BK101.out) | ((with_reducible refine gate_callee (f := 28) rfl ?_); refine gv 19 Tryz.func28 #[.agg #[.string a0_5, .string a0_6, .slice A0_7 l0_7.length c0_7, .slice A0_8 l0_8.length c0_8]] (impl_MailPut.calls (w := _) (hG := gB) (hr0_2 := cB HR0_7) (hc0_2 := HC0_7.out) (hr0_3 := cB HR0_8) (hc0_3 := HC0_8.out) (h := A8.out)) ?_; intro w16 hb; replace BK101 := kS BK101 hb; replace HB := bS hb; clear hb))
   go_ret
   exact ⟨zr, zB⟩
  ·replace H := bnd H; obtain ⟨t105, A17, H⟩ := H
   replace H := itn_edm H; obtain ⟨c18b0, c18b1, c18b2, H⟩ := H
   replace H := bnd H; obtain ⟨t106, A19, H⟩ := H
   replace H := itn_cedm H; obtain ⟨c20, c20b0, c20b1, c20b2, H⟩ := H
   have c20b3 : (9223372036854775807 < t105.size + 1 + t106.size) = False := eq_false (by have z_ := c20; simp only [ByteArray.size_append] at z_; exact Nat.not_lt.2 z_)
   replace H := its_qn_qn H; rcases H with ⟨c21b0, c21b1, H⟩ | ⟨c21b0, c21b1, H⟩
   ·replace H := itn_cedm H; obtain ⟨c22, c22b0, c22b1, c22b2, H⟩ := H
    have c22b3 : (9223372036854775807 < 5 + (t105.size + 1 + t106.size)) = False := eq_false (by have z_ := c22; simp only [ByteArray.size_append] at z_; exact Nat.not_lt.2 z_)
    obtain rfl := Option.some.inj H
    go_enter Tryz.func10, Tryz.ntmps10
    try go_wp2_with (first | ((with_reducible refine gate_dst (N := 1) rfl ?_); refine bx (cs := #[.int .i64 a0_0, .int .i64 a0_1, .string a0_2, .string a0_3, .int .i64 a0_4, .string a0_5, .string a0_6, .slice A0_7 l0_7.length c0_7, .slice A0_8 l0_8.length c0_8]) (t := 37) ?_; intro gb101 hg w23 hbox hb; have BK101 := Aside0.mk (hbox); have GW101 := gS hg; have GE101 := gS hg; replace HB := bS hb; clear hb hbox hg; have hcz24 := cz9 BK101.out; have hfz24 := fz9 BK101.out) | ((with_reducible refine gate_callee (f := 13) rfl ?_); refine gv 6 Tryz.func13 #[.agg #[.int .i64 a0_0, .int .i64 a0_1, .string a0_2, .string a0_3, .int .i64 a0_4, .string a0_5, .string a0_6, .slice A0_7 l0_7.length c0_7, .slice A0_8 l0_8.length c0_8]] (impl_NoteOk.calls (w := _) (hG := gB) (hr0_7 := cB HR0_7) (hc0_7 := HC0_7.out) (hr0_8 := cB HR0_8) (hc0_8 := HC0_8.out) (h := A2.out)) ?_; intro w25 hb; replace BK101 := kS BK101 hb; replace HB := bS hb; clear hb; have hcz26 := cz9 BK101.out; have hfz26 := fz9 BK101.out) | ((with_reducible refine gate_callee (f := 27) rfl ?_); refine gv 10 Tryz.func27 _ (strconv_Itoa.calls (w := _) (hG := gB) (h := A4.out)) ?_; intro w27 hb; replace BK101 := kS BK101 hb; replace HB := bS hb; clear hb; have hcz28 := cz9 BK101.out; have hfz28 := fz9 BK101.out))
    replace BK101 := Aside0.mk (blk_drew BK101.out)
    replace HB := Aside0.mk (below_drew1 HB.out)
    refine start_ (n := 9) (S := fun w' => w'.cell? ⟨gb101, 0, none⟩ = some (.int .i64 a0_0) ∧ w'.cell? ⟨gb101, 1, none⟩ = some (.int .i64 a0_1) ∧ w'.cell? ⟨gb101, 2, none⟩ = some (.string a0_2) ∧ w'.cell? ⟨gb101, 3, none⟩ = some (.string a0_3) ∧ w'.cell? ⟨gb101, 4, none⟩ = some (.int .i64 a0_4) ∧ w'.cell? ⟨gb101, 5, none⟩ = some (.string a0_5) ∧ w'.cell? ⟨gb101, 6, none⟩ = some (.string a0_6) ∧ w'.cell? ⟨gb101, 7, none⟩ = some (.slice A0_7 l0_7.length c0_7) ∧ w'.cell? ⟨gb101, 8, none⟩ = some (.slice A0_8 l0_8.length c0_8)) (ds := []) #[false, false, false, false, false, false, false, false, false] (by kernel_rfl) rfl rfl ⟨(blk_cell BK101.out 0).trans rfl, (blk_cell BK101.out 1).trans rfl, (blk_cell BK101.out 2).trans rfl, (blk_cell BK101.out 3).trans rfl, (blk_cell BK101.out 4).trans rfl, (blk_cell BK101.out 5).trans rfl, (blk_cell BK101.out 6).trans rfl, (blk_cell BK101.out 7).trans rfl, (blk_cell BK101.out 8).trans rfl⟩ (fun hHeld => ?_); refine with_tabW impl_NotePut.tab6 impl_NotePut.bits6 (fun HT_ HW_ => ?_)
    generalize w27.drew = w29 at BK101 HB hHeld ⊢
    refine pu 0 21 ?_
    refine pu 4 25 ?_
    refine ta 1 22 ?_
    refine ta 5 26 ?_
    refine on 2 (some 23) (fun K hK => ?_)
    refine goes_ Tryz.func27 (by kernel_rfl) rfl #[.int .i64 a0_1] (by rfl) rfl rfl zm ?_
    with_reducible refine (strconv_Itoa.calls a0_1 t105 _ ?side1 A17.out).mono ?_
    (case side1 => exact Laid.below HG.out zB)
    rintro e w30 ⟨rfl, hb⟩
    refine ⟨_, rfl, ?_⟩
    replace BK101 := kS BK101 hb
    replace HB := bS hb
    (try clear hb)
    (try clear hb2)
    (try clear hk)
    (try clear hi)
    refine kO 23 hK (fun hHeld => ?_)
    clear hK K
    refine pu 3 24 ?_
    refine on 6 (some 27) (fun K hK => ?_)
    refine goes_ Tryz.func29 (by kernel_rfl) rfl #[.agg #[.string a0_2, .string a0_3]] (by rfl) rfl rfl zm ?_
    with_reducible refine (impl_Addr_text.calls a0_2 a0_3 t106 _ A19.out).mono ?_
    rintro e w31 ⟨rfl, hb⟩
    refine ⟨_, rfl, ?_⟩
    replace BK101 := kS BK101 hb
    replace HB := bS hb
    (try clear hb)
    (try clear hb2)
    (try clear hk)
    (try clear hi)
    refine kO 27 hK (fun hHeld => ?_)
    clear hK K
    refine pu 7 28 ?_
    refine pu 8 4 ?_
    refine done_ (done_of HT_.out (by kernel_rfl)) ?_
    have hcz32 := cz9 BK101.out
    have hfz32 := fz9 BK101.out
    try go_wp2
    go_ret
    exact ⟨zr, zB⟩
   ·replace H := itn_cedm H; obtain ⟨c33, c33b0, c33b1, c33b2, H⟩ := H
    have c33b3 : (9223372036854775807 < 6 + (t105.size + 1 + t106.size)) = False := eq_false (by have z_ := c33; simp only [ByteArray.size_append] at z_; exact Nat.not_lt.2 z_)
    replace H := itn_cedm H; obtain ⟨c34, c34b0, c34b1, c34b2, H⟩ := H
    have c34b3 : (9223372036854775807 < 6 + (t105.size + 1 + t106.size) + 1) = False := eq_false (by have z_ := c34; simp only [ByteArray.size_append] at z_; exact Nat.not_lt.2 z_)
    replace H := itn_cedm H; obtain ⟨c35, c35b0, c35b1, c35b2, H⟩ := H
    have c35b3 : (9223372036854775807 < 6 + (t105.size + 1 + t106.size) + 1 + t103.size) = False := eq_false (by have z_ := c35; simp only [ByteArray.size_append] at z_; exact Nat.not_lt.2 z_)
    obtain rfl := Option.some.inj H
    go_enter Tryz.func10, Tryz.ntmps10
    try go_wp2_with (first | ((with_reducible refine gate_dst (N := 1) rfl ?_); refine bx (cs := #[.int .i64 a0_0, .int .i64 a0_1, .string a0_2, .string a0_3, .int .i64 a0_4, .string a0_5, .string a0_6, .slice A0_7 l0_7.length c0_7, .slice A0_8 l0_8.length c0_8]) (t := 37) ?_; intro gb101 hg w36 hbox hb; have BK101 := Aside0.mk (hbox); have GW101 := gS hg; have GE101 := gS hg; replace HB := bS hb; clear hb hbox hg; have hcz37 := cz9 BK101.out; have hfz37 := fz9 BK101.out) | ((with_reducible refine gate_callee (f := 13) rfl ?_); refine gv 6 Tryz.func13 #[.agg #[.int .i64 a0_0, .int .i64 a0_1, .string a0_2, .string a0_3, .int .i64 a0_4, .string a0_5, .string a0_6, .slice A0_7 l0_7.length c0_7, .slice A0_8 l0_8.length c0_8]] (impl_NoteOk.calls (w := _) (hG := gB) (hr0_7 := cB HR0_7) (hc0_7 := HC0_7.out) (hr0_8 := cB HR0_8) (hc0_8 := HC0_8.out) (h := A2.out)) ?_; intro w38 hb; replace BK101 := kS BK101 hb; replace HB := bS hb; clear hb; have hcz39 := cz9 BK101.out; have hfz39 := fz9 BK101.out) | ((with_reducible refine gate_callee (f := 27) rfl ?_); refine gv 10 Tryz.func27 _ (strconv_Itoa.calls (w := _) (hG := gB) (h := A4.out)) ?_; intro w40 hb; replace BK101 := kS BK101 hb; replace HB := bS hb; clear hb; have hcz41 := cz9 BK101.out; have hfz41 := fz9 BK101.out))
    replace BK101 := Aside0.mk (blk_drew BK101.out)
    replace HB := Aside0.mk (below_drew1 HB.out)
    refine start_ (n := 9) (S := fun w' => w'.cell? ⟨gb101, 0, none⟩ = some (.int .i64 a0_0) ∧ w'.cell? ⟨gb101, 1, none⟩ = some (.int .i64 a0_1) ∧ w'.cell? ⟨gb101, 2, none⟩ = some (.string a0_2) ∧ w'.cell? ⟨gb101, 3, none⟩ = some (.string a0_3) ∧ w'.cell? ⟨gb101, 4, none⟩ = some (.int .i64 a0_4) ∧ w'.cell? ⟨gb101, 5, none⟩ = some (.string a0_5) ∧ w'.cell? ⟨gb101, 6, none⟩ = some (.string a0_6) ∧ w'.cell? ⟨gb101, 7, none⟩ = some (.slice A0_7 l0_7.length c0_7) ∧ w'.cell? ⟨gb101, 8, none⟩ = some (.slice A0_8 l0_8.length c0_8)) (ds := []) #[false, false, false, false, false, false, false, false, false] (by kernel_rfl) rfl rfl ⟨(blk_cell BK101.out 0).trans rfl, (blk_cell BK101.out 1).trans rfl, (blk_cell BK101.out 2).trans rfl, (blk_cell BK101.out 3).trans rfl, (blk_cell BK101.out 4).trans rfl, (blk_cell BK101.out 5).trans rfl, (blk_cell BK101.out 6).trans rfl, (blk_cell BK101.out 7).trans rfl, (blk_cell BK101.out 8).trans rfl⟩ (fun hHeld => ?_); refine with_tabW impl_NotePut.tab6 impl_NotePut.bits6 (fun HT_ HW_ => ?_)
    generalize w40.drew = w42 at BK101 HB hHeld ⊢
    refine pu 0 21 ?_
    refine pu 4 25 ?_
    refine ta 1 22 ?_
    refine ta 5 26 ?_
    refine on 2 (some 23) (fun K hK => ?_)
    refine goes_ Tryz.func27 (by kernel_rfl) rfl #[.int .i64 a0_1] (by rfl) rfl rfl zm ?_
    with_reducible refine (strconv_Itoa.calls a0_1 t105 _ ?side1 A17.out).mono ?_
    (case side1 => exact Laid.below HG.out zB)
    rintro e w43 ⟨rfl, hb⟩
    refine ⟨_, rfl, ?_⟩
    replace BK101 := kS BK101 hb
    replace HB := bS hb
    (try clear hb)
    (try clear hb2)
    (try clear hk)
    (try clear hi)
    refine kO 23 hK (fun hHeld => ?_)
    clear hK K
    refine pu 3 24 ?_
    refine on 6 (some 27) (fun K hK => ?_)
    refine goes_ Tryz.func29 (by kernel_rfl) rfl #[.agg #[.string a0_2, .string a0_3]] (by rfl) rfl rfl zm ?_
    with_reducible refine (impl_Addr_text.calls a0_2 a0_3 t106 _ A19.out).mono ?_
    rintro e w44 ⟨rfl, hb⟩
    refine ⟨_, rfl, ?_⟩
    replace BK101 := kS BK101 hb
    replace HB := bS hb
    (try clear hb)
    (try clear hb2)
    (try clear hk)
    (try clear hi)
    refine kO 27 hK (fun hHeld => ?_)
    clear hK K
    refine pu 7 28 ?_
    refine pu 8 4 ?_
    refine done_ (done_of HT_.out (by kernel_rfl)) ?_
    have hcz45 := cz9 BK101.out
    have hfz45 := fz9 BK101.out
    try go_wp2
    go_ret
    exact ⟨zr, zB⟩
 ·obtain rfl := Option.some.inj H
  go_enter Tryz.func10, Tryz.ntmps10
  go_wp2_with (first | ((with_reducible refine gate_dst (N := 1) rfl ?_); refine bx (cs := #[.int .i64 a0_0, .int .i64 a0_1, .string a0_2, .string a0_3, .int .i64 a0_4, .string a0_5, .string a0_6, .slice A0_7 l0_7.length c0_7, .slice A0_8 l0_8.length c0_8]) (t := 37) ?_; intro gb101 hg w46 hbox hb; have BK101 := Aside0.mk (hbox); have GW101 := gS hg; have GE101 := gS hg; replace HB := bS hb; clear hb hbox hg; have hcz47 := cz9 BK101.out; have hfz47 := fz9 BK101.out) | ((with_reducible refine gate_callee (f := 13) rfl ?_); refine gv 6 Tryz.func13 #[.agg #[.int .i64 a0_0, .int .i64 a0_1, .string a0_2, .string a0_3, .int .i64 a0_4, .string a0_5, .string a0_6, .slice A0_7 l0_7.length c0_7, .slice A0_8 l0_8.length c0_8]] (impl_NoteOk.calls (w := _) (hG := gB) (hr0_7 := cB HR0_7) (hc0_7 := HC0_7.out) (hr0_8 := cB HR0_8) (hc0_8 := HC0_8.out) (h := A2.out)) ?_; intro w48 hb; replace BK101 := kS BK101 hb; replace HB := bS hb; clear hb))
  go_ret
  exact ⟨zr, zB⟩
end Go.Proofs.YtbncnjgflhoneaaGreatDoor.F
