/- Of this claim, merged by program: F45. -/
import Derived.Test.YtbncnjgflhoneaaGreatDoorG02
import Derived.Test.YtbncnjgflhoneaaGreatDoorG04
import Derived.Test.YtbncnjgflhoneaaGreatDoorG14
import Derived.Test.YtbncnjgflhoneaaGreatDoorG20
namespace Go.Proofs.YtbncnjgflhoneaaGreatDoor.F
open Go.RowKit Go.Proofs.YtbncnjgflhoneaaGreatDoor.Hand Go.Proofs.YtbncnjgflhoneaaGreatDoorW.PrintWords Go.Proofs.YtbncnjgflhoneaaGreatDoorW.PrintLast Go.Proofs.YtbncnjgflhoneaaGreatDoorW.PrintMore
attribute [local go_sem] max2_int min2_int max_two min_two max_three min_three max_four min_four
set_option linter.unusedVariables false
set_option linter.unusedSimpArgs false

mutual
def spec_l6Get.j0 : Nat → List ByteArray → List ByteArray → Bool → Int → Int → ByteArray → ByteArray → Int → ByteArray → ByteArray → Option (Int × Int × ByteArray × ByteArray × Int × ByteArray × ByteArray × (List (S32)) × List ByteArray)
 | 0, _, _, _, _, _, _, _, _, _, _ => none
 | k + 1, x3, x4, x19, x110000, x110001, x110002, x110003, x110004, x110005, x110006 => if x19 = true then (if 1 < (x4.length : Int) then ((spec_l1Num.f k (rdOf ByteArray.empty x4 1)).bind fun t112 => (if 1 < (x3.length : Int) then ((spec_MailGet.f k (rdOf ByteArray.empty x3 1)).bind fun bt114 => (some (1, x110001, x110002, x110003, t112, bt114.1, bt114.2.1, bt114.2.2.1, bt114.2.2.2.1))) else (none))) else (none)) else (if 0 < (x4.length : Int) then (if (rdOf ByteArray.empty x4 0).toList = ([100, 111, 110, 101] : List UInt8) then (spec_l6Get.j1 k x4 ((x4.length : Int) == 3) x110000 x110001 x110002 x110003 x110004 x110005 x110006) else (spec_l6Get.j1 k x4 false x110000 x110001 x110002 x110003 x110004 x110005 x110006)) else (none))
def spec_l6Get.j1 : Nat → List ByteArray → Bool → Int → Int → ByteArray → ByteArray → Int → ByteArray → ByteArray → Option (Int × Int × ByteArray × ByteArray × Int × ByteArray × ByteArray × (List (S32)) × List ByteArray)
 | 0, _, _, _, _, _, _, _, _, _ => none
 | k + 1, x4, x49, x110000, x110001, x110002, x110003, x110004, x110005, x110006 => if x49 = true then (if 1 < (x4.length : Int) then ((spec_l1Num.f k (rdOf ByteArray.empty x4 1)).bind fun t126 => (if 2 < (x4.length : Int) then ((spec_AddrGet.f k (rdOf ByteArray.empty x4 2)).bind fun bt128 => (some (2, t126, bt128.1, bt128.2.1, x110004, x110005, x110006, ([] : List (S32)), ([] : List ByteArray)))) else (none))) else (none)) else (if 0 < (x4.length : Int) then (if (rdOf ByteArray.empty x4 0).toList = ([108, 97, 116, 101, 114] : List UInt8) then (spec_l6Get.j2 k x4 ((x4.length : Int) == 4) x110000 x110001 x110002 x110003 x110004 x110005 x110006) else (spec_l6Get.j2 k x4 false x110000 x110001 x110002 x110003 x110004 x110005 x110006)) else (none))
def spec_l6Get.j2 : Nat → List ByteArray → Bool → Int → Int → ByteArray → ByteArray → Int → ByteArray → ByteArray → Option (Int × Int × ByteArray × ByteArray × Int × ByteArray × ByteArray × (List (S32)) × List ByteArray)
 | 0, _, _, _, _, _, _, _, _, _ => none
 | k + 1, x4, x74, x110000, x110001, x110002, x110003, x110004, x110005, x110006 => if x74 = true then (if 1 < (x4.length : Int) then ((spec_l1Num.f k (rdOf ByteArray.empty x4 1)).bind fun t134 => (if 2 < (x4.length : Int) then ((spec_AddrGet.f k (rdOf ByteArray.empty x4 2)).bind fun bt136 => (if 3 < (x4.length : Int) then ((spec_l1Num.f k (rdOf ByteArray.empty x4 3)).bind fun t141 => (some (3, t134, bt136.1, bt136.2.1, t141, x110005, x110006, ([] : List (S32)), ([] : List ByteArray)))) else (none))) else (none))) else (none)) else (some (x110000, x110001, x110002, x110003, x110004, x110005, x110006, ([] : List (S32)), ([] : List ByteArray)))
end
def spec_l6Get.f (k : Nat) (a0 : ByteArray) : Option (Int × Int × ByteArray × ByteArray × Int × ByteArray × ByteArray × (List (S32)) × List ByteArray) := (spec_l1Cut.f k a0 10 1).bind fun t102 => (if 0 < (t102.length : Int) then ((spec_l1Cut.f k (rdOf ByteArray.empty t102 0) 32 4).bind fun t106 => (if 0 < (t106.length : Int) then (if (rdOf ByteArray.empty t106 0).toList = ([97, 100, 100] : List UInt8) then (if (t106.length : Int) = 2 then (spec_l6Get.j0 k t102 t106 ((t102.length : Int) == 2) 0 0 (⟨#[]⟩ : ByteArray) (⟨#[]⟩ : ByteArray) 0 (⟨#[]⟩ : ByteArray) (⟨#[]⟩ : ByteArray)) else (spec_l6Get.j0 k t102 t106 false 0 0 (⟨#[]⟩ : ByteArray) (⟨#[]⟩ : ByteArray) 0 (⟨#[]⟩ : ByteArray) (⟨#[]⟩ : ByteArray))) else (spec_l6Get.j0 k t102 t106 false 0 0 (⟨#[]⟩ : ByteArray) (⟨#[]⟩ : ByteArray) 0 (⟨#[]⟩ : ByteArray) (⟨#[]⟩ : ByteArray))) else (none))) else (none))
theorem spec_l6Get.mono_l : ∀ k, (∀ y0 y1 y2 y3 y4 y5 y6 y7 y8 y9, LeO (spec_l6Get.j0 k y0 y1 y2 y3 y4 y5 y6 y7 y8 y9) (spec_l6Get.j0 (k + 1) y0 y1 y2 y3 y4 y5 y6 y7 y8 y9)) ∧ (∀ y0 y1 y2 y3 y4 y5 y6 y7 y8, LeO (spec_l6Get.j1 k y0 y1 y2 y3 y4 y5 y6 y7 y8) (spec_l6Get.j1 (k + 1) y0 y1 y2 y3 y4 y5 y6 y7 y8)) ∧ (∀ y0 y1 y2 y3 y4 y5 y6 y7 y8, LeO (spec_l6Get.j2 k y0 y1 y2 y3 y4 y5 y6 y7 y8) (spec_l6Get.j2 (k + 1) y0 y1 y2 y3 y4 y5 y6 y7 y8))
 | 0 => ⟨fun _ _ _ _ _ _ _ _ _ _ r h => by simp [spec_l6Get.j0] at h, fun _ _ _ _ _ _ _ _ _ r h => by simp [spec_l6Get.j1] at h, fun _ _ _ _ _ _ _ _ _ r h => by simp [spec_l6Get.j2] at h⟩
 | k + 1 => by
  obtain ⟨ih0, ih1, ih2⟩ := spec_l6Get.mono_l k
  refine ⟨?_, ?_, ?_⟩
  ·intro y0 y1 y2 y3 y4 y5 y6 y7 y8 y9
   unfold spec_l6Get.j0
   repeat' with_reducible first | apply ih0 | apply ih1 | apply ih2 | apply spec_AddrGet.mono | apply spec_MailGet.mono | apply spec_l1Cut.mono | apply spec_l1Num.mono | exact LeO.refl _ | exact LeO.none _ | apply LeO.ite | refine LeO.bind ?_ fun _ => ?_
  ·intro y0 y1 y2 y3 y4 y5 y6 y7 y8
   unfold spec_l6Get.j1
   repeat' with_reducible first | apply ih0 | apply ih1 | apply ih2 | apply spec_AddrGet.mono | apply spec_MailGet.mono | apply spec_l1Cut.mono | apply spec_l1Num.mono | exact LeO.refl _ | exact LeO.none _ | apply LeO.ite | refine LeO.bind ?_ fun _ => ?_
  ·intro y0 y1 y2 y3 y4 y5 y6 y7 y8
   unfold spec_l6Get.j2
   repeat' with_reducible first | apply ih0 | apply ih1 | apply ih2 | apply spec_AddrGet.mono | apply spec_MailGet.mono | apply spec_l1Cut.mono | apply spec_l1Num.mono | exact LeO.refl _ | exact LeO.none _ | apply LeO.ite | refine LeO.bind ?_ fun _ => ?_
theorem spec_l6Get.mono : ∀ a0 k, LeO (spec_l6Get.f k a0) (spec_l6Get.f (k + 1) a0) := by
 intro a0 k
 obtain ⟨ih0, ih1, ih2⟩ := spec_l6Get.mono_l k
 unfold spec_l6Get.f
 repeat' with_reducible first | apply ih0 | apply ih1 | apply ih2 | apply spec_AddrGet.mono | apply spec_MailGet.mono | apply spec_l1Cut.mono | apply spec_l1Num.mono | exact LeO.refl _ | exact LeO.none _ | apply LeO.ite | refine LeO.bind ?_ fun _ => ?_
set_option maxHeartbeats 8000000 in
set_option maxRecDepth 100000 in
theorem spec_l6Get.calls (k : Nat) (a0 : ByteArray) (r1 : Int) (r2 : Int) (r3 : ByteArray) (r4 : ByteArray) (r5 : Int) (r6 : ByteArray) (r7 : ByteArray) (r8 : List (S32)) (r9 : List ByteArray) (w : World) (h : spec_l6Get.f k a0 = some (r1, r2, r3, r4, r5, r6, r7, r8, r9)) :
  Calls Tryz.prog 45 #[.string a0] w fun e w' => ∃ v7_ v8_ : Value, e = .returned (.agg #[.int .i64 r1, .int .i64 r2, .string r3, .string r4, .int .i64 r5, .string r6, .string r7, v7_, v8_]) ∧ Kd.R k32 32 w' w.heap.size (fun _ => True) v7_ r8 ∧ Kd.R Kd.string 9 w' w.heap.size (fun _ => True) v8_ r9 ∧ Below w.heap.size w w' := by
 have hu37 := Tryz.underlying37
 have hu35 := Tryz.underlying35
 have hu32 := Tryz.underlying32
 have HB := Aside0.mk (Below.refl w.heap.size w)
 have H := h
 clear h
 unfold spec_l6Get.f at H
 replace H := bnd H; obtain ⟨t102, A2, H⟩ := H
 replace H := itn_cd H; obtain ⟨c3, c3b0, H⟩ := H
 have c3b1 : decide (0 < t102.length) = true := decide_eq_true (by omega)
 clear c3
 replace H := bnd H; obtain ⟨t106, A4, H⟩ := H
 have HC5 := Aside0.mk H
 clear H
 go_enter Tryz.func45, Tryz.ntmps45
 go_upto_region 4 with (first | ((with_reducible refine gate_dst (N := 2) rfl ?_); (try (refine gate_guard (by rfl) ?_; dsimp only)); refine bx (cs := #[.int .i64 0, .int .i64 0, .string ⟨#[]⟩, .string ⟨#[]⟩, .int .i64 0, .string ⟨#[]⟩, .string ⟨#[]⟩, .slice none 0 0, .slice none 0 0]) (t := 37) ?_; intro gb101 hg w6 hbox hb; have BK101 := Aside0.mk (hbox); have GW101 := gS hg; have GE101 := gS hg; replace HB := bS hb; clear hb hbox hg) | ((with_reducible refine gate_callee (f := 84) rfl ?_); refine gl 13 Tryz.func84 _ ((spec_l1Cut.calls (w := _) (h := A2.out)).mono ?_); rintro e w7 ⟨v103, rfl, ho0, hb⟩; refine ⟨_, rfl, ?_⟩; have HO104 := lS ho0; replace BK101 := kS BK101 hb; replace HB := bS hb; clear hb ho0; obtain ⟨Ao8, co8, eo8⟩ := Kd.R_slice HO104.out; subst eo8; have p105 : 0 ≤ (0 : Int) := (by omega); have q105 : 0 < (t102.length : Int) := of_decide_eq_true za; obtain ⟨ad105, e105, hx105_0⟩ := Kd.at_string (Kd.R_reads' HO104.out).2.2 0 p105 q105; cases e105; have qi105 : (0 < t102.length) = True := eq_true (by omega); (try rw [show ((0 : Int)).toNat = 0 from rfl] at hx105_0); (try rw [Addr.add_zero'] at hx105_0); replace p105 := eq_true p105; replace q105 := eq_true q105) | ((with_reducible refine gate_callee (f := 84) rfl ?_); refine gl 17 Tryz.func84 _ ((spec_l1Cut.calls (w := _) (h := A4.out)).mono ?_); rintro e w9 ⟨v107, rfl, ho0, hb⟩; refine ⟨_, rfl, ?_⟩; have HO108 := Aside0.mk (Kd.R_lower (Kd.R_new' ho0 (Kd.R_lt (rO HO104))) (bZ)); replace HO104 := Aside0.mk (Kd.R_elder' (rO HO104) (Kd.R_base ho0) hb); replace BK101 := kS BK101 hb; replace HB := bS hb; clear hb ho0) | ((with_reducible refine gate_dst (N := 5) rfl ?_); (try (refine gate_guard (by rfl) ?_; dsimp only)); refine bx (cs := #[.int .i64 0, .int .i64 0, .string ⟨#[]⟩, .string ⟨#[]⟩, .int .i64 0, .string ⟨#[]⟩, .string ⟨#[]⟩, .slice none 0 0, .slice none 0 0]) (t := 37) ?_; intro gb109 hg w10 hbox hb; replace HO104 := rS HO104 hb; replace HO108 := rS HO108 hb; have BK109 := Aside0.mk (hbox); have GW109 := gS hg; have GE109 := gS hg; have NB101_109 := nS hg BK101; have NB109_101 := nG hg BK101; replace BK101 := kS BK101 hb; replace HB := bS hb; clear hb hbox hg; have hnb11 := NB109_101.out; have hnc11 := NB101_109.out; obtain ⟨hcz12_0, hcz12_1, hcz12_2, hcz12_3, hcz12_4, hcz12_5, hcz12_6, hcz12_7, hcz12_8⟩ := cz9 BK109.out; obtain ⟨hfz12_0, hfz12_1, hfz12_2, hfz12_3, hfz12_4, hfz12_5, hfz12_6, hfz12_7, hfz12_8⟩ := fz9 BK109.out))
 (try simp only [Act.put, List.setIfInBounds_toArray, List.set_cons_zero, List.set_cons_succ])
 go_cut [19] (fun v19 wc => ∃ (kq : Nat) (x19_4 : Bool), v19 = .bool x19_4 ∧ Aside0 (spec_l6Get.j0 kq t102 t106 x19_4 0 0 (⟨#[]⟩ : ByteArray) (⟨#[]⟩ : ByteArray) 0 (⟨#[]⟩ : ByteArray) (⟨#[]⟩ : ByteArray) = some (r1, r2, r3, r4, r5, r6, r7, r8, r9)) ∧ Aside0 (kq ≤ k) ∧ Aside0 (Kd.R Kd.string 9 wc w.heap.size (fun k_ => some k_ ≠ (v107 : Value).ownBlock) (.slice (some ad105) t102.length co8) t102) ∧ Aside0 (Kd.R Kd.string 9 wc w.heap.size (fun k_ => some k_ ≠ ((.slice (some ad105) t102.length co8) : Value).ownBlock) v107 t106) ∧ Aside0 (wc.heap[gb101]? = some (.cells #[.int .i64 0, .int .i64 0, .string (⟨#[]⟩ : ByteArray), .string (⟨#[]⟩ : ByteArray), .int .i64 0, .string (⟨#[]⟩ : ByteArray), .string (⟨#[]⟩ : ByteArray), (.slice none 0 0), (.slice none 0 0)] 37 (0, 0))) ∧ Aside0 (wc.heap[gb109]? = some (.cells #[.int .i64 0, .int .i64 0, .string (⟨#[]⟩ : ByteArray), .string (⟨#[]⟩ : ByteArray), .int .i64 0, .string (⟨#[]⟩ : ByteArray), .string (⟨#[]⟩ : ByteArray), (.slice none 0 0), (.slice none 0 0)] 37 (0, 0))) ∧ Aside0 (Below w.heap.size w wc))
 case first =>
  have H := HC5.out
  clear HC5
  replace H := itn_cd H; obtain ⟨c13, c13b0, H⟩ := H
  have c13b1 : decide (0 < t106.length) = true := decide_eq_true (by omega)
  clear c13
  (first | rw [c13b0] | (simp only [i64_w, i32_w]; rw [c13b0]) | skip)
  replace H := its_qn_qn H; rcases H with ⟨c14b0, c14b1, H⟩ | ⟨c14b0, c14b1, H⟩
  ·replace H := its_qn_qn H; rcases H with ⟨c15b0, c15b1, H⟩ | ⟨c15b0, c15b1, H⟩
   ·have H' := Aside0.mk H
    clear H
    obtain ⟨Ao16, co16, eo16⟩ := Kd.R_slice HO108.out
    subst eo16
    have p110 : 0 ≤ (0 : Int) := (by omega)
    have q110 : 0 < (t106.length : Int) := of_decide_eq_true za
    obtain ⟨ad110, e110, hx110_0⟩ := Kd.at_string (Kd.R_reads' HO108.out).2.2 0 p110 q110
    cases e110
    have qi110 : (0 < t106.length) = True := eq_true (by omega)
    (try rw [show ((0 : Int)).toNat = 0 from rfl] at hx110_0)
    (try rw [Addr.add_zero'] at hx110_0)
    have hn110_0 : ad110.block ≠ gb109 := Kd.own_blk (Kd.R_ne HO108.out BK109.out (by decide))
    have hn110_1 : ad110.block ≠ gb109 := Kd.own_blk (Kd.R_ne HO108.out BK109.out (by decide))
    have hn110_2 : ad110.block ≠ gb109 := Kd.own_blk (Kd.R_ne HO108.out BK109.out (by decide))
    have hn110_3 : ad110.block ≠ gb109 := Kd.own_blk (Kd.R_ne HO108.out BK109.out (by decide))
    have hn110_4 : ad110.block ≠ gb109 := Kd.own_blk (Kd.R_ne HO108.out BK109.out (by decide))
    have hn110_5 : ad110.block ≠ gb109 := Kd.own_blk (Kd.R_ne HO108.out BK109.out (by decide))
    have hn110_6 : ad110.block ≠ gb109 := Kd.own_blk (Kd.R_ne HO108.out BK109.out (by decide))
    have hn110_7 : ad110.block ≠ gb109 := Kd.own_blk (Kd.R_ne HO108.out BK109.out (by decide))
    have hn110_8 : ad110.block ≠ gb109 := Kd.own_blk (Kd.R_ne HO108.out BK109.out (by decide))
    replace hx110_0 := (cell_far (p := ⟨gb109, 0, none⟩) (by first | (rw [add_block]; exact hn110_0) | (show (Addr.add _ _).block ≠ _; rw [add_block]; exact hn110_0) | exact hn110_0) (.int .i64 0)).trans hx110_0
    replace hx110_0 := (cell_far (p := ⟨gb109, 1, none⟩) (by first | (rw [add_block]; exact hn110_1) | (show (Addr.add _ _).block ≠ _; rw [add_block]; exact hn110_1) | exact hn110_1) (.int .i64 0)).trans hx110_0
    replace hx110_0 := (cell_far (p := ⟨gb109, 2, none⟩) (by first | (rw [add_block]; exact hn110_2) | (show (Addr.add _ _).block ≠ _; rw [add_block]; exact hn110_2) | exact hn110_2) (.string (⟨#[]⟩ : ByteArray))).trans hx110_0
    replace hx110_0 := (cell_far (p := ⟨gb109, 3, none⟩) (by first | (rw [add_block]; exact hn110_3) | (show (Addr.add _ _).block ≠ _; rw [add_block]; exact hn110_3) | exact hn110_3) (.string (⟨#[]⟩ : ByteArray))).trans hx110_0
    replace hx110_0 := (cell_far (p := ⟨gb109, 4, none⟩) (by first | (rw [add_block]; exact hn110_4) | (show (Addr.add _ _).block ≠ _; rw [add_block]; exact hn110_4) | exact hn110_4) (.int .i64 0)).trans hx110_0
    replace hx110_0 := (cell_far (p := ⟨gb109, 5, none⟩) (by first | (rw [add_block]; exact hn110_5) | (show (Addr.add _ _).block ≠ _; rw [add_block]; exact hn110_5) | exact hn110_5) (.string (⟨#[]⟩ : ByteArray))).trans hx110_0
    replace hx110_0 := (cell_far (p := ⟨gb109, 6, none⟩) (by first | (rw [add_block]; exact hn110_6) | (show (Addr.add _ _).block ≠ _; rw [add_block]; exact hn110_6) | exact hn110_6) (.string (⟨#[]⟩ : ByteArray))).trans hx110_0
    replace hx110_0 := (cell_far (p := ⟨gb109, 7, none⟩) (by first | (rw [add_block]; exact hn110_7) | (show (Addr.add _ _).block ≠ _; rw [add_block]; exact hn110_7) | exact hn110_7) (.slice none 0 0)).trans hx110_0
    replace hx110_0 := (cell_far (p := ⟨gb109, 8, none⟩) (by first | (rw [add_block]; exact hn110_8) | (show (Addr.add _ _).block ≠ _; rw [add_block]; exact hn110_8) | exact hn110_8) (.slice none 0 0)).trans hx110_0
    clear hn110_0
    clear hn110_1
    clear hn110_2
    clear hn110_3
    clear hn110_4
    clear hn110_5
    clear hn110_6
    clear hn110_7
    clear hn110_8
    replace p110 := eq_true p110
    replace q110 := eq_true q110
    go_wp2
    go_meet
    case rel => exact ⟨_, (((t102.length : Int) == 2)), zs, H', ⟨by first | omega | exact Nat.le_refl _⟩, ⟨fM HO104 BK109 (fun _ hk => hk.1.2)⟩, ⟨fM HO108 BK109 (fun _ hk => hk.1.2)⟩, ⟨kQ BK101⟩, ⟨kQ BK109⟩, ⟨zB⟩⟩
   ·have H' := Aside0.mk H
    clear H
    obtain ⟨Ao17, co17, eo17⟩ := Kd.R_slice HO108.out
    subst eo17
    have p110 : 0 ≤ (0 : Int) := (by omega)
    have q110 : 0 < (t106.length : Int) := of_decide_eq_true za
    obtain ⟨ad110, e110, hx110_0⟩ := Kd.at_string (Kd.R_reads' HO108.out).2.2 0 p110 q110
    cases e110
    have qi110 : (0 < t106.length) = True := eq_true (by omega)
    (try rw [show ((0 : Int)).toNat = 0 from rfl] at hx110_0)
    (try rw [Addr.add_zero'] at hx110_0)
    have hn110_0 : ad110.block ≠ gb109 := Kd.own_blk (Kd.R_ne HO108.out BK109.out (by decide))
    have hn110_1 : ad110.block ≠ gb109 := Kd.own_blk (Kd.R_ne HO108.out BK109.out (by decide))
    have hn110_2 : ad110.block ≠ gb109 := Kd.own_blk (Kd.R_ne HO108.out BK109.out (by decide))
    have hn110_3 : ad110.block ≠ gb109 := Kd.own_blk (Kd.R_ne HO108.out BK109.out (by decide))
    have hn110_4 : ad110.block ≠ gb109 := Kd.own_blk (Kd.R_ne HO108.out BK109.out (by decide))
    have hn110_5 : ad110.block ≠ gb109 := Kd.own_blk (Kd.R_ne HO108.out BK109.out (by decide))
    have hn110_6 : ad110.block ≠ gb109 := Kd.own_blk (Kd.R_ne HO108.out BK109.out (by decide))
    have hn110_7 : ad110.block ≠ gb109 := Kd.own_blk (Kd.R_ne HO108.out BK109.out (by decide))
    have hn110_8 : ad110.block ≠ gb109 := Kd.own_blk (Kd.R_ne HO108.out BK109.out (by decide))
    replace hx110_0 := (cell_far (p := ⟨gb109, 0, none⟩) (by first | (rw [add_block]; exact hn110_0) | (show (Addr.add _ _).block ≠ _; rw [add_block]; exact hn110_0) | exact hn110_0) (.int .i64 0)).trans hx110_0
    replace hx110_0 := (cell_far (p := ⟨gb109, 1, none⟩) (by first | (rw [add_block]; exact hn110_1) | (show (Addr.add _ _).block ≠ _; rw [add_block]; exact hn110_1) | exact hn110_1) (.int .i64 0)).trans hx110_0
    replace hx110_0 := (cell_far (p := ⟨gb109, 2, none⟩) (by first | (rw [add_block]; exact hn110_2) | (show (Addr.add _ _).block ≠ _; rw [add_block]; exact hn110_2) | exact hn110_2) (.string (⟨#[]⟩ : ByteArray))).trans hx110_0
    replace hx110_0 := (cell_far (p := ⟨gb109, 3, none⟩) (by first | (rw [add_block]; exact hn110_3) | (show (Addr.add _ _).block ≠ _; rw [add_block]; exact hn110_3) | exact hn110_3) (.string (⟨#[]⟩ : ByteArray))).trans hx110_0
    replace hx110_0 := (cell_far (p := ⟨gb109, 4, none⟩) (by first | (rw [add_block]; exact hn110_4) | (show (Addr.add _ _).block ≠ _; rw [add_block]; exact hn110_4) | exact hn110_4) (.int .i64 0)).trans hx110_0
    replace hx110_0 := (cell_far (p := ⟨gb109, 5, none⟩) (by first | (rw [add_block]; exact hn110_5) | (show (Addr.add _ _).block ≠ _; rw [add_block]; exact hn110_5) | exact hn110_5) (.string (⟨#[]⟩ : ByteArray))).trans hx110_0
    replace hx110_0 := (cell_far (p := ⟨gb109, 6, none⟩) (by first | (rw [add_block]; exact hn110_6) | (show (Addr.add _ _).block ≠ _; rw [add_block]; exact hn110_6) | exact hn110_6) (.string (⟨#[]⟩ : ByteArray))).trans hx110_0
    replace hx110_0 := (cell_far (p := ⟨gb109, 7, none⟩) (by first | (rw [add_block]; exact hn110_7) | (show (Addr.add _ _).block ≠ _; rw [add_block]; exact hn110_7) | exact hn110_7) (.slice none 0 0)).trans hx110_0
    replace hx110_0 := (cell_far (p := ⟨gb109, 8, none⟩) (by first | (rw [add_block]; exact hn110_8) | (show (Addr.add _ _).block ≠ _; rw [add_block]; exact hn110_8) | exact hn110_8) (.slice none 0 0)).trans hx110_0
    clear hn110_0
    clear hn110_1
    clear hn110_2
    clear hn110_3
    clear hn110_4
    clear hn110_5
    clear hn110_6
    clear hn110_7
    clear hn110_8
    replace p110 := eq_true p110
    replace q110 := eq_true q110
    go_wp2
    go_meet
    case rel => exact ⟨_, (false), zs, H', ⟨by first | omega | exact Nat.le_refl _⟩, ⟨fM HO104 BK109 (fun _ hk => hk.1.2)⟩, ⟨fM HO108 BK109 (fun _ hk => hk.1.2)⟩, ⟨kQ BK101⟩, ⟨kQ BK109⟩, ⟨zB⟩⟩
  ·have H' := Aside0.mk H
   clear H
   obtain ⟨Ao18, co18, eo18⟩ := Kd.R_slice HO108.out
   subst eo18
   have p110 : 0 ≤ (0 : Int) := (by omega)
   have q110 : 0 < (t106.length : Int) := of_decide_eq_true za
   obtain ⟨ad110, e110, hx110_0⟩ := Kd.at_string (Kd.R_reads' HO108.out).2.2 0 p110 q110
   cases e110
   have qi110 : (0 < t106.length) = True := eq_true (by omega)
   (try rw [show ((0 : Int)).toNat = 0 from rfl] at hx110_0)
   (try rw [Addr.add_zero'] at hx110_0)
   have hn110_0 : ad110.block ≠ gb109 := Kd.own_blk (Kd.R_ne HO108.out BK109.out (by decide))
   have hn110_1 : ad110.block ≠ gb109 := Kd.own_blk (Kd.R_ne HO108.out BK109.out (by decide))
   have hn110_2 : ad110.block ≠ gb109 := Kd.own_blk (Kd.R_ne HO108.out BK109.out (by decide))
   have hn110_3 : ad110.block ≠ gb109 := Kd.own_blk (Kd.R_ne HO108.out BK109.out (by decide))
   have hn110_4 : ad110.block ≠ gb109 := Kd.own_blk (Kd.R_ne HO108.out BK109.out (by decide))
   have hn110_5 : ad110.block ≠ gb109 := Kd.own_blk (Kd.R_ne HO108.out BK109.out (by decide))
   have hn110_6 : ad110.block ≠ gb109 := Kd.own_blk (Kd.R_ne HO108.out BK109.out (by decide))
   have hn110_7 : ad110.block ≠ gb109 := Kd.own_blk (Kd.R_ne HO108.out BK109.out (by decide))
   have hn110_8 : ad110.block ≠ gb109 := Kd.own_blk (Kd.R_ne HO108.out BK109.out (by decide))
   replace hx110_0 := (cell_far (p := ⟨gb109, 0, none⟩) (by first | (rw [add_block]; exact hn110_0) | (show (Addr.add _ _).block ≠ _; rw [add_block]; exact hn110_0) | exact hn110_0) (.int .i64 0)).trans hx110_0
   replace hx110_0 := (cell_far (p := ⟨gb109, 1, none⟩) (by first | (rw [add_block]; exact hn110_1) | (show (Addr.add _ _).block ≠ _; rw [add_block]; exact hn110_1) | exact hn110_1) (.int .i64 0)).trans hx110_0
   replace hx110_0 := (cell_far (p := ⟨gb109, 2, none⟩) (by first | (rw [add_block]; exact hn110_2) | (show (Addr.add _ _).block ≠ _; rw [add_block]; exact hn110_2) | exact hn110_2) (.string (⟨#[]⟩ : ByteArray))).trans hx110_0
   replace hx110_0 := (cell_far (p := ⟨gb109, 3, none⟩) (by first | (rw [add_block]; exact hn110_3) | (show (Addr.add _ _).block ≠ _; rw [add_block]; exact hn110_3) | exact hn110_3) (.string (⟨#[]⟩ : ByteArray))).trans hx110_0
   replace hx110_0 := (cell_far (p := ⟨gb109, 4, none⟩) (by first | (rw [add_block]; exact hn110_4) | (show (Addr.add _ _).block ≠ _; rw [add_block]; exact hn110_4) | exact hn110_4) (.int .i64 0)).trans hx110_0
   replace hx110_0 := (cell_far (p := ⟨gb109, 5, none⟩) (by first | (rw [add_block]; exact hn110_5) | (show (Addr.add _ _).block ≠ _; rw [add_block]; exact hn110_5) | exact hn110_5) (.string (⟨#[]⟩ : ByteArray))).trans hx110_0
   replace hx110_0 := (cell_far (p := ⟨gb109, 6, none⟩) (by first | (rw [add_block]; exact hn110_6) | (show (Addr.add _ _).block ≠ _; rw [add_block]; exact hn110_6) | exact hn110_6) (.string (⟨#[]⟩ : ByteArray))).trans hx110_0
   replace hx110_0 := (cell_far (p := ⟨gb109, 7, none⟩) (by first | (rw [add_block]; exact hn110_7) | (show (Addr.add _ _).block ≠ _; rw [add_block]; exact hn110_7) | exact hn110_7) (.slice none 0 0)).trans hx110_0
   replace hx110_0 := (cell_far (p := ⟨gb109, 8, none⟩) (by first | (rw [add_block]; exact hn110_8) | (show (Addr.add _ _).block ≠ _; rw [add_block]; exact hn110_8) | exact hn110_8) (.slice none 0 0)).trans hx110_0
   clear hn110_0
   clear hn110_1
   clear hn110_2
   clear hn110_3
   clear hn110_4
   clear hn110_5
   clear hn110_6
   clear hn110_7
   clear hn110_8
   replace p110 := eq_true p110
   replace q110 := eq_true q110
   go_wp2
   go_meet
   case rel => exact ⟨_, (false), zs, H', ⟨by first | omega | exact Nat.le_refl _⟩, ⟨fM HO104 BK109 (fun _ hk => hk.1.2)⟩, ⟨fM HO108 BK109 (fun _ hk => hk.1.2)⟩, ⟨kQ BK101⟩, ⟨kQ BK109⟩, ⟨zB⟩⟩
 case rest =>
  clear HC5
  obtain ⟨kq, x19_4, rfl, HA, HJ4, HO_3, HO_4, BK101, BK109, HB⟩ := hcut
  cases kq with
  | zero => exact absurd HA.out (by simp [spec_l6Get.j0])
  | succ kj4 =>
   have H := HA.out
   clear HA
   simp only [spec_l6Get.j0] at H
   replace H := itb H; rcases H with ⟨rfl, H⟩ | ⟨rfl, H⟩
   ·replace H := itn_cd H; obtain ⟨c20, c20b0, H⟩ := H
    have c20b1 : decide (1 < t106.length) = true := decide_eq_true (by omega)
    clear c20
    replace H := bnd H; obtain ⟨t112, A21, H⟩ := H
    replace H := itn_cd H; obtain ⟨c22, c22b0, H⟩ := H
    have c22b1 : decide (1 < t102.length) = true := decide_eq_true (by omega)
    clear c22
    replace H := bnd H; obtain ⟨⟨t114, t115, t116, t119, t122⟩, A23, H⟩ := H
    dsimp only at H
    simp only [Option.some.injEq, Prod.mk.injEq] at H
    obtain ⟨rfl, rfl, rfl, rfl, rfl, rfl, rfl, rfl, rfl⟩ := H
    have hnb24 := NB109_101.out
    have hnc24 := NB101_109.out
    obtain ⟨hcz25_0, hcz25_1, hcz25_2, hcz25_3, hcz25_4, hcz25_5, hcz25_6, hcz25_7, hcz25_8⟩ := cz9 BK109.out
    obtain ⟨hfz25_0, hfz25_1, hfz25_2, hfz25_3, hfz25_4, hfz25_5, hfz25_6, hfz25_7, hfz25_8⟩ := fz9 BK109.out
    obtain ⟨Ao26, co26, eo26⟩ := Kd.R_slice HO_4.out
    subst eo26
    have p111 : 0 ≤ (1 : Int) := (by omega)
    have q111 : 1 < (t106.length : Int) := of_decide_eq_true za
    obtain ⟨ad111, e111, hx111_0⟩ := Kd.at_string (Kd.R_reads' HO_4.out).2.2 1 p111 q111
    cases e111
    (try simp only [show (1 : Int).toNat = 1 from rfl, Nat.reduceMul, Nat.reduceEqDiff, Go.Addr.add, ↓reduceIte] at hx111_0)
    have qi111 : (1 < t106.length) = True := eq_true (by omega)
    (try rw [show ((1 : Int)).toNat = 1 from rfl] at hx111_0)
    have hn111_0 : ad111.block ≠ gb109 := Kd.own_blk (Kd.R_ne HO_4.out BK109.out (by decide))
    replace hx111_0 := (cell_far (p := ⟨gb109, 0, none⟩) (by first | (rw [add_block]; exact hn111_0) | (show (Addr.add _ _).block ≠ _; rw [add_block]; exact hn111_0) | exact hn111_0) (.int .i64 1)).trans hx111_0
    clear hn111_0
    replace p111 := eq_true p111
    replace q111 := eq_true q111
    go_wp2_with (first | ((with_reducible refine gate_callee (f := 85) rfl ?_); refine gv 38 Tryz.func85 _ (spec_l1Num.calls (w := _) (h := A21.out)) ?_; rintro w' ⟨nd, rfl⟩; have p113 : 0 ≤ (1 : Int) := (by omega); have q113 : 1 < (t102.length : Int) := of_decide_eq_true za; obtain ⟨ad113, e113, hx113_0⟩ := Kd.at_string (Kd.R_reads' HO_3.out).2.2 1 p113 q113; obtain rfl : ad105 = ad113 := (by injection e113); (try simp only [show (1 : Int).toNat = 1 from rfl, Nat.reduceMul, Nat.reduceEqDiff, Go.Addr.add, ↓reduceIte] at hx113_0); have qi113 : (1 < t102.length) = True := eq_true (by omega); (try rw [show ((1 : Int)).toNat = 1 from rfl] at hx113_0); have hn113_0 : ad105.block ≠ gb109 := Kd.own_blk (Kd.R_ne HO_3.out BK109.out (by decide)); have hn113_1 : ad105.block ≠ gb109 := Kd.own_blk (Kd.R_ne HO_3.out BK109.out (by decide)); replace hx113_0 := (cell_far (p := ⟨gb109, 0, none⟩) (by first | (rw [add_block]; exact hn113_0) | (show (Addr.add _ _).block ≠ _; rw [add_block]; exact hn113_0) | exact hn113_0) (.int .i64 1)).trans hx113_0; replace hx113_0 := ((show ∀ (W : World) (a : Addr), (W.drewN nd).cell? a = W.cell? a from fun _ _ => rfl) _ _).trans hx113_0; replace hx113_0 := (cell_far (p := ⟨gb109, 4, none⟩) (by first | (rw [add_block]; exact hn113_1) | (show (Addr.add _ _).block ≠ _; rw [add_block]; exact hn113_1) | exact hn113_1) (.int .i64 t112)).trans hx113_0; clear hn113_0 hn113_1; replace p113 := eq_true p113; replace q113 := eq_true q113) | ((with_reducible refine gate_callee (f := 86) rfl ?_); refine gl 44 Tryz.func86 _ ((spec_MailGet.calls (w := _) (h := A23.out)).mono ?_); rintro e w27 ⟨v117, v120, rfl, ho0, ho1, hb⟩; refine ⟨_, rfl, ?_⟩; have HO118 := lS ho0; have HO121 := Aside0.mk (Kd.R_lower (Kd.R_new' (Kd.R_new' ho1 (Kd.R_lt (fO HO_3 BK109))) (Kd.R_lt (fO HO_4 BK109))) (bZ)); replace HO_3 := Aside0.mk (Kd.R_elder' (fO HO_3 BK109) (Kd.R_base ho1) hb); replace HO_4 := Aside0.mk (Kd.R_elder' (fO HO_4 BK109) (Kd.R_base ho1) hb); replace BK101 := kS BK101 hb; replace BK109 := kP (.cells #[.int .i64 1, .int .i64 0, .string ⟨#[]⟩, .string ⟨#[]⟩, .int .i64 t112, .string ⟨#[]⟩, .string ⟨#[]⟩, .slice none 0 0, .slice none 0 0] 37 (0, 0)) BK109 hb; replace HB := bS hb; clear hb ho0; (try clear ho1)) | ((with_reducible refine gate_dst (N := 6) rfl ?_); (try (refine gate_guard (by rfl) ?_; dsimp only)); refine bx (cs := #[.string ⟨#[]⟩, .string ⟨#[]⟩, .slice none 0 0, .slice none 0 0]) (t := 35) ?_; intro gb123 hg w28 hbox hb; replace HO_3 := rS HO_3 hb; replace HO_4 := rS HO_4 hb; replace HO118 := rS HO118 hb; replace HO121 := rS HO121 hb; have BK123 := Aside0.mk (hbox); have GW123 := gS hg; have GE123 := gS hg; have NB101_123 := nS hg BK101; have NB123_101 := nG hg BK101; replace BK101 := kS BK101 hb; have NB109_123 := nS hg BK109; have NB123_109 := nG hg BK109; replace BK109 := kS BK109 hb; replace HB := bS hb; clear hb hbox hg; have hnb29 := NB123_101.out; have hnc29 := NB101_123.out; have hnb30 := NB123_109.out; have hnc30 := NB109_123.out; obtain ⟨hcz31_0, hcz31_1, hcz31_2, hcz31_3⟩ := cz4 BK123.out; obtain ⟨hfz31_0, hfz31_1, hfz31_2, hfz31_3⟩ := fz4 BK123.out; obtain ⟨Ao32, co32, eo32⟩ := Kd.R_slice HO118.out; subst eo32; obtain ⟨Ao33, co33, eo33⟩ := Kd.R_slice HO121.out; subst eo33; obtain ⟨hcz34_0, hcz34_1, hcz34_2, hcz34_3, hcz34_4, hcz34_5, hcz34_6, hcz34_7, hcz34_8⟩ := cz9 BK109.out; obtain ⟨hfz34_0, hfz34_1, hfz34_2, hfz34_3, hfz34_4, hfz34_5, hfz34_6, hfz34_7, hfz34_8⟩ := fz9 BK109.out; obtain ⟨hcz35_0, hcz35_1, hcz35_2, hcz35_3, hcz35_4, hcz35_5, hcz35_6, hcz35_7, hcz35_8⟩ := cz9 BK101.out; obtain ⟨hfz35_0, hfz35_1, hfz35_2, hfz35_3, hfz35_4, hfz35_5, hfz35_6, hfz35_7, hfz35_8⟩ := fz9 BK101.out))
    refine bodyPost_ret (results_cell_row rfl _ _ gb101 37 #[.int .i64 1, .int .i64 0, .string (⟨#[]⟩ : ByteArray), .string (⟨#[]⟩ : ByteArray), .int .i64 t112, .string t114, .string t115, .slice Ao32 t116.length co32, .slice Ao33 t119.length co33] (0, 0) _ rfl (kQ BK101) Tryz.underlying37 rfl z0_) rfl ?_
    exact ⟨_, _, zr, by (with_reducible repeat (first | apply Kd.R_alloc | apply Kd.R_drewN | apply Kd.R_drew)); exact Kd.R_mono (Kd.R_far (p := ⟨gb101, 8, none⟩) (Kd.R_far (p := ⟨gb101, 7, none⟩) (Kd.R_far (p := ⟨gb101, 6, none⟩) (Kd.R_far (p := ⟨gb101, 5, none⟩) (Kd.R_far (p := ⟨gb101, 4, none⟩) (Kd.R_far (p := ⟨gb101, 3, none⟩) (Kd.R_far (p := ⟨gb101, 2, none⟩) (Kd.R_far (p := ⟨gb101, 1, none⟩) (Kd.R_far (p := ⟨gb101, 0, none⟩) (Kd.R_far (p := ⟨gb109, 8, none⟩) (Kd.R_far (p := ⟨gb109, 7, none⟩) (Kd.R_far (p := ⟨gb109, 6, none⟩) (Kd.R_far (p := ⟨gb109, 5, none⟩) (Kd.R_far (p := ⟨gb123, 3, none⟩) (Kd.R_far (p := ⟨gb123, 2, none⟩) (Kd.R_far (p := ⟨gb123, 1, none⟩) (Kd.R_far (p := ⟨gb123, 0, none⟩) (Kd.R_types (Kd.R_types (Kd.R_types HO118.out BK123.out (by decide)) BK109.out (by decide)) BK101.out (by decide)) (fun _ hk => hk.1.1.2) (.string t114)) (fun _ hk => hk.1.1.2) (.string t115)) (fun _ hk => hk.1.1.2) (.slice Ao32 t116.length co32)) (fun _ hk => hk.1.1.2) (.slice Ao33 t119.length co33)) (fun _ hk => hk.1.2) (.string t114)) (fun _ hk => hk.1.2) (.string t115)) (fun _ hk => hk.1.2) (.slice Ao32 t116.length co32)) (fun _ hk => hk.1.2) (.slice Ao33 t119.length co33)) (fun _ hk => hk.2) (.int .i64 1)) (fun _ hk => hk.2) (.int .i64 0)) (fun _ hk => hk.2) (.string (⟨#[]⟩ : ByteArray))) (fun _ hk => hk.2) (.string (⟨#[]⟩ : ByteArray))) (fun _ hk => hk.2) (.int .i64 t112)) (fun _ hk => hk.2) (.string t114)) (fun _ hk => hk.2) (.string t115)) (fun _ hk => hk.2) (.slice Ao32 t116.length co32)) (fun _ hk => hk.2) (.slice Ao33 t119.length co33)) (fun _ hk => trivial), by (with_reducible repeat (first | apply Kd.R_alloc | apply Kd.R_drewN | apply Kd.R_drew)); exact Kd.R_mono (Kd.R_far (p := ⟨gb101, 8, none⟩) (Kd.R_far (p := ⟨gb101, 7, none⟩) (Kd.R_far (p := ⟨gb101, 6, none⟩) (Kd.R_far (p := ⟨gb101, 5, none⟩) (Kd.R_far (p := ⟨gb101, 4, none⟩) (Kd.R_far (p := ⟨gb101, 3, none⟩) (Kd.R_far (p := ⟨gb101, 2, none⟩) (Kd.R_far (p := ⟨gb101, 1, none⟩) (Kd.R_far (p := ⟨gb101, 0, none⟩) (Kd.R_far (p := ⟨gb109, 8, none⟩) (Kd.R_far (p := ⟨gb109, 7, none⟩) (Kd.R_far (p := ⟨gb109, 6, none⟩) (Kd.R_far (p := ⟨gb109, 5, none⟩) (Kd.R_far (p := ⟨gb123, 3, none⟩) (Kd.R_far (p := ⟨gb123, 2, none⟩) (Kd.R_far (p := ⟨gb123, 1, none⟩) (Kd.R_far (p := ⟨gb123, 0, none⟩) (Kd.R_types (Kd.R_types (Kd.R_types HO121.out BK123.out (by decide)) BK109.out (by decide)) BK101.out (by decide)) (fun _ hk => hk.1.1.2) (.string t114)) (fun _ hk => hk.1.1.2) (.string t115)) (fun _ hk => hk.1.1.2) (.slice Ao32 t116.length co32)) (fun _ hk => hk.1.1.2) (.slice Ao33 t119.length co33)) (fun _ hk => hk.1.2) (.string t114)) (fun _ hk => hk.1.2) (.string t115)) (fun _ hk => hk.1.2) (.slice Ao32 t116.length co32)) (fun _ hk => hk.1.2) (.slice Ao33 t119.length co33)) (fun _ hk => hk.2) (.int .i64 1)) (fun _ hk => hk.2) (.int .i64 0)) (fun _ hk => hk.2) (.string (⟨#[]⟩ : ByteArray))) (fun _ hk => hk.2) (.string (⟨#[]⟩ : ByteArray))) (fun _ hk => hk.2) (.int .i64 t112)) (fun _ hk => hk.2) (.string t114)) (fun _ hk => hk.2) (.string t115)) (fun _ hk => hk.2) (.slice Ao32 t116.length co32)) (fun _ hk => hk.2) (.slice Ao33 t119.length co33)) (fun _ hk => trivial), zB⟩
   ·have HC36 := Aside0.mk H
    clear H
    go_upto_region 9 with (fail)
    go_cut [49] (fun v49 wc => ∃ (kq : Nat) (x49_35 : Bool), v49 = .bool x49_35 ∧ Aside0 (spec_l6Get.j1 kq t106 x49_35 0 0 (⟨#[]⟩ : ByteArray) (⟨#[]⟩ : ByteArray) 0 (⟨#[]⟩ : ByteArray) (⟨#[]⟩ : ByteArray) = some (r1, r2, r3, r4, r5, r6, r7, r8, r9)) ∧ Aside0 (kq ≤ kj4) ∧ Aside0 (Kd.R Kd.string 9 wc w.heap.size (fun _ => True) v107 t106) ∧ Aside0 (wc.heap[gb101]? = some (.cells #[.int .i64 0, .int .i64 0, .string (⟨#[]⟩ : ByteArray), .string (⟨#[]⟩ : ByteArray), .int .i64 0, .string (⟨#[]⟩ : ByteArray), .string (⟨#[]⟩ : ByteArray), (.slice none 0 0), (.slice none 0 0)] 37 (0, 0))) ∧ Aside0 (wc.heap[gb109]? = some (.cells #[.int .i64 0, .int .i64 0, .string (⟨#[]⟩ : ByteArray), .string (⟨#[]⟩ : ByteArray), .int .i64 0, .string (⟨#[]⟩ : ByteArray), .string (⟨#[]⟩ : ByteArray), (.slice none 0 0), (.slice none 0 0)] 37 (0, 0))) ∧ Aside0 (Below w.heap.size w wc))
    case first =>
     have H := HC36.out
     clear HC36
     replace H := itn_cd H; obtain ⟨c37, c37b0, H⟩ := H
     have c37b1 : decide (0 < t106.length) = true := decide_eq_true (by omega)
     clear c37
     (first | rw [c37b0] | (simp only [i64_w, i32_w]; rw [c37b0]) | skip)
     replace H := its_qn_qn H; rcases H with ⟨c38b0, c38b1, H⟩ | ⟨c38b0, c38b1, H⟩
     ·have H' := Aside0.mk H
      clear H
      obtain ⟨Ao39, co39, eo39⟩ := Kd.R_slice HO_4.out
      subst eo39
      have p124 : 0 ≤ (0 : Int) := (by omega)
      have q124 : 0 < (t106.length : Int) := of_decide_eq_true za
      obtain ⟨ad124, e124, hx124_0⟩ := Kd.at_string (Kd.R_reads' HO_4.out).2.2 0 p124 q124
      cases e124
      have qi124 : (0 < t106.length) = True := eq_true (by omega)
      (try rw [show ((0 : Int)).toNat = 0 from rfl] at hx124_0)
      (try rw [Addr.add_zero'] at hx124_0)
      replace p124 := eq_true p124
      replace q124 := eq_true q124
      go_wp2
      go_meet
      case rel => exact ⟨_, (((t106.length : Int) == 3)), zs, H', ⟨by have := HJ4.out; first | omega | exact Nat.le_refl _⟩, ⟨by (with_reducible repeat (first | apply Kd.R_alloc | apply Kd.R_drewN | apply Kd.R_drew)); exact Kd.R_mono HO_4.out (fun _ hk => trivial)⟩, ⟨kQ BK101⟩, ⟨kQ BK109⟩, ⟨zB⟩⟩
     ·have H' := Aside0.mk H
      clear H
      obtain ⟨Ao40, co40, eo40⟩ := Kd.R_slice HO_4.out
      subst eo40
      have p124 : 0 ≤ (0 : Int) := (by omega)
      have q124 : 0 < (t106.length : Int) := of_decide_eq_true za
      obtain ⟨ad124, e124, hx124_0⟩ := Kd.at_string (Kd.R_reads' HO_4.out).2.2 0 p124 q124
      cases e124
      have qi124 : (0 < t106.length) = True := eq_true (by omega)
      (try rw [show ((0 : Int)).toNat = 0 from rfl] at hx124_0)
      (try rw [Addr.add_zero'] at hx124_0)
      replace p124 := eq_true p124
      replace q124 := eq_true q124
      go_wp2
      go_meet
      case rel => exact ⟨_, (false), zs, H', ⟨by have := HJ4.out; first | omega | exact Nat.le_refl _⟩, ⟨by (with_reducible repeat (first | apply Kd.R_alloc | apply Kd.R_drewN | apply Kd.R_drew)); exact Kd.R_mono HO_4.out (fun _ hk => trivial)⟩, ⟨kQ BK101⟩, ⟨kQ BK109⟩, ⟨zB⟩⟩
    case rest =>
     clear HC36
     obtain ⟨kq, x49_35, rfl, HA, HJ35, HO_4, BK101, BK109, HB⟩ := hcut
     cases kq with
     | zero => exact absurd HA.out (by simp [spec_l6Get.j1])
     | succ kj35 =>
      have H := HA.out
      clear HA
      simp only [spec_l6Get.j1] at H
      replace H := itb H; rcases H with ⟨rfl, H⟩ | ⟨rfl, H⟩
      ·replace H := itn_cd H; obtain ⟨c42, c42b0, H⟩ := H
       have c42b1 : decide (1 < t106.length) = true := decide_eq_true (by omega)
       clear c42
       replace H := bnd H; obtain ⟨t126, A43, H⟩ := H
       replace H := itn_cd H; obtain ⟨c44, c44b0, H⟩ := H
       have c44b1 : decide (2 < t106.length) = true := decide_eq_true (by omega)
       clear c44
       replace H := bnd H; obtain ⟨⟨t128, t129, t130⟩, A45, H⟩ := H
       dsimp only at H
       simp only [Option.some.injEq, Prod.mk.injEq] at H
       obtain ⟨rfl, rfl, rfl, rfl, rfl, rfl, rfl, rfl, rfl⟩ := H
       have hnb46 := NB109_101.out
       have hnc46 := NB101_109.out
       obtain ⟨hcz47_0, hcz47_1, hcz47_2, hcz47_3, hcz47_4, hcz47_5, hcz47_6, hcz47_7, hcz47_8⟩ := cz9 BK109.out
       obtain ⟨hfz47_0, hfz47_1, hfz47_2, hfz47_3, hfz47_4, hfz47_5, hfz47_6, hfz47_7, hfz47_8⟩ := fz9 BK109.out
       obtain ⟨Ao48, co48, eo48⟩ := Kd.R_slice HO_4.out
       subst eo48
       have p125 : 0 ≤ (1 : Int) := (by omega)
       have q125 : 1 < (t106.length : Int) := of_decide_eq_true za
       obtain ⟨ad125, e125, hx125_0⟩ := Kd.at_string (Kd.R_reads' HO_4.out).2.2 1 p125 q125
       cases e125
       (try simp only [show (1 : Int).toNat = 1 from rfl, Nat.reduceMul, Nat.reduceEqDiff, Go.Addr.add, ↓reduceIte] at hx125_0)
       have qi125 : (1 < t106.length) = True := eq_true (by omega)
       (try rw [show ((1 : Int)).toNat = 1 from rfl] at hx125_0)
       have hn125_0 : ad125.block ≠ gb109 := Kd.own_blk (Kd.R_ne HO_4.out BK109.out (by decide))
       replace hx125_0 := (cell_far (p := ⟨gb109, 0, none⟩) (by first | (rw [add_block]; exact hn125_0) | (show (Addr.add _ _).block ≠ _; rw [add_block]; exact hn125_0) | exact hn125_0) (.int .i64 2)).trans hx125_0
       clear hn125_0
       replace p125 := eq_true p125
       replace q125 := eq_true q125
       go_wp2_with (first | ((with_reducible refine gate_callee (f := 85) rfl ?_); refine gv 63 Tryz.func85 _ (spec_l1Num.calls (w := _) (h := A43.out)) ?_; rintro w' ⟨nd, rfl⟩; have p127 : 0 ≤ (2 : Int) := (by omega); have q127 : 2 < (t106.length : Int) := of_decide_eq_true za; obtain ⟨ad127, e127, hx127_0⟩ := Kd.at_string (Kd.R_reads' HO_4.out).2.2 2 p127 q127; obtain rfl : ad125 = ad127 := (by injection e127); (try simp only [show (2 : Int).toNat = 2 from rfl, Nat.reduceMul, Nat.reduceEqDiff, Go.Addr.add, ↓reduceIte] at hx127_0); have qi127 : (2 < t106.length) = True := eq_true (by omega); (try rw [show ((2 : Int)).toNat = 2 from rfl] at hx127_0); have hn127_0 : ad125.block ≠ gb109 := Kd.own_blk (Kd.R_ne HO_4.out BK109.out (by decide)); have hn127_1 : ad125.block ≠ gb109 := Kd.own_blk (Kd.R_ne HO_4.out BK109.out (by decide)); replace hx127_0 := (cell_far (p := ⟨gb109, 0, none⟩) (by first | (rw [add_block]; exact hn127_0) | (show (Addr.add _ _).block ≠ _; rw [add_block]; exact hn127_0) | exact hn127_0) (.int .i64 2)).trans hx127_0; replace hx127_0 := ((show ∀ (W : World) (a : Addr), (W.drewN nd).cell? a = W.cell? a from fun _ _ => rfl) _ _).trans hx127_0; replace hx127_0 := (cell_far (p := ⟨gb109, 1, none⟩) (by first | (rw [add_block]; exact hn127_1) | (show (Addr.add _ _).block ≠ _; rw [add_block]; exact hn127_1) | exact hn127_1) (.int .i64 t126)).trans hx127_0; clear hn127_0 hn127_1; replace p127 := eq_true p127; replace q127 := eq_true q127) | ((with_reducible refine gate_callee (f := 87) rfl ?_); refine gv 69 Tryz.func87 _ (spec_AddrGet.calls (w := _) (h := A45.out)) ?_; intro w49 hb; replace HO_4 := fS HO_4 BK109 hb; replace BK101 := kS BK101 hb; replace BK109 := kP (.cells #[.int .i64 2, .int .i64 t126, .string ⟨#[]⟩, .string ⟨#[]⟩, .int .i64 0, .string ⟨#[]⟩, .string ⟨#[]⟩, .slice none 0 0, .slice none 0 0] 37 (0, 0)) BK109 hb; replace HB := bS hb; clear hb) | ((with_reducible refine gate_dst (N := 8) rfl ?_); (try (refine gate_guard (by rfl) ?_; dsimp only)); refine bx (cs := #[.string ⟨#[]⟩, .string ⟨#[]⟩]) (t := 32) ?_; intro gb131 hg w50 hbox hb; replace HO_4 := rS HO_4 hb; have BK131 := Aside0.mk (hbox); have GW131 := gS hg; have GE131 := gS hg; have NB101_131 := nS hg BK101; have NB131_101 := nG hg BK101; replace BK101 := kS BK101 hb; have NB109_131 := nS hg BK109; have NB131_109 := nG hg BK109; replace BK109 := kS BK109 hb; replace HB := bS hb; clear hb hbox hg; have hnb51 := NB131_101.out; have hnc51 := NB101_131.out; have hnb52 := NB131_109.out; have hnc52 := NB109_131.out; obtain ⟨hcz53_0, hcz53_1⟩ := cz2 BK131.out; obtain ⟨hfz53_0, hfz53_1⟩ := fz2 BK131.out; obtain ⟨hcz54_0, hcz54_1, hcz54_2, hcz54_3, hcz54_4, hcz54_5, hcz54_6, hcz54_7, hcz54_8⟩ := cz9 BK109.out; obtain ⟨hfz54_0, hfz54_1, hfz54_2, hfz54_3, hfz54_4, hfz54_5, hfz54_6, hfz54_7, hfz54_8⟩ := fz9 BK109.out; obtain ⟨hcz55_0, hcz55_1, hcz55_2, hcz55_3, hcz55_4, hcz55_5, hcz55_6, hcz55_7, hcz55_8⟩ := cz9 BK101.out; obtain ⟨hfz55_0, hfz55_1, hfz55_2, hfz55_3, hfz55_4, hfz55_5, hfz55_6, hfz55_7, hfz55_8⟩ := fz9 BK101.out))
       refine bodyPost_ret (results_cell_row rfl _ _ gb101 37 #[.int .i64 2, .int .i64 t126, .string t128, .string t129, .int .i64 0, .string (⟨#[]⟩ : ByteArray), .string (⟨#[]⟩ : ByteArray), .slice none 0 0, .slice none 0 0] (0, 0) _ rfl (kQ BK101) Tryz.underlying37 rfl z0_) rfl ?_
       exact ⟨_, _, zr, zn, zn, zB⟩
      ·have HC56 := Aside0.mk H
       clear H
       go_upto_region 14 with (fail)
       go_cut [74] (fun v74 wc => ∃ (kq : Nat) (x74_55 : Bool), v74 = .bool x74_55 ∧ Aside0 (spec_l6Get.j2 kq t106 x74_55 0 0 (⟨#[]⟩ : ByteArray) (⟨#[]⟩ : ByteArray) 0 (⟨#[]⟩ : ByteArray) (⟨#[]⟩ : ByteArray) = some (r1, r2, r3, r4, r5, r6, r7, r8, r9)) ∧ Aside0 (kq ≤ kj35) ∧ Aside0 (Kd.R Kd.string 9 wc w.heap.size (fun _ => True) v107 t106) ∧ Aside0 (wc.heap[gb101]? = some (.cells #[.int .i64 0, .int .i64 0, .string (⟨#[]⟩ : ByteArray), .string (⟨#[]⟩ : ByteArray), .int .i64 0, .string (⟨#[]⟩ : ByteArray), .string (⟨#[]⟩ : ByteArray), (.slice none 0 0), (.slice none 0 0)] 37 (0, 0))) ∧ Aside0 (wc.heap[gb109]? = some (.cells #[.int .i64 0, .int .i64 0, .string (⟨#[]⟩ : ByteArray), .string (⟨#[]⟩ : ByteArray), .int .i64 0, .string (⟨#[]⟩ : ByteArray), .string (⟨#[]⟩ : ByteArray), (.slice none 0 0), (.slice none 0 0)] 37 (0, 0))) ∧ Aside0 (Below w.heap.size w wc))
       case first =>
        have H := HC56.out
        clear HC56
        replace H := itn_cd H; obtain ⟨c57, c57b0, H⟩ := H
        have c57b1 : decide (0 < t106.length) = true := decide_eq_true (by omega)
        clear c57
        (first | rw [c57b0] | (simp only [i64_w, i32_w]; rw [c57b0]) | skip)
        replace H := its_qn_qn H; rcases H with ⟨c58b0, c58b1, H⟩ | ⟨c58b0, c58b1, H⟩
        ·have H' := Aside0.mk H
         clear H
         obtain ⟨Ao59, co59, eo59⟩ := Kd.R_slice HO_4.out
         subst eo59
         have p132 : 0 ≤ (0 : Int) := (by omega)
         have q132 : 0 < (t106.length : Int) := of_decide_eq_true za
         obtain ⟨ad132, e132, hx132_0⟩ := Kd.at_string (Kd.R_reads' HO_4.out).2.2 0 p132 q132
         cases e132
         have qi132 : (0 < t106.length) = True := eq_true (by omega)
         (try rw [show ((0 : Int)).toNat = 0 from rfl] at hx132_0)
         (try rw [Addr.add_zero'] at hx132_0)
         replace p132 := eq_true p132
         replace q132 := eq_true q132
         go_wp2
         go_meet
         case rel => exact ⟨_, (((t106.length : Int) == 4)), zs, H', ⟨by have := HJ4.out; have := HJ35.out; first | omega | exact Nat.le_refl _⟩, ⟨rO HO_4⟩, ⟨kQ BK101⟩, ⟨kQ BK109⟩, ⟨zB⟩⟩
        ·have H' := Aside0.mk H
         clear H
         obtain ⟨Ao60, co60, eo60⟩ := Kd.R_slice HO_4.out
         subst eo60
         have p132 : 0 ≤ (0 : Int) := (by omega)
         have q132 : 0 < (t106.length : Int) := of_decide_eq_true za
         obtain ⟨ad132, e132, hx132_0⟩ := Kd.at_string (Kd.R_reads' HO_4.out).2.2 0 p132 q132
         cases e132
         have qi132 : (0 < t106.length) = True := eq_true (by omega)
         (try rw [show ((0 : Int)).toNat = 0 from rfl] at hx132_0)
         (try rw [Addr.add_zero'] at hx132_0)
         replace p132 := eq_true p132
         replace q132 := eq_true q132
         go_wp2
         go_meet
         case rel => exact ⟨_, (false), zs, H', ⟨by have := HJ4.out; have := HJ35.out; first | omega | exact Nat.le_refl _⟩, ⟨rO HO_4⟩, ⟨kQ BK101⟩, ⟨kQ BK109⟩, ⟨zB⟩⟩
       case rest =>
        clear HC56
        obtain ⟨kq, x74_55, rfl, HA, HJ55, HO_4, BK101, BK109, HB⟩ := hcut
        cases kq with
        | zero => exact absurd HA.out (by simp [spec_l6Get.j2])
        | succ kj55 =>
         have H := HA.out
         clear HA
         simp only [spec_l6Get.j2] at H
         replace H := itb H; rcases H with ⟨rfl, H⟩ | ⟨rfl, H⟩
         ·replace H := itn_cd H; obtain ⟨c62, c62b0, H⟩ := H
          have c62b1 : decide (1 < t106.length) = true := decide_eq_true (by omega)
          clear c62
          replace H := bnd H; obtain ⟨t134, A63, H⟩ := H
          replace H := itn_cd H; obtain ⟨c64, c64b0, H⟩ := H
          have c64b1 : decide (2 < t106.length) = true := decide_eq_true (by omega)
          clear c64
          replace H := bnd H; obtain ⟨⟨t136, t137, t138⟩, A65, H⟩ := H
          dsimp only at H
          replace H := itn_cd H; obtain ⟨c66, c66b0, H⟩ := H
          have c66b1 : decide (3 < t106.length) = true := decide_eq_true (by omega)
          clear c66
          replace H := bnd H; obtain ⟨t141, A67, H⟩ := H
          simp only [Option.some.injEq, Prod.mk.injEq] at H
          obtain ⟨rfl, rfl, rfl, rfl, rfl, rfl, rfl, rfl, rfl⟩ := H
          have hnb68 := NB109_101.out
          have hnc68 := NB101_109.out
          obtain ⟨hcz69_0, hcz69_1, hcz69_2, hcz69_3, hcz69_4, hcz69_5, hcz69_6, hcz69_7, hcz69_8⟩ := cz9 BK109.out
          obtain ⟨hfz69_0, hfz69_1, hfz69_2, hfz69_3, hfz69_4, hfz69_5, hfz69_6, hfz69_7, hfz69_8⟩ := fz9 BK109.out
          obtain ⟨Ao70, co70, eo70⟩ := Kd.R_slice HO_4.out
          subst eo70
          have p133 : 0 ≤ (1 : Int) := (by omega)
          have q133 : 1 < (t106.length : Int) := of_decide_eq_true za
          obtain ⟨ad133, e133, hx133_0⟩ := Kd.at_string (Kd.R_reads' HO_4.out).2.2 1 p133 q133
          cases e133
          (try simp only [show (1 : Int).toNat = 1 from rfl, Nat.reduceMul, Nat.reduceEqDiff, Go.Addr.add, ↓reduceIte] at hx133_0)
          have qi133 : (1 < t106.length) = True := eq_true (by omega)
          (try rw [show ((1 : Int)).toNat = 1 from rfl] at hx133_0)
          have hn133_0 : ad133.block ≠ gb109 := Kd.own_blk (Kd.R_ne HO_4.out BK109.out (by decide))
          replace hx133_0 := (cell_far (p := ⟨gb109, 0, none⟩) (by first | (rw [add_block]; exact hn133_0) | (show (Addr.add _ _).block ≠ _; rw [add_block]; exact hn133_0) | exact hn133_0) (.int .i64 3)).trans hx133_0
          clear hn133_0
          replace p133 := eq_true p133
          replace q133 := eq_true q133
          go_wp2_with (first | ((with_reducible refine gate_callee (f := 85) rfl ?_); refine gv 88 Tryz.func85 _ (spec_l1Num.calls (w := _) (h := A63.out)) ?_; rintro w' ⟨nd, rfl⟩; have p135 : 0 ≤ (2 : Int) := (by omega); have q135 : 2 < (t106.length : Int) := of_decide_eq_true za; obtain ⟨ad135, e135, hx135_0⟩ := Kd.at_string (Kd.R_reads' HO_4.out).2.2 2 p135 q135; obtain rfl : ad133 = ad135 := (by injection e135); (try simp only [show (2 : Int).toNat = 2 from rfl, Nat.reduceMul, Nat.reduceEqDiff, Go.Addr.add, ↓reduceIte] at hx135_0); have qi135 : (2 < t106.length) = True := eq_true (by omega); (try rw [show ((2 : Int)).toNat = 2 from rfl] at hx135_0); have hn135_0 : ad133.block ≠ gb109 := Kd.own_blk (Kd.R_ne HO_4.out BK109.out (by decide)); have hn135_1 : ad133.block ≠ gb109 := Kd.own_blk (Kd.R_ne HO_4.out BK109.out (by decide)); replace hx135_0 := (cell_far (p := ⟨gb109, 0, none⟩) (by first | (rw [add_block]; exact hn135_0) | (show (Addr.add _ _).block ≠ _; rw [add_block]; exact hn135_0) | exact hn135_0) (.int .i64 3)).trans hx135_0; replace hx135_0 := ((show ∀ (W : World) (a : Addr), (W.drewN nd).cell? a = W.cell? a from fun _ _ => rfl) _ _).trans hx135_0; replace hx135_0 := (cell_far (p := ⟨gb109, 1, none⟩) (by first | (rw [add_block]; exact hn135_1) | (show (Addr.add _ _).block ≠ _; rw [add_block]; exact hn135_1) | exact hn135_1) (.int .i64 t134)).trans hx135_0; clear hn135_0 hn135_1; replace p135 := eq_true p135; replace q135 := eq_true q135) | ((with_reducible refine gate_callee (f := 87) rfl ?_); refine gv 94 Tryz.func87 _ (spec_AddrGet.calls (w := _) (h := A65.out)) ?_; intro w71 hb; replace HO_4 := fS HO_4 BK109 hb; replace BK101 := kS BK101 hb; replace BK109 := kP (.cells #[.int .i64 3, .int .i64 t134, .string ⟨#[]⟩, .string ⟨#[]⟩, .int .i64 0, .string ⟨#[]⟩, .string ⟨#[]⟩, .slice none 0 0, .slice none 0 0] 37 (0, 0)) BK109 hb; replace HB := bS hb; clear hb) | ((with_reducible refine gate_dst (N := 10) rfl ?_); (try (refine gate_guard (by rfl) ?_; dsimp only)); refine bx (cs := #[.string ⟨#[]⟩, .string ⟨#[]⟩]) (t := 32) ?_; intro gb139 hg w72 hbox hb; replace HO_4 := rS HO_4 hb; have BK139 := Aside0.mk (hbox); have GW139 := gS hg; have GE139 := gS hg; have NB101_139 := nS hg BK101; have NB139_101 := nG hg BK101; replace BK101 := kS BK101 hb; have NB109_139 := nS hg BK109; have NB139_109 := nG hg BK109; replace BK109 := kS BK109 hb; replace HB := bS hb; clear hb hbox hg; have hnb73 := NB139_101.out; have hnc73 := NB101_139.out; have hnb74 := NB139_109.out; have hnc74 := NB109_139.out; obtain ⟨hcz75_0, hcz75_1⟩ := cz2 BK139.out; obtain ⟨hfz75_0, hfz75_1⟩ := fz2 BK139.out; obtain ⟨hcz76_0, hcz76_1, hcz76_2, hcz76_3, hcz76_4, hcz76_5, hcz76_6, hcz76_7, hcz76_8⟩ := cz9 BK109.out; obtain ⟨hfz76_0, hfz76_1, hfz76_2, hfz76_3, hfz76_4, hfz76_5, hfz76_6, hfz76_7, hfz76_8⟩ := fz9 BK109.out; have p140 : 0 ≤ (3 : Int) := (by omega); have q140 : 3 < (t106.length : Int) := of_decide_eq_true za; obtain ⟨ad140, e140, hx140_0⟩ := Kd.at_string (Kd.R_reads' HO_4.out).2.2 3 p140 q140; obtain rfl : ad133 = ad140 := (by injection e140); (try simp only [show (3 : Int).toNat = 3 from rfl, Nat.reduceMul, Nat.reduceEqDiff, Go.Addr.add, ↓reduceIte] at hx140_0); have qi140 : (3 < t106.length) = True := eq_true (by omega); (try rw [show ((3 : Int)).toNat = 3 from rfl] at hx140_0); have hn140_0 : ad133.block ≠ gb139 := Kd.own_blk (Kd.R_ne HO_4.out BK139.out (by decide)); have hn140_1 : ad133.block ≠ gb139 := Kd.own_blk (Kd.R_ne HO_4.out BK139.out (by decide)); have hn140_2 : ad133.block ≠ gb109 := Kd.own_blk (Kd.R_ne HO_4.out BK109.out (by decide)); have hn140_3 : ad133.block ≠ gb109 := Kd.own_blk (Kd.R_ne HO_4.out BK109.out (by decide)); replace hx140_0 := (cell_far (p := ⟨gb139, 0, none⟩) (by first | (rw [add_block]; exact hn140_0) | (show (Addr.add _ _).block ≠ _; rw [add_block]; exact hn140_0) | exact hn140_0) (.string t136)).trans hx140_0; replace hx140_0 := (cell_far (p := ⟨gb139, 1, none⟩) (by first | (rw [add_block]; exact hn140_1) | (show (Addr.add _ _).block ≠ _; rw [add_block]; exact hn140_1) | exact hn140_1) (.string t137)).trans hx140_0; replace hx140_0 := (cell_far (p := ⟨gb109, 2, none⟩) (by first | (rw [add_block]; exact hn140_2) | (show (Addr.add _ _).block ≠ _; rw [add_block]; exact hn140_2) | exact hn140_2) (.string t136)).trans hx140_0; replace hx140_0 := (cell_far (p := ⟨gb109, 3, none⟩) (by first | (rw [add_block]; exact hn140_3) | (show (Addr.add _ _).block ≠ _; rw [add_block]; exact hn140_3) | exact hn140_3) (.string t137)).trans hx140_0; clear hn140_0 hn140_1 hn140_2 hn140_3; replace p140 := eq_true p140; replace q140 := eq_true q140) | ((with_reducible refine gate_callee (f := 85) rfl ?_); refine gv 102 Tryz.func85 _ (spec_l1Num.calls (w := _) (h := A67.out)) ?_; rintro w' ⟨nd, rfl⟩; obtain ⟨hcz77_0, hcz77_1, hcz77_2, hcz77_3, hcz77_4, hcz77_5, hcz77_6, hcz77_7, hcz77_8⟩ := cz9 BK101.out; obtain ⟨hfz77_0, hfz77_1, hfz77_2, hfz77_3, hfz77_4, hfz77_5, hfz77_6, hfz77_7, hfz77_8⟩ := fz9 BK101.out))
          refine bodyPost_ret (results_cell_row rfl _ _ gb101 37 #[.int .i64 3, .int .i64 t134, .string t136, .string t137, .int .i64 t141, .string (⟨#[]⟩ : ByteArray), .string (⟨#[]⟩ : ByteArray), .slice none 0 0, .slice none 0 0] (0, 0) _ rfl (kQ BK101) Tryz.underlying37 rfl z0_) rfl ?_
          exact ⟨_, _, zr, zn, zn, zB⟩
         ·simp only [Option.some.injEq, Prod.mk.injEq] at H
          obtain ⟨rfl, rfl, rfl, rfl, rfl, rfl, rfl, rfl, rfl⟩ := H
          have hnb78 := NB109_101.out
          have hnc78 := NB101_109.out
          obtain ⟨hcz79_0, hcz79_1, hcz79_2, hcz79_3, hcz79_4, hcz79_5, hcz79_6, hcz79_7, hcz79_8⟩ := cz9 BK109.out
          obtain ⟨hfz79_0, hfz79_1, hfz79_2, hfz79_3, hfz79_4, hfz79_5, hfz79_6, hfz79_7, hfz79_8⟩ := fz9 BK109.out
          obtain ⟨hcz80_0, hcz80_1, hcz80_2, hcz80_3, hcz80_4, hcz80_5, hcz80_6, hcz80_7, hcz80_8⟩ := cz9 BK101.out
          obtain ⟨hfz80_0, hfz80_1, hfz80_2, hfz80_3, hfz80_4, hfz80_5, hfz80_6, hfz80_7, hfz80_8⟩ := fz9 BK101.out
          go_wp2
          refine bodyPost_ret (results_cell_row rfl _ _ gb101 37 #[.int .i64 0, .int .i64 0, .string (⟨#[]⟩ : ByteArray), .string (⟨#[]⟩ : ByteArray), .int .i64 0, .string (⟨#[]⟩ : ByteArray), .string (⟨#[]⟩ : ByteArray), .slice none 0 0, .slice none 0 0] (0, 0) _ rfl (kQ BK101) Tryz.underlying37 rfl z0_) rfl ?_
          exact ⟨_, _, zr, zn, zn, zB⟩
end Go.Proofs.YtbncnjgflhoneaaGreatDoor.F
