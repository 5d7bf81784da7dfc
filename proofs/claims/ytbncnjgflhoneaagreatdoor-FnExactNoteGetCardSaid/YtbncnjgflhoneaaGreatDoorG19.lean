/- Of this claim, merged by program: F127. -/
import Derived.Test.YtbncnjgflhoneaaGreatDoorG02
import Derived.Test.YtbncnjgflhoneaaGreatDoorG14
import Derived.Test.YtbncnjgflhoneaaGreatDoorG15
namespace Go.Proofs.YtbncnjgflhoneaaGreatDoor.F
open Go.RowKit Go.Proofs.YtbncnjgflhoneaaGreatDoor.Hand Go.Proofs.YtbncnjgflhoneaaGreatDoorW.PrintWords Go.Proofs.YtbncnjgflhoneaaGreatDoorW.PrintLast Go.Proofs.YtbncnjgflhoneaaGreatDoorW.PrintMore
attribute [local go_sem] max2_int min2_int max_two min_two max_three min_three max_four min_four
set_option linter.unusedVariables false
set_option linter.unusedSimpArgs false

mutual
def spec_l2Get.l0 : Nat → List ByteArray → Int → Int → ByteArray → ByteArray → List (S32) → Option (ByteArray × ByteArray × (List (S32)) × List ByteArray × Int)
 | 0, _, _, _, _, _, _ => none
 | k + 1, x4, x7, x8, x107000, x107001, x107002 => if x8 < (x4.length : Int) then (if 0 ≤ x8 then (if (rdOf ByteArray.empty x4 x8).toList = ([] : List UInt8) then (spec_l2Get.j1 k x4 (wrap64 ((wrap64 (x7 + ((rdOf ByteArray.empty x4 x8).size : Int))) + 2)) x8 (rdOf ByteArray.empty x4 x8) (decide (x8 > 1)) x107000 x107001 x107002) else (spec_l2Get.j1 k x4 (wrap64 ((wrap64 (x7 + ((rdOf ByteArray.empty x4 x8).size : Int))) + 2)) x8 (rdOf ByteArray.empty x4 x8) false x107000 x107001 x107002)) else (none)) else (some (x107000, x107001, x107002, ([] : List ByteArray), 0))
def spec_l2Get.j1 : Nat → List ByteArray → Int → Int → ByteArray → Bool → ByteArray → ByteArray → List (S32) → Option (ByteArray × ByteArray × (List (S32)) × List ByteArray × Int)
 | 0, _, _, _, _, _, _, _, _ => none
 | k + 1, x4, x7, x8, x9, x36, x107000, x107001, x107002 => if x36 = true then (some (x107000, x107001, x107002, ([] : List ByteArray), x7)) else (if x8 = 0 then (if (x9.size : Int) > 5 then (if 0 ≤ 5 then (if 5 ≤ (x9.size : Int) then (spec_l2Get.j2 k x4 x7 x8 x9 ((x9.extract 0 5).toList == ([102, 114, 111, 109, 32] : List UInt8)) x107000 x107001 x107002) else (none)) else (none)) else (spec_l2Get.j2 k x4 x7 x8 x9 false x107000 x107001 x107002)) else (spec_l2Get.j2 k x4 x7 x8 x9 false x107000 x107001 x107002))
def spec_l2Get.j2 : Nat → List ByteArray → Int → Int → ByteArray → Bool → ByteArray → ByteArray → List (S32) → Option (ByteArray × ByteArray × (List (S32)) × List ByteArray × Int)
 | 0, _, _, _, _, _, _, _, _ => none
 | k + 1, x4, x7, x8, x9, x45, x107000, x107001, x107002 => if x45 = true then (if 5 ≤ (x9.size : Int) then ((spec_AddrGet.f k (x9.extract 5 x9.size)).bind fun bt108 => (if bt108.2.2 = true then (spec_l2Get.l0 k x4 x7 (wrap64 (x8 + 1)) bt108.1 bt108.2.1 x107002) else (some (x107000, x107001, x107002, ([] : List ByteArray), 0)))) else (none)) else (if x8 > 0 then (if (x9.size : Int) > 3 then (if 0 ≤ 3 then (if 3 ≤ (x9.size : Int) then (spec_l2Get.j3 k x4 x7 x8 x9 ((x9.extract 0 3).toList == ([116, 111, 32] : List UInt8)) x107000 x107001 x107002) else (none)) else (none)) else (spec_l2Get.j3 k x4 x7 x8 x9 false x107000 x107001 x107002)) else (spec_l2Get.j3 k x4 x7 x8 x9 false x107000 x107001 x107002))
def spec_l2Get.j3 : Nat → List ByteArray → Int → Int → ByteArray → Bool → ByteArray → ByteArray → List (S32) → Option (ByteArray × ByteArray × (List (S32)) × List ByteArray × Int)
 | 0, _, _, _, _, _, _, _, _ => none
 | k + 1, x4, x7, x8, x9, x69, x107000, x107001, x107002 => if x69 = true then (if 3 ≤ (x9.size : Int) then ((spec_AddrGet.f k (x9.extract 3 x9.size)).bind fun bt112 => (if bt112.2.2 = true then (if x107002.length < 4398046511104 then (spec_l2Get.l0 k x4 x7 (wrap64 (x8 + 1)) x107000 x107001 (x107002 ++ [(⟨bt112.1, bt112.2.1⟩ : S32)])) else (none)) else (some (x107000, x107001, x107002, ([] : List ByteArray), 0)))) else (none)) else (some (x107000, x107001, x107002, ([] : List ByteArray), 0))
end
def spec_l2Get.f (k : Nat) (a0 : ByteArray) : Option (ByteArray × ByteArray × (List (S32)) × List ByteArray × Int) := (spec_l2Lines.f k a0).bind fun bt102 => (spec_l2Get.l0 k bt102.1 0 0 (⟨#[]⟩ : ByteArray) (⟨#[]⟩ : ByteArray) ([] : List (S32)))
theorem spec_l2Get.mono_l : ∀ k, (∀ y0 y1 y2 y3 y4 y5, LeO (spec_l2Get.l0 k y0 y1 y2 y3 y4 y5) (spec_l2Get.l0 (k + 1) y0 y1 y2 y3 y4 y5)) ∧ (∀ y0 y1 y2 y3 y4 y5 y6 y7, LeO (spec_l2Get.j1 k y0 y1 y2 y3 y4 y5 y6 y7) (spec_l2Get.j1 (k + 1) y0 y1 y2 y3 y4 y5 y6 y7)) ∧ (∀ y0 y1 y2 y3 y4 y5 y6 y7, LeO (spec_l2Get.j2 k y0 y1 y2 y3 y4 y5 y6 y7) (spec_l2Get.j2 (k + 1) y0 y1 y2 y3 y4 y5 y6 y7)) ∧ (∀ y0 y1 y2 y3 y4 y5 y6 y7, LeO (spec_l2Get.j3 k y0 y1 y2 y3 y4 y5 y6 y7) (spec_l2Get.j3 (k + 1) y0 y1 y2 y3 y4 y5 y6 y7))
 | 0 => ⟨fun _ _ _ _ _ _ r h => by simp [spec_l2Get.l0] at h, fun _ _ _ _ _ _ _ _ r h => by simp [spec_l2Get.j1] at h, fun _ _ _ _ _ _ _ _ r h => by simp [spec_l2Get.j2] at h, fun _ _ _ _ _ _ _ _ r h => by simp [spec_l2Get.j3] at h⟩
 | k + 1 => by
  obtain ⟨ih0, ih1, ih2, ih3⟩ := spec_l2Get.mono_l k
  refine ⟨?_, ?_, ?_, ?_⟩
  ·intro y0 y1 y2 y3 y4 y5
   unfold spec_l2Get.l0
   repeat' with_reducible first | apply ih0 | apply ih1 | apply ih2 | apply ih3 | apply spec_AddrGet.mono | apply spec_l2Lines.mono | exact LeO.refl _ | exact LeO.none _ | apply LeO.ite | refine LeO.bind ?_ fun _ => ?_
  ·intro y0 y1 y2 y3 y4 y5 y6 y7
   unfold spec_l2Get.j1
   repeat' with_reducible first | apply ih0 | apply ih1 | apply ih2 | apply ih3 | apply spec_AddrGet.mono | apply spec_l2Lines.mono | exact LeO.refl _ | exact LeO.none _ | apply LeO.ite | refine LeO.bind ?_ fun _ => ?_
  ·intro y0 y1 y2 y3 y4 y5 y6 y7
   unfold spec_l2Get.j2
   repeat' with_reducible first | apply ih0 | apply ih1 | apply ih2 | apply ih3 | apply spec_AddrGet.mono | apply spec_l2Lines.mono | exact LeO.refl _ | exact LeO.none _ | apply LeO.ite | refine LeO.bind ?_ fun _ => ?_
  ·intro y0 y1 y2 y3 y4 y5 y6 y7
   unfold spec_l2Get.j3
   repeat' with_reducible first | apply ih0 | apply ih1 | apply ih2 | apply ih3 | apply spec_AddrGet.mono | apply spec_l2Lines.mono | exact LeO.refl _ | exact LeO.none _ | apply LeO.ite | refine LeO.bind ?_ fun _ => ?_
theorem spec_l2Get.mono : ∀ a0 k, LeO (spec_l2Get.f k a0) (spec_l2Get.f (k + 1) a0) := by
 intro a0 k
 obtain ⟨ih0, ih1, ih2, ih3⟩ := spec_l2Get.mono_l k
 unfold spec_l2Get.f
 repeat' with_reducible first | apply ih0 | apply ih1 | apply ih2 | apply ih3 | apply spec_AddrGet.mono | apply spec_l2Lines.mono | exact LeO.refl _ | exact LeO.none _ | apply LeO.ite | refine LeO.bind ?_ fun _ => ?_
set_option maxHeartbeats 8000000 in
set_option maxRecDepth 100000 in
theorem spec_l2Get.calls (k : Nat) (a0 : ByteArray) (r1 : ByteArray) (r2 : ByteArray) (r3 : List (S32)) (r4 : List ByteArray) (r5 : Int) (w : World) (h : spec_l2Get.f k a0 = some (r1, r2, r3, r4, r5)) :
  Calls Tryz.prog 127 #[.string a0] w fun e w' => ∃ v2_ v3_ : Value, e = .returned (.tuple #[.agg #[.string r1, .string r2, v2_, v3_], .int .i64 r5]) ∧ Kd.R k32 32 w' w.heap.size (fun _ => True) v2_ r3 ∧ Kd.R Kd.string 9 w' w.heap.size (fun _ => True) v3_ r4 ∧ Below w.heap.size w w' := by
 have hu35 := Tryz.underlying35
 have hu32 := Tryz.underlying32
 have HB := Aside0.mk (Below.refl w.heap.size w)
 have H := h
 clear h
 unfold spec_l2Get.f at H
 replace H := bnd H; obtain ⟨⟨t102, t103⟩, A2, H⟩ := H
 dsimp only at H
 have H' := Aside0.mk H
 clear H
 go_enter Tryz.func127, Tryz.ntmps127
 go_wp2_with (first | ((with_reducible refine gate_dst (N := 2) rfl ?_); (try (refine gate_guard (by rfl) ?_; dsimp only)); refine bx (cs := #[.string ⟨#[]⟩, .string ⟨#[]⟩, .slice none 0 0, .slice none 0 0]) (t := 35) ?_; intro gb101 hg w3 hbox hb; have BK101 := Aside0.mk (hbox); have GW101 := gS hg; have GE101 := gS hg; replace HB := bS hb; clear hb hbox hg) | ((with_reducible refine gate_callee (f := 164) rfl ?_); refine gl 16 Tryz.func164 _ ((spec_l2Lines.calls (w := _) (h := A2.out)).mono ?_); rintro e w4 ⟨v104, rfl, ho0, hb⟩; refine ⟨_, rfl, ?_⟩; have HO105 := lS ho0; replace BK101 := kS BK101 hb; replace HB := bS hb; clear hb ho0) | ((with_reducible refine gate_dst (N := 6) rfl ?_); (try (refine gate_guard (by rfl) ?_; dsimp only)); refine bx (cs := #[.string ⟨#[]⟩, .string ⟨#[]⟩, .slice none 0 0, .slice none 0 0]) (t := 35) ?_; intro gb106 hg w5 hbox hb; replace HO105 := rS HO105 hb; have BK106 := Aside0.mk (hbox); have GW106 := gS hg; have GE106 := gS hg; have NB101_106 := nS hg BK101; have NB106_101 := nG hg BK101; replace BK101 := kS BK101 hb; replace HB := bS hb; clear hb hbox hg; have hnb6 := NB106_101.out; have hnc6 := NB101_106.out; obtain ⟨hcz7_0, hcz7_1, hcz7_2, hcz7_3⟩ := cz4 BK106.out; obtain ⟨hfz7_0, hfz7_1, hfz7_2, hfz7_3⟩ := fz4 BK106.out))
 go_loopg [7, 8] k (fun kq v7 v8 w' => ∃ (x7_1 : Int) (x8_1 : Int) (x102000_1 : ByteArray) (x102001_1 : ByteArray) (x107000_1 : ByteArray) (x107001_1 : ByteArray) (x107002_1 : List (S32)) (u107002 : Value), v7 = .int .i64 x7_1 ∧ v8 = .int .i64 x8_1 ∧ Aside0 (spec_l2Get.l0 kq t102 x7_1 x8_1 x107000_1 x107001_1 x107002_1 = some (r1, r2, r3, r4, r5)) ∧ Aside0 (kq ≤ k) ∧ Aside0 (Kd.R Kd.string 9 w' w.heap.size (fun _ => True) v104 t102) ∧ Aside0 (Kd.R k32 32 w' w.heap.size (fun _ => True) u107002 x107002_1) ∧ Aside0 (w'.heap[gb101]? = some (.cells #[.string x102000_1, .string x102001_1, (.slice none 0 0), (.slice none 0 0)] 35 (0, 0))) ∧ Aside0 (w'.heap[gb106]? = some (.cells #[.string x107000_1, .string x107001_1, u107002, (.slice none 0 0)] 35 (0, 0))) ∧ Aside0 (Below w.heap.size w w'))
 case atStart => exact ⟨(0), (0), ((⟨#[]⟩ : ByteArray)), ((⟨#[]⟩ : ByteArray)), ((⟨#[]⟩ : ByteArray)), ((⟨#[]⟩ : ByteArray)), (([] : List (S32))), (.slice none 0 0), zs, zs, H', ⟨Nat.le_refl _⟩, ⟨fM HO105 BK106 (fun _ hk => trivial)⟩, ⟨zn⟩, ⟨kQ BK101⟩, ⟨kQ BK106⟩, ⟨zB⟩⟩
 case round =>
  clear H'
  obtain ⟨x7_1, x8_1, x102000_1, x102001_1, x107000_1, x107001_1, x107002_1, u107002, rfl, rfl, HA, HK1, HO_4, HO_107002, BK101, BK106, HB⟩ := hrel
  cases gk with
  | zero => exact absurd HA.out (by simp [spec_l2Get.l0])
  | succ k1 =>
   have H := HA.out
   clear HA
   simp only [spec_l2Get.l0] at H
   replace H := its_d_d H; rcases H with ⟨c8b0, H⟩ | ⟨c8b0, H⟩
   ·replace H := itn_d H; obtain ⟨c9b0, H⟩ := H
    have HC10 := Aside0.mk H
    clear H
    obtain ⟨Ao11, co11, eo11⟩ := Kd.R_slice HO_4.out
    subst eo11
    have p107 : 0 ≤ (x8_1 : Int) := of_decide_eq_true za
    have q107 : x8_1 < (t102.length : Int) := of_decide_eq_true za
    obtain ⟨ad107, e107, hx107_0⟩ := Kd.at_string (Kd.R_reads' HO_4.out).2.2 x8_1 p107 q107
    cases e107
    replace p107 := eq_true p107
    replace q107 := eq_true q107
    go_upto_region 10 with (fail)
    go_cut [36] (fun v36 wc => ∃ (kq : Nat) (x36_9 : Bool), v36 = .bool x36_9 ∧ Aside0 (spec_l2Get.j1 kq t102 (wrap64 ((wrap64 (x7_1 + ((rdOf ByteArray.empty t102 x8_1).size : Int))) + 2)) x8_1 (rdOf ByteArray.empty t102 x8_1) x36_9 x107000_1 x107001_1 x107002_1 = some (r1, r2, r3, r4, r5)) ∧ Aside0 (kq ≤ k1) ∧ Aside0 (Kd.R Kd.string 9 wc w.heap.size (fun _ => True) (.slice (some ad107) t102.length co11) t102) ∧ Aside0 (Kd.R k32 32 wc w.heap.size (fun _ => True) u107002 x107002_1) ∧ Aside0 (wc.heap[gb101]? = some (.cells #[.string x102000_1, .string x102001_1, (.slice none 0 0), (.slice none 0 0)] 35 (0, 0))) ∧ Aside0 (wc.heap[gb106]? = some (.cells #[.string x107000_1, .string x107001_1, u107002, (.slice none 0 0)] 35 (0, 0))) ∧ Aside0 (Below w.heap.size w wc))
    case first =>
     have H := HC10.out
     clear HC10
     replace H := its_qn_qn H; rcases H with ⟨c12b0, c12b1, H⟩ | ⟨c12b0, c12b1, H⟩
     ·(first | rw [c12b0] | (simp only [i64_w, i32_w]; rw [c12b0]) | skip)
      have H' := Aside0.mk H
      clear H
      go_wp2
      go_meet
      case rel => exact ⟨_, (decide (x8_1 > 1)), zs, H', ⟨by have := HK1.out; first | omega | exact Nat.le_refl _⟩, ⟨rO HO_4⟩, ⟨rO HO_107002⟩, ⟨kQ BK101⟩, ⟨kQ BK106⟩, ⟨zB⟩⟩
     ·(first | rw [c12b0] | (simp only [i64_w, i32_w]; rw [c12b0]) | skip)
      have H' := Aside0.mk H
      clear H
      go_wp2
      go_meet
      case rel => exact ⟨_, (false), zs, H', ⟨by have := HK1.out; first | omega | exact Nat.le_refl _⟩, ⟨rO HO_4⟩, ⟨rO HO_107002⟩, ⟨kQ BK101⟩, ⟨kQ BK106⟩, ⟨zB⟩⟩
    case rest =>
     clear HC10
     obtain ⟨kq, x36_9, rfl, HA, HJ9, HO_4, HO_107002, BK101, BK106, HB⟩ := hcut
     cases kq with
     | zero => exact absurd HA.out (by simp [spec_l2Get.j1])
     | succ kj9 =>
      have H := HA.out
      clear HA
      simp only [spec_l2Get.j1] at H
      replace H := itb H; rcases H with ⟨rfl, H⟩ | ⟨rfl, H⟩
      ·simp only [Option.some.injEq, Prod.mk.injEq] at H
       obtain ⟨rfl, rfl, rfl, rfl, rfl⟩ := H
       have hnb14 := NB106_101.out
       have hnc14 := NB101_106.out
       obtain ⟨hcz15_0, hcz15_1, hcz15_2, hcz15_3⟩ := cz4 BK106.out
       obtain ⟨hfz15_0, hfz15_1, hfz15_2, hfz15_3⟩ := fz4 BK106.out
       obtain ⟨hcz16_0, hcz16_1, hcz16_2, hcz16_3⟩ := cz4 BK101.out
       obtain ⟨hfz16_0, hfz16_1, hfz16_2, hfz16_3⟩ := fz4 BK101.out
       obtain ⟨Ao17, co17, eo17⟩ := Kd.R_slice HO_107002.out
       subst eo17
       go_wp2
       refine bodyPost_ret (results_ct rfl _ _ gb101 35 #[.string x107000_1, .string x107001_1, .slice Ao17 x107002_1.length co17, .slice none 0 0] (0, 0) _ rfl (kQ BK101) Tryz.underlying35 rfl z0_) rfl ?_
       exact ⟨_, _, zr, fM HO_107002 BK101 (fun _ hk => trivial), zn, zB⟩
      ·have HC18 := Aside0.mk H
       clear H
       go_upto_region 12 with (fail)
       go_cut [45] (fun v45 wc => ∃ (kq : Nat) (x45_17 : Bool), v45 = .bool x45_17 ∧ Aside0 (spec_l2Get.j2 kq t102 (wrap64 ((wrap64 (x7_1 + ((rdOf ByteArray.empty t102 x8_1).size : Int))) + 2)) x8_1 (rdOf ByteArray.empty t102 x8_1) x45_17 x107000_1 x107001_1 x107002_1 = some (r1, r2, r3, r4, r5)) ∧ Aside0 (kq ≤ kj9) ∧ Aside0 (Kd.R Kd.string 9 wc w.heap.size (fun _ => True) (.slice (some ad107) t102.length co11) t102) ∧ Aside0 (Kd.R k32 32 wc w.heap.size (fun _ => True) u107002 x107002_1) ∧ Aside0 (wc.heap[gb101]? = some (.cells #[.string x102000_1, .string x102001_1, (.slice none 0 0), (.slice none 0 0)] 35 (0, 0))) ∧ Aside0 (wc.heap[gb106]? = some (.cells #[.string x107000_1, .string x107001_1, u107002, (.slice none 0 0)] 35 (0, 0))) ∧ Aside0 (Below w.heap.size w wc))
       case first =>
        have H := HC18.out
        clear HC18
        replace H := its_qn_qn H; rcases H with ⟨c19b0, c19b1, H⟩ | ⟨c19b0, c19b1, H⟩
        ·(first | rw [c19b0] | (simp only [i64_w, i32_w]; rw [c19b0]) | skip)
         replace H := its_cd_cd H; rcases H with ⟨c20, c20b0, H⟩ | ⟨c20, c20b0, H⟩
         ·have c20b1 : decide (5 < (rdOf ByteArray.empty t102 x8_1).size) = true := decide_eq_true (by omega)
          clear c20
          replace H := itn_ed H; obtain ⟨c21b0, c21b1, H⟩ := H
          replace H := itn_ed H; obtain ⟨c22b0, c22b1, H⟩ := H
          have H' := Aside0.mk H
          clear H
          go_wp2
          go_meet
          case rel => exact ⟨_, ((((rdOf ByteArray.empty t102 x8_1).extract 0 5).toList == ([102, 114, 111, 109, 32] : List UInt8))), zs, H', ⟨by have := HK1.out; have := HJ9.out; first | omega | exact Nat.le_refl _⟩, ⟨rO HO_4⟩, ⟨rO HO_107002⟩, ⟨kQ BK101⟩, ⟨kQ BK106⟩, ⟨zB⟩⟩
         ·have c20b1 : decide (5 < (rdOf ByteArray.empty t102 x8_1).size) = false := decide_eq_false (by omega)
          clear c20
          have H' := Aside0.mk H
          clear H
          go_wp2
          go_meet
          case rel => exact ⟨_, (false), zs, H', ⟨by have := HK1.out; have := HJ9.out; first | omega | exact Nat.le_refl _⟩, ⟨rO HO_4⟩, ⟨rO HO_107002⟩, ⟨kQ BK101⟩, ⟨kQ BK106⟩, ⟨zB⟩⟩
        ·(first | rw [c19b0] | (simp only [i64_w, i32_w]; rw [c19b0]) | skip)
         have H' := Aside0.mk H
         clear H
         go_wp2
         go_meet
         case rel => exact ⟨_, (false), zs, H', ⟨by have := HK1.out; have := HJ9.out; first | omega | exact Nat.le_refl _⟩, ⟨rO HO_4⟩, ⟨rO HO_107002⟩, ⟨kQ BK101⟩, ⟨kQ BK106⟩, ⟨zB⟩⟩
       case rest =>
        clear HC18
        obtain ⟨kq, x45_17, rfl, HA, HJ17, HO_4, HO_107002, BK101, BK106, HB⟩ := hcut
        cases kq with
        | zero => exact absurd HA.out (by simp [spec_l2Get.j2])
        | succ kj17 =>
         have H := HA.out
         clear HA
         simp only [spec_l2Get.j2] at H
         replace H := itb H; rcases H with ⟨rfl, H⟩ | ⟨rfl, H⟩
         ·replace H := itn_ed H; obtain ⟨c24b0, c24b1, H⟩ := H
          replace H := bnd H; obtain ⟨⟨t108, t109, t110⟩, A25, H⟩ := H
          dsimp only at H
          replace H := itb H; rcases H with ⟨rfl, H⟩ | ⟨rfl, H⟩
          ·have H' := Aside0.mk H
           clear H
           go_wp2_with (first | ((with_reducible refine gate_callee (f := 87) rfl ?_); refine gv 61 Tryz.func87 _ (spec_AddrGet.calls (w := _) (h := A25.out)) ?_; intro w27 hb; replace HO_4 := rS HO_4 hb; replace HO_107002 := rS HO_107002 hb; replace BK101 := kS BK101 hb; replace BK106 := kS BK106 hb; replace HB := bS hb; clear hb) | ((with_reducible refine gate_dst (N := 10) rfl ?_); (try (refine gate_guard (by rfl) ?_; dsimp only)); refine bx (cs := #[.string ⟨#[]⟩, .string ⟨#[]⟩]) (t := 32) ?_; intro gb111 hg w28 hbox hb; replace HO_4 := rS HO_4 hb; replace HO_107002 := Aside0.mk (Kd.R_below (Kd.R_elderB (rO HO_107002) gb111 (Nat.le_of_eq hg.symm)) hb); have BK111 := Aside0.mk (hbox); have GW111 := gS hg; have GE111 := gS hg; have NB101_111 := nS hg BK101; have NB111_101 := nG hg BK101; replace BK101 := kS BK101 hb; have NB106_111 := nS hg BK106; have NB111_106 := nG hg BK106; replace BK106 := kS BK106 hb; replace HB := bS hb; clear hb hbox hg; have hnb29 := NB111_101.out; have hnc29 := NB101_111.out; have hnb30 := NB111_106.out; have hnc30 := NB106_111.out; obtain ⟨hcz31_0, hcz31_1⟩ := cz2 BK111.out; obtain ⟨hfz31_0, hfz31_1⟩ := fz2 BK111.out; have hnb32 := NB106_101.out; have hnc32 := NB101_106.out; obtain ⟨hcz33_0, hcz33_1, hcz33_2, hcz33_3⟩ := cz4 BK106.out; obtain ⟨hfz33_0, hfz33_1, hfz33_2, hfz33_3⟩ := fz4 BK106.out))
           go_roundg kj17
           case measure => have := HK1.out; have := HJ9.out; have := HJ17.out; omega
           case rel => exact ⟨((wrap64 ((wrap64 (x7_1 + ((rdOf ByteArray.empty t102 x8_1).size : Int))) + 2))), (wrap64 (x8_1 + 1)), (x102000_1), (x102001_1), (t108), (t109), (x107002_1), (u107002), zs, zs, H', ⟨by have := HK1.out; have := HJ9.out; have := HJ17.out; omega⟩, ⟨by (with_reducible repeat (first | apply Kd.R_alloc | apply Kd.R_drewN | apply Kd.R_drew)); exact Kd.R_mono (Kd.R_far (p := ⟨gb106, 1, none⟩) (Kd.R_far (p := ⟨gb106, 0, none⟩) (Kd.R_far (p := ⟨gb111, 1, none⟩) (Kd.R_far (p := ⟨gb111, 0, none⟩) (Kd.R_types (Kd.R_types HO_4.out BK111.out (by decide)) BK106.out (by decide)) (fun _ hk => hk.1.2) (.string t108)) (fun _ hk => hk.1.2) (.string t109)) (fun _ hk => hk.2) (.string t108)) (fun _ hk => hk.2) (.string t109)) (fun _ hk => trivial)⟩, ⟨by (with_reducible repeat (first | apply Kd.R_alloc | apply Kd.R_drewN | apply Kd.R_drew)); exact Kd.R_mono (Kd.R_far (p := ⟨gb106, 1, none⟩) (Kd.R_far (p := ⟨gb106, 0, none⟩) (Kd.R_far (p := ⟨gb111, 1, none⟩) (Kd.R_far (p := ⟨gb111, 0, none⟩) (Kd.R_types (Kd.R_mono HO_107002.out (fun k_ hk => (⟨hk, hk.2⟩ : _ ∧ k_ ≠ gb111))) BK106.out (by decide)) (fun _ hk => hk.1.2) (.string t108)) (fun _ hk => hk.1.2) (.string t109)) (fun _ hk => hk.2) (.string t108)) (fun _ hk => hk.2) (.string t109)) (fun _ hk => trivial)⟩, ⟨kQ BK101⟩, ⟨kQ BK106⟩, ⟨zB⟩⟩
          ·simp only [Option.some.injEq, Prod.mk.injEq] at H
           obtain ⟨rfl, rfl, rfl, rfl, rfl⟩ := H
           go_wp2_with (first | ((with_reducible refine gate_callee (f := 87) rfl ?_); refine gv 61 Tryz.func87 _ (spec_AddrGet.calls (w := _) (h := A25.out)) ?_; intro w34 hb; replace HO_4 := rS HO_4 hb; replace HO_107002 := rS HO_107002 hb; replace BK101 := kS BK101 hb; replace BK106 := kS BK106 hb; replace HB := bS hb; clear hb) | ((with_reducible refine gate_dst (N := 10) rfl ?_); (try (refine gate_guard (by rfl) ?_; dsimp only)); refine bx (cs := #[.string ⟨#[]⟩, .string ⟨#[]⟩]) (t := 32) ?_; intro gb111 hg w35 hbox hb; replace HO_4 := rS HO_4 hb; replace HO_107002 := Aside0.mk (Kd.R_below (Kd.R_elderB (rO HO_107002) gb111 (Nat.le_of_eq hg.symm)) hb); have BK111 := Aside0.mk (hbox); have GW111 := gS hg; have GE111 := gS hg; have NB101_111 := nS hg BK101; have NB111_101 := nG hg BK101; replace BK101 := kS BK101 hb; have NB106_111 := nS hg BK106; have NB111_106 := nG hg BK106; replace BK106 := kS BK106 hb; replace HB := bS hb; clear hb hbox hg; have hnb36 := NB111_101.out; have hnc36 := NB101_111.out; have hnb37 := NB111_106.out; have hnc37 := NB106_111.out; obtain ⟨hcz38_0, hcz38_1⟩ := cz2 BK111.out; obtain ⟨hfz38_0, hfz38_1⟩ := fz2 BK111.out; have hnb39 := NB106_101.out; have hnc39 := NB101_106.out; obtain ⟨hcz40_0, hcz40_1, hcz40_2, hcz40_3⟩ := cz4 BK106.out; obtain ⟨hfz40_0, hfz40_1, hfz40_2, hfz40_3⟩ := fz4 BK106.out; obtain ⟨hcz41_0, hcz41_1, hcz41_2, hcz41_3⟩ := cz4 BK101.out; obtain ⟨hfz41_0, hfz41_1, hfz41_2, hfz41_3⟩ := fz4 BK101.out; obtain ⟨Ao42, co42, eo42⟩ := Kd.R_slice HO_107002.out; subst eo42))
           refine bodyPost_ret (results_ct rfl _ _ gb101 35 #[.string x107000_1, .string x107001_1, .slice Ao42 x107002_1.length co42, .slice none 0 0] (0, 0) _ rfl (kQ BK101) Tryz.underlying35 rfl z0_) rfl ?_
           exact ⟨_, _, zr, by (with_reducible repeat (first | apply Kd.R_alloc | apply Kd.R_drewN | apply Kd.R_drew)); exact Kd.R_mono (Kd.R_far (p := ⟨gb101, 3, none⟩) (Kd.R_far (p := ⟨gb101, 2, none⟩) (Kd.R_far (p := ⟨gb101, 1, none⟩) (Kd.R_far (p := ⟨gb101, 0, none⟩) (Kd.R_far (p := ⟨gb111, 1, none⟩) (Kd.R_far (p := ⟨gb111, 0, none⟩) (Kd.R_types (Kd.R_mono HO_107002.out (fun k_ hk => (⟨hk, hk.2⟩ : _ ∧ k_ ≠ gb111))) BK101.out (by decide)) (fun _ hk => hk.1.2) (.string t108)) (fun _ hk => hk.1.2) (.string t109)) (fun _ hk => hk.2) (.string x107000_1)) (fun _ hk => hk.2) (.string x107001_1)) (fun _ hk => hk.2) (.slice Ao42 x107002_1.length co42)) (fun _ hk => hk.2) (.slice none 0 0)) (fun _ hk => trivial), zn, zB⟩
         ·have HC43 := Aside0.mk H
          clear H
          go_upto_region 17 with (fail)
          go_cut [69] (fun v69 wc => ∃ (kq : Nat) (x69_42 : Bool), v69 = .bool x69_42 ∧ Aside0 (spec_l2Get.j3 kq t102 (wrap64 ((wrap64 (x7_1 + ((rdOf ByteArray.empty t102 x8_1).size : Int))) + 2)) x8_1 (rdOf ByteArray.empty t102 x8_1) x69_42 x107000_1 x107001_1 x107002_1 = some (r1, r2, r3, r4, r5)) ∧ Aside0 (kq ≤ kj17) ∧ Aside0 (Kd.R Kd.string 9 wc w.heap.size (fun _ => True) (.slice (some ad107) t102.length co11) t102) ∧ Aside0 (Kd.R k32 32 wc w.heap.size (fun _ => True) u107002 x107002_1) ∧ Aside0 (wc.heap[gb101]? = some (.cells #[.string x102000_1, .string x102001_1, (.slice none 0 0), (.slice none 0 0)] 35 (0, 0))) ∧ Aside0 (wc.heap[gb106]? = some (.cells #[.string x107000_1, .string x107001_1, u107002, (.slice none 0 0)] 35 (0, 0))) ∧ Aside0 (Below w.heap.size w wc))
          case first =>
           have H := HC43.out
           clear HC43
           replace H := its_d_d H; rcases H with ⟨c44b0, H⟩ | ⟨c44b0, H⟩
           ·(first | rw [c44b0] | (simp only [i64_w, i32_w]; rw [c44b0]) | skip)
            replace H := its_cd_cd H; rcases H with ⟨c45, c45b0, H⟩ | ⟨c45, c45b0, H⟩
            ·have c45b1 : decide (3 < (rdOf ByteArray.empty t102 x8_1).size) = true := decide_eq_true (by omega)
             clear c45
             replace H := itn_ed H; obtain ⟨c46b0, c46b1, H⟩ := H
             replace H := itn_ed H; obtain ⟨c47b0, c47b1, H⟩ := H
             have H' := Aside0.mk H
             clear H
             go_wp2
             go_meet
             case rel => exact ⟨_, ((((rdOf ByteArray.empty t102 x8_1).extract 0 3).toList == ([116, 111, 32] : List UInt8))), zs, H', ⟨by have := HK1.out; have := HJ9.out; have := HJ17.out; first | omega | exact Nat.le_refl _⟩, ⟨rO HO_4⟩, ⟨rO HO_107002⟩, ⟨kQ BK101⟩, ⟨kQ BK106⟩, ⟨zB⟩⟩
            ·have c45b1 : decide (3 < (rdOf ByteArray.empty t102 x8_1).size) = false := decide_eq_false (by omega)
             clear c45
             have H' := Aside0.mk H
             clear H
             go_wp2
             go_meet
             case rel => exact ⟨_, (false), zs, H', ⟨by have := HK1.out; have := HJ9.out; have := HJ17.out; first | omega | exact Nat.le_refl _⟩, ⟨rO HO_4⟩, ⟨rO HO_107002⟩, ⟨kQ BK101⟩, ⟨kQ BK106⟩, ⟨zB⟩⟩
           ·(first | rw [c44b0] | (simp only [i64_w, i32_w]; rw [c44b0]) | skip)
            have H' := Aside0.mk H
            clear H
            go_wp2
            go_meet
            case rel => exact ⟨_, (false), zs, H', ⟨by have := HK1.out; have := HJ9.out; have := HJ17.out; first | omega | exact Nat.le_refl _⟩, ⟨rO HO_4⟩, ⟨rO HO_107002⟩, ⟨kQ BK101⟩, ⟨kQ BK106⟩, ⟨zB⟩⟩
          case rest =>
           clear HC43
           obtain ⟨kq, x69_42, rfl, HA, HJ42, HO_4, HO_107002, BK101, BK106, HB⟩ := hcut
           cases kq with
           | zero => exact absurd HA.out (by simp [spec_l2Get.j3])
           | succ kj42 =>
            have H := HA.out
            clear HA
            simp only [spec_l2Get.j3] at H
            replace H := itb H; rcases H with ⟨rfl, H⟩ | ⟨rfl, H⟩
            ·replace H := itn_ed H; obtain ⟨c49b0, c49b1, H⟩ := H
             replace H := bnd H; obtain ⟨⟨t112, t113, t114⟩, A50, H⟩ := H
             dsimp only at H
             replace H := itb H; rcases H with ⟨rfl, H⟩ | ⟨rfl, H⟩
             ·replace H := itn_L H; obtain ⟨LMc52, H⟩ := H
              first | (with_reducible replace H := bns H; obtain ⟨y116, Ny116, H⟩ := H) | (generalize hy_ : (x107002_1 ++ [(⟨t112, t113⟩ : S32)] : List (S32)) = y116 at H; have Ny116 := Aside0.mk hy_.symm; clear hy_)
              have H' := Aside0.mk H
              clear H
              go_wp2_with (first | ((with_reducible refine gate_callee (f := 87) rfl ?_); refine gv 85 Tryz.func87 _ (spec_AddrGet.calls (w := _) (h := A50.out)) ?_; intro w53 hb; replace HO_4 := rS HO_4 hb; replace HO_107002 := rS HO_107002 hb; replace BK101 := kS BK101 hb; replace BK106 := kS BK106 hb; replace HB := bS hb; clear hb) | ((with_reducible refine gate_dst (N := 12) rfl ?_); (try (refine gate_guard (by rfl) ?_; dsimp only)); refine bx (cs := #[.string ⟨#[]⟩, .string ⟨#[]⟩]) (t := 32) ?_; intro gb115 hg w54 hbox hb; replace HO_4 := rS HO_4 hb; replace HO_107002 := Aside0.mk (Kd.R_below (Kd.R_elderB (rO HO_107002) gb115 (Nat.le_of_eq hg.symm)) hb); have BK115 := Aside0.mk (hbox); have GW115 := gS hg; have GE115 := gS hg; have NB101_115 := nS hg BK101; have NB115_101 := nG hg BK101; replace BK101 := kS BK101 hb; have NB106_115 := nS hg BK106; have NB115_106 := nG hg BK106; replace BK106 := kS BK106 hb; replace HB := bS hb; clear hb hbox hg; have hnb55 := NB115_101.out; have hnc55 := NB101_115.out; have hnb56 := NB115_106.out; have hnc56 := NB106_115.out; obtain ⟨hcz57_0, hcz57_1⟩ := cz2 BK115.out; obtain ⟨hfz57_0, hfz57_1⟩ := fz2 BK115.out; have hnb58 := NB106_101.out; have hnc58 := NB101_106.out; obtain ⟨hcz59_0, hcz59_1, hcz59_2, hcz59_3⟩ := cz4 BK106.out; obtain ⟨hfz59_0, hfz59_1, hfz59_2, hfz59_3⟩ := fz4 BK106.out) | ((with_reducible refine gate_builtin (b := .append) (xs := #[.tmp 92, .tmp 94]) rfl ?_); (try (refine gate_guard (by rfl) ?_; dsimp only)); at_builtin; refine Kd.R_append k32 (w0 := w) w.heap.size rfl (.tmp 92) (.tmp 94) 33 32 (.agg #[(.string ⟨#[]⟩), (.string ⟨#[]⟩)]) 32 rfl Tryz.underlying33 info32 rfl (by decide) (by omega) u107002 x107002_1 (⟨t112, t113⟩ : S32) [.string t112, .string t113] (fun k_ => k_ ≠ gb115) (fun _ => False) rfl (by first | (go_simp; done) | (go_simp; rfl)) ?aP (fun _ hk => hk.elim) ?aF ?aO ?aB ?aS ?aL ?_; (case aP => exact k32_mkM _ _ _ (⟨t112, t113⟩ : S32)); (case aB => exact zB); (case aF => exact (fun k_ hk => Kd.freshB (g := gb115) (o := .cells #[.string t112, .string t113] 32 (0, 0)) (kQ BK115) k_ hk)); (case aO => exact (by (with_reducible repeat (first | apply Kd.R_alloc | apply Kd.R_drewN | apply Kd.R_drew)); exact Kd.R_mono (Kd.R_far (p := ⟨gb115, 1, none⟩) (Kd.R_far (p := ⟨gb115, 0, none⟩) (Kd.R_mono HO_107002.out (fun k_ hk => (⟨hk, hk.2⟩ : _ ∧ k_ ≠ gb115))) (fun _ hk => hk.2) (.string t112)) (fun _ hk => hk.2) (.string t113)) (fun _ hk => hk.1.2))); (case aS => exact (bZ)); (case aL => have := LMc52.out; omega); intro v117 w60 ho hb hg hat; rw [← Ny116.out] at ho; have n0_ := Aside0.mk (Kd.R_over' (fO HO_4 BK115) (Kd.R_typed (by (with_reducible repeat (first | apply Kd.R_alloc | apply Kd.R_drewN | apply Kd.R_drew)); exact (Kd.R_mono (Kd.R_far (p := ⟨gb115, 1, none⟩) (Kd.R_far (p := ⟨gb115, 0, none⟩) (Kd.R_mono HO_107002.out (fun k_ hk => (⟨hk, hk.2⟩ : _ ∧ k_ ≠ gb115))) (fun _ hk => hk.2) (.string t112)) (fun _ hk => hk.2) (.string t113)) (fun _ h_ => h_.1)))) (by decide) hg); have n1_ := Aside0.mk (blk_grown (g := gb101) (o := .cells #[.string x102000_1, .string x102001_1, .slice none 0 0, .slice none 0 0] 35 (0, 0)) (kQ BK101) hg (Kd.R_ne HO_107002.out BK101.out (by decide))); have n2_ := Aside0.mk (blk_grown (g := gb106) (o := .cells #[.string x107000_1, .string x107001_1, u107002, .slice none 0 0] 35 (0, 0)) (kQ BK106) hg (Kd.R_ne HO_107002.out BK106.out (by decide))); have n3_ := Aside0.mk (blk_grown (g := gb115) (o := .cells #[.string t112, .string t113] 32 (0, 0)) (kQ BK115) hg (Kd.R_away HO_107002.out (fun _ hk => hk.2))); have n4_ := Aside0.mk (hb); have n5_ := Aside0.mk (ho); clear HO_4 BK101 BK106 BK115 HB HO_107002; have HO_4 := n0_; have BK101 := n1_; have BK106 := n2_; have BK115 := n3_; have HB := n4_; have HO118 := n5_; clear n0_ n1_ n2_ n3_ n4_ n5_ ho hb hg hat; obtain ⟨Ao61, co61, eo61⟩ := Kd.R_slice HO118.out; subst eo61; obtain ⟨hcz62_0, hcz62_1, hcz62_2, hcz62_3⟩ := cz4 BK106.out; obtain ⟨hfz62_0, hfz62_1, hfz62_2, hfz62_3⟩ := fz4 BK106.out))
              go_roundg kj42
              case measure => have := HK1.out; have := HJ9.out; have := HJ17.out; have := HJ42.out; omega
              case rel => exact ⟨((wrap64 ((wrap64 (x7_1 + ((rdOf ByteArray.empty t102 x8_1).size : Int))) + 2))), (wrap64 (x8_1 + 1)), (x102000_1), (x102001_1), (x107000_1), (x107001_1), (y116), (.slice Ao61 y116.length co61), zs, zs, H', ⟨by have := HK1.out; have := HJ9.out; have := HJ17.out; have := HJ42.out; omega⟩, ⟨fM HO_4 BK106 (fun _ hk => trivial)⟩, ⟨fM HO118 BK106 (fun _ hk => trivial)⟩, ⟨kQ BK101⟩, ⟨kQ BK106⟩, ⟨zB⟩⟩
             ·simp only [Option.some.injEq, Prod.mk.injEq] at H
              obtain ⟨rfl, rfl, rfl, rfl, rfl⟩ := H
              go_wp2_with (first | ((with_reducible refine gate_callee (f := 87) rfl ?_); refine gv 85 Tryz.func87 _ (spec_AddrGet.calls (w := _) (h := A50.out)) ?_; intro w63 hb; replace HO_4 := rS HO_4 hb; replace HO_107002 := rS HO_107002 hb; replace BK101 := kS BK101 hb; replace BK106 := kS BK106 hb; replace HB := bS hb; clear hb) | ((with_reducible refine gate_dst (N := 12) rfl ?_); (try (refine gate_guard (by rfl) ?_; dsimp only)); refine bx (cs := #[.string ⟨#[]⟩, .string ⟨#[]⟩]) (t := 32) ?_; intro gb115 hg w64 hbox hb; replace HO_4 := rS HO_4 hb; replace HO_107002 := Aside0.mk (Kd.R_below (Kd.R_elderB (rO HO_107002) gb115 (Nat.le_of_eq hg.symm)) hb); have BK115 := Aside0.mk (hbox); have GW115 := gS hg; have GE115 := gS hg; have NB101_115 := nS hg BK101; have NB115_101 := nG hg BK101; replace BK101 := kS BK101 hb; have NB106_115 := nS hg BK106; have NB115_106 := nG hg BK106; replace BK106 := kS BK106 hb; replace HB := bS hb; clear hb hbox hg; have hnb65 := NB115_101.out; have hnc65 := NB101_115.out; have hnb66 := NB115_106.out; have hnc66 := NB106_115.out; obtain ⟨hcz67_0, hcz67_1⟩ := cz2 BK115.out; obtain ⟨hfz67_0, hfz67_1⟩ := fz2 BK115.out; have hnb68 := NB106_101.out; have hnc68 := NB101_106.out; obtain ⟨hcz69_0, hcz69_1, hcz69_2, hcz69_3⟩ := cz4 BK106.out; obtain ⟨hfz69_0, hfz69_1, hfz69_2, hfz69_3⟩ := fz4 BK106.out; obtain ⟨hcz70_0, hcz70_1, hcz70_2, hcz70_3⟩ := cz4 BK101.out; obtain ⟨hfz70_0, hfz70_1, hfz70_2, hfz70_3⟩ := fz4 BK101.out; obtain ⟨Ao71, co71, eo71⟩ := Kd.R_slice HO_107002.out; subst eo71))
              refine bodyPost_ret (results_ct rfl _ _ gb101 35 #[.string x107000_1, .string x107001_1, .slice Ao71 x107002_1.length co71, .slice none 0 0] (0, 0) _ rfl (kQ BK101) Tryz.underlying35 rfl z0_) rfl ?_
              exact ⟨_, _, zr, by (with_reducible repeat (first | apply Kd.R_alloc | apply Kd.R_drewN | apply Kd.R_drew)); exact Kd.R_mono (Kd.R_far (p := ⟨gb101, 3, none⟩) (Kd.R_far (p := ⟨gb101, 2, none⟩) (Kd.R_far (p := ⟨gb101, 1, none⟩) (Kd.R_far (p := ⟨gb101, 0, none⟩) (Kd.R_far (p := ⟨gb115, 1, none⟩) (Kd.R_far (p := ⟨gb115, 0, none⟩) (Kd.R_types (Kd.R_mono HO_107002.out (fun k_ hk => (⟨hk, hk.2⟩ : _ ∧ k_ ≠ gb115))) BK101.out (by decide)) (fun _ hk => hk.1.2) (.string t112)) (fun _ hk => hk.1.2) (.string t113)) (fun _ hk => hk.2) (.string x107000_1)) (fun _ hk => hk.2) (.string x107001_1)) (fun _ hk => hk.2) (.slice Ao71 x107002_1.length co71)) (fun _ hk => hk.2) (.slice none 0 0)) (fun _ hk => trivial), zn, zB⟩
            ·simp only [Option.some.injEq, Prod.mk.injEq] at H
             obtain ⟨rfl, rfl, rfl, rfl, rfl⟩ := H
             have hnb72 := NB106_101.out
             have hnc72 := NB101_106.out
             obtain ⟨hcz73_0, hcz73_1, hcz73_2, hcz73_3⟩ := cz4 BK106.out
             obtain ⟨hfz73_0, hfz73_1, hfz73_2, hfz73_3⟩ := fz4 BK106.out
             obtain ⟨hcz74_0, hcz74_1, hcz74_2, hcz74_3⟩ := cz4 BK101.out
             obtain ⟨hfz74_0, hfz74_1, hfz74_2, hfz74_3⟩ := fz4 BK101.out
             obtain ⟨Ao75, co75, eo75⟩ := Kd.R_slice HO_107002.out
             subst eo75
             go_wp2
             refine bodyPost_ret (results_ct rfl _ _ gb101 35 #[.string x107000_1, .string x107001_1, .slice Ao75 x107002_1.length co75, .slice none 0 0] (0, 0) _ rfl (kQ BK101) Tryz.underlying35 rfl z0_) rfl ?_
             exact ⟨_, _, zr, fM HO_107002 BK101 (fun _ hk => trivial), zn, zB⟩
   ·simp only [Option.some.injEq, Prod.mk.injEq] at H
    obtain ⟨rfl, rfl, rfl, rfl, rfl⟩ := H
    obtain ⟨Ao76, co76, eo76⟩ := Kd.R_slice HO_4.out
    subst eo76
    have hnb77 := NB106_101.out
    have hnc77 := NB101_106.out
    obtain ⟨hcz78_0, hcz78_1, hcz78_2, hcz78_3⟩ := cz4 BK106.out
    obtain ⟨hfz78_0, hfz78_1, hfz78_2, hfz78_3⟩ := fz4 BK106.out
    obtain ⟨hcz79_0, hcz79_1, hcz79_2, hcz79_3⟩ := cz4 BK101.out
    obtain ⟨hfz79_0, hfz79_1, hfz79_2, hfz79_3⟩ := fz4 BK101.out
    obtain ⟨Ao80, co80, eo80⟩ := Kd.R_slice HO_107002.out
    subst eo80
    go_wp2
    refine bodyPost_ret (results_ct rfl _ _ gb101 35 #[.string x107000_1, .string x107001_1, .slice Ao80 x107002_1.length co80, .slice none 0 0] (0, 0) _ rfl (kQ BK101) Tryz.underlying35 rfl z0_) rfl ?_
    exact ⟨_, _, zr, fM HO_107002 BK101 (fun _ hk => trivial), zn, zB⟩
end Go.Proofs.YtbncnjgflhoneaaGreatDoor.F
