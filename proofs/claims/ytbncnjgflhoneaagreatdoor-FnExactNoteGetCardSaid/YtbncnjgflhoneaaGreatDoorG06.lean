/- Of this claim, merged by program: F56. -/
import Derived.Test.YtbncnjgflhoneaaGreatDoorG02
import Derived.Test.YtbncnjgflhoneaaGreatDoorG04
import Derived.Test.YtbncnjgflhoneaaGreatDoorG05
namespace Go.Proofs.YtbncnjgflhoneaaGreatDoor.F
open Go.RowKit Go.Proofs.YtbncnjgflhoneaaGreatDoor.Hand Go.Proofs.YtbncnjgflhoneaaGreatDoorW.PrintWords Go.Proofs.YtbncnjgflhoneaaGreatDoorW.PrintLast Go.Proofs.YtbncnjgflhoneaaGreatDoorW.PrintMore
attribute [local go_sem] max2_int min2_int max_two min_two max_three min_three max_four min_four
set_option linter.unusedVariables false
set_option linter.unusedSimpArgs false
attribute [local go_sem high] eqA32
mutual
def spec_l2Ok.l0 : Nat → Int → ByteArray → ByteArray → List (S32) → List ByteArray → Option (Bool)
 | 0, _, _, _, _, _ => none
 | k + 1, x3, x102000, x102001, x102002, x102003 => if x3 < (x102002.length : Int) then (if 0 ≤ x3 then ((spec_l1AddrOk.f k ((rd_T32 x102002 x3).f0) ((rd_T32 x102002 x3).f1)).bind fun t103 => (if t103 = true then (spec_l2Ok.l1 k x3 0 x102000 x102001 x102002 x102003) else (some false))) else (none)) else ((spec_l1AddrOk.f k x102000 x102001).bind fun t106 => (if t106 = true then ((spec_l1In.f (x102002.length : Int) 1 4).bind fun t107 => (if t107 = true then ((spec_l2BodyOk.f k x102003).bind fun t108 => (some t108)) else (some false))) else ((spec_l1Null.f x102000 x102001).bind fun t109 => (if t109 = true then ((spec_l1In.f (x102002.length : Int) 1 4).bind fun t110 => (if t110 = true then ((spec_l2BodyOk.f k x102003).bind fun t111 => (some t111)) else (some false))) else (some false)))))
def spec_l2Ok.l1 : Nat → Int → Int → ByteArray → ByteArray → List (S32) → List ByteArray → Option (Bool)
 | 0, _, _, _, _, _, _ => none
 | k + 1, x3, x4, x102000, x102001, x102002, x102003 => if x4 < x3 then (if 0 ≤ x4 then (if x4 < (x102002.length : Int) then (if 0 ≤ x3 then (if x3 < (x102002.length : Int) then (if ((((rd_T32 x102002 x4).f0).toList) == (((rd_T32 x102002 x3).f0).toList) && ((((rd_T32 x102002 x4).f1).toList) == (((rd_T32 x102002 x3).f1).toList))) = true then (some false) else (spec_l2Ok.l1 k x3 (wrap64 (x4 + 1)) x102000 x102001 x102002 x102003)) else (none)) else (none)) else (none)) else (none)) else (spec_l2Ok.l0 k (wrap64 (x3 + 1)) x102000 x102001 x102002 x102003)
end
def spec_l2Ok.f (k : Nat) (a0_0 : ByteArray) (a0_1 : ByteArray) (l0_2 : List (S32)) (l0_3 : List ByteArray) : Option (Bool) := spec_l2Ok.l0 k 0 a0_0 a0_1 l0_2 l0_3
theorem spec_l2Ok.mono_l : ∀ k, (∀ y0 y1 y2 y3 y4, LeO (spec_l2Ok.l0 k y0 y1 y2 y3 y4) (spec_l2Ok.l0 (k + 1) y0 y1 y2 y3 y4)) ∧ (∀ y0 y1 y2 y3 y4 y5, LeO (spec_l2Ok.l1 k y0 y1 y2 y3 y4 y5) (spec_l2Ok.l1 (k + 1) y0 y1 y2 y3 y4 y5))
 | 0 => ⟨fun _ _ _ _ _ r h => by simp [spec_l2Ok.l0] at h, fun _ _ _ _ _ _ r h => by simp [spec_l2Ok.l1] at h⟩
 | k + 1 => by
  obtain ⟨ih0, ih1⟩ := spec_l2Ok.mono_l k
  refine ⟨?_, ?_⟩
  ·intro y0 y1 y2 y3 y4
   unfold spec_l2Ok.l0
   repeat' with_reducible first | apply ih0 | apply ih1 | apply spec_l1AddrOk.mono | apply spec_l2BodyOk.mono | exact LeO.refl _ | exact LeO.none _ | apply LeO.ite | refine LeO.bind ?_ fun _ => ?_
  ·intro y0 y1 y2 y3 y4 y5
   unfold spec_l2Ok.l1
   repeat' with_reducible first | apply ih0 | apply ih1 | apply spec_l1AddrOk.mono | apply spec_l2BodyOk.mono | exact LeO.refl _ | exact LeO.none _ | apply LeO.ite | refine LeO.bind ?_ fun _ => ?_
theorem spec_l2Ok.mono : ∀ a0 a1 a2 a3 k, LeO (spec_l2Ok.f k a0 a1 a2 a3) (spec_l2Ok.f (k + 1) a0 a1 a2 a3) := by
 intro a0 a1 a2 a3 k
 obtain ⟨ih0, ih1⟩ := spec_l2Ok.mono_l k
 unfold spec_l2Ok.f
 repeat' with_reducible first | apply ih0 | apply ih1 | apply spec_l1AddrOk.mono | apply spec_l2BodyOk.mono | exact LeO.refl _ | exact LeO.none _ | apply LeO.ite | refine LeO.bind ?_ fun _ => ?_
set_option maxHeartbeats 8000000 in
set_option maxRecDepth 100000 in
theorem spec_l2Ok.calls (k : Nat) (a0_0 : ByteArray) (a0_1 : ByteArray) (A0_2 : Option Addr) (c0_2 : Nat) (l0_2 : List (S32)) (A0_3 : Option Addr) (c0_3 : Nat) (l0_3 : List ByteArray) (r : Bool) (w : World) (hr0_2 : Kd.C k32 w A0_2 l0_2.length l0_2) (hc0_2 : l0_2.length ≤ c0_2) (hr0_3 : Kd.C Kd.string w A0_3 l0_3.length l0_3) (hc0_3 : l0_3.length ≤ c0_3) (h : spec_l2Ok.f k a0_0 a0_1 l0_2 l0_3 = some r) :
  Calls Tryz.prog 56 #[.agg #[.string a0_0, .string a0_1, .slice A0_2 l0_2.length c0_2, .slice A0_3 l0_3.length c0_3]] w fun e w' => e = .returned (.bool r) ∧ Below w.heap.size w w' := by
 have hu35 := Tryz.underlying35
 have hu32 := Tryz.underlying32
 have HR0_2 := Aside0.mk hr0_2
 have HC0_2 := Aside0.mk hc0_2
 clear hr0_2 hc0_2
 have HR0_3 := Aside0.mk hr0_3
 have HC0_3 := Aside0.mk hc0_3
 clear hr0_3 hc0_3
 have HB := Aside0.mk (Below.refl w.heap.size w)
 have H := h
 clear h
 unfold spec_l2Ok.f at H
 have H' := Aside0.mk H
 clear H
 go_enter Tryz.func56, Tryz.ntmps56
 go_wp2_with (first | ((with_reducible refine gate_dst (N := 1) rfl ?_); (try (refine gate_guard (by rfl) ?_; dsimp only)); refine bx (cs := #[.string a0_0, .string a0_1, .slice A0_2 l0_2.length c0_2, .slice A0_3 l0_3.length c0_3]) (t := 35) ?_; intro gb101 hg w2 hbox hb; have BK101 := Aside0.mk (hbox); have GW101 := gS hg; have GE101 := gS hg; replace HB := bS hb; clear hb hbox hg))
 repeat (go_quiet (first | ((with_reducible refine gate_dst (N := 1) rfl ?_); (try (refine gate_guard (by rfl) ?_; dsimp only)); refine bx (cs := #[.string a0_0, .string a0_1, .slice A0_2 l0_2.length c0_2, .slice A0_3 l0_3.length c0_3]) (t := 35) ?_; intro gb101 hg w2 hbox hb; have BK101 := Aside0.mk (hbox); have GW101 := gS hg; have GE101 := gS hg; replace HB := bS hb; clear hb hbox hg)); try go_wp2_with (first | ((with_reducible refine gate_dst (N := 1) rfl ?_); (try (refine gate_guard (by rfl) ?_; dsimp only)); refine box_event ?hg (N := 1) ?hd (cs := #[.string a0_0, .string a0_1, .slice A0_2 l0_2.length c0_2, .slice A0_3 l0_3.length c0_3]) (t := 35) ?hr ?_; (case hd => rfl); (case hg => rfl); (case hr => first | (go_simp; done) | (go_simp; rfl)); intro gb101 hg w2 hbox hb; have n0_ := bS hb; have n1_ := Aside0.mk (hbox); have n2_ := gS hg; have n3_ := gS hg; clear HB; have HB := n0_; have BK101 := n1_; have GW101 := n2_; have GE101 := n3_; clear n0_ n1_ n2_ n3_; clear hb hbox hg)))
 go_loopg [3] k (fun kq v3 w' => ∃ (x3_1 : Int), v3 = .int .i64 x3_1 ∧ Aside0 (spec_l2Ok.l0 kq x3_1 a0_0 a0_1 l0_2 l0_3 = some r) ∧ Aside0 (kq ≤ k) ∧ Aside0 (w'.heap[gb101]? = some (.cells #[.string a0_0, .string a0_1, (.slice A0_2 l0_2.length c0_2), (.slice A0_3 l0_3.length c0_3)] 35 (0, 0))) ∧ Aside0 (Below w.heap.size w w'))
 case atStart => exact ⟨(0), zs, H', ⟨Nat.le_refl _⟩, ⟨kQ BK101⟩, ⟨zB⟩⟩
 case round =>
  clear H'
  obtain ⟨x3_1, rfl, HA, HK1, BK101, HB⟩ := hrel
  cases gk with
  | zero => exact absurd HA.out (by simp [spec_l2Ok.l0])
  | succ k1 =>
   have H := HA.out
   clear HA
   simp only [spec_l2Ok.l0] at H
   replace H := its_d_d H; rcases H with ⟨c3b0, H⟩ | ⟨c3b0, H⟩
   ·replace H := itn_d H; obtain ⟨c4b0, H⟩ := H
    replace H := bnd H; obtain ⟨t103, A5, H⟩ := H
    replace H := itb H; rcases H with ⟨rfl, H⟩ | ⟨rfl, H⟩
    ·have H' := Aside0.mk H
     clear H
     obtain ⟨hcz7_0, hcz7_1, hcz7_2, hcz7_3⟩ := cz4 BK101.out
     obtain ⟨hfz7_0, hfz7_1, hfz7_2, hfz7_3⟩ := fz4 BK101.out
     have p102 : 0 ≤ (x3_1 : Int) := of_decide_eq_true za
     have q102 : x3_1 < (l0_2.length : Int) := of_decide_eq_true za
     obtain ⟨ad102, e102, hx102_0, hx102_1⟩ := at_T32 HR0_2.out x3_1 p102 q102
     cases e102
     replace hx102_0 := kx HB hx102_0
     replace hx102_1 := kx HB hx102_1
     replace p102 := eq_true p102
     replace q102 := eq_true q102
     go_wp2_with (first | (go_at_call 58; with_reducible refine (spec_l1AddrOk.calls (w := _) (h := A5.out)).mono ?_; rintro e w8 ⟨rfl, hb⟩; replace BK101 := kS BK101 hb; replace HB := bS hb; clear hb))
     repeat (go_quiet (first | (go_at_call 58; with_reducible refine (spec_l1AddrOk.calls (w := _) (h := A5.out)).mono ?_; rintro e w8 ⟨rfl, hb⟩; replace BK101 := kS BK101 hb; replace HB := bS hb; clear hb)); try go_wp2_with (first | (go_at_call 58; (with_reducible refine (spec_l1AddrOk.calls k1 ((rd_T32 l0_2 x3_1).f0) ((rd_T32 l0_2 x3_1).f1) true _ A5.out).mono ?_); rintro e w8 ⟨rfl, hb⟩; have n0_ := kS BK101 hb; have n1_ := bS hb; clear BK101; clear HB; have BK101 := n0_; have HB := n1_; clear n0_ n1_; (try clear hb); (try clear hb2); (try clear hk); (try clear hi))))
     go_loopg [4] k1 (fun kq v4 w' => ∃ (x4_2 : Int), v4 = .int .i64 x4_2 ∧ Aside0 (spec_l2Ok.l1 kq x3_1 x4_2 a0_0 a0_1 l0_2 l0_3 = some r) ∧ Aside0 (kq ≤ k1) ∧ Aside0 (w'.heap[gb101]? = some (.cells #[.string a0_0, .string a0_1, (.slice (some ad102) l0_2.length c0_2), (.slice A0_3 l0_3.length c0_3)] 35 (0, 0))) ∧ Aside0 (Below w.heap.size w w'))
     case atStart => exact ⟨(0), zs, H', ⟨Nat.le_refl _⟩, ⟨kQ BK101⟩, ⟨zB⟩⟩
     case round =>
      clear H'
      obtain ⟨x4_2, rfl, HA, HK2, BK101, HB⟩ := hrel
      cases gk with
      | zero => exact absurd HA.out (by simp [spec_l2Ok.l1])
      | succ k2 =>
       have H := HA.out
       clear HA
       simp only [spec_l2Ok.l1] at H
       replace H := its_d_d H; rcases H with ⟨c9b0, H⟩ | ⟨c9b0, H⟩
       ·replace H := itn_d H; obtain ⟨c10b0, H⟩ := H
        replace H := itn_d H; obtain ⟨c11b0, H⟩ := H
        replace H := itn_d H; obtain ⟨c12b0, H⟩ := H
        replace H := itn_d H; obtain ⟨c13b0, H⟩ := H
        replace H := its_c_c H; rcases H with ⟨c14, H⟩ | ⟨c14, H⟩
        ·have c14b0 : ((((rd_T32 l0_2 x4_2).f0).toList) == (((rd_T32 l0_2 x3_1).f0).toList) && ((((rd_T32 l0_2 x4_2).f1).toList) == (((rd_T32 l0_2 x3_1).f1).toList))) = true := c14
         (try (have c14b1 : decide ((((rd_T32 l0_2 x4_2).f0).toList) = (((rd_T32 l0_2 x3_1).f0).toList) && ((((rd_T32 l0_2 x4_2).f1).toList) == (((rd_T32 l0_2 x3_1).f1).toList))) = true := by simpa using c14))
         (try (have c14b2 : ((((rd_T32 l0_2 x4_2).f0).toList) == (((rd_T32 l0_2 x3_1).f0).toList) && ((((rd_T32 l0_2 x4_2).f1).toList) == (((rd_T32 l0_2 x3_1).f1).toList))) = true := by simpa using c14))
         clear c14
         obtain rfl := Option.some.inj H
         obtain ⟨hcz15_0, hcz15_1, hcz15_2, hcz15_3⟩ := cz4 BK101.out
         obtain ⟨hfz15_0, hfz15_1, hfz15_2, hfz15_3⟩ := fz4 BK101.out
         have p104 : 0 ≤ (x4_2 : Int) := of_decide_eq_true za
         have q104 : x4_2 < (l0_2.length : Int) := of_decide_eq_true za
         obtain ⟨ad104, e104, hx104_0, hx104_1⟩ := at_T32 HR0_2.out x4_2 p104 q104
         obtain rfl : ad102 = ad104 := (by injection e104)
         replace hx104_0 := kx HB hx104_0
         replace hx104_1 := kx HB hx104_1
         replace p104 := eq_true p104
         replace q104 := eq_true q104
         have p105 : 0 ≤ (x3_1 : Int) := of_decide_eq_true za
         have q105 : x3_1 < (l0_2.length : Int) := of_decide_eq_true za
         obtain ⟨ad105, e105, hx105_0, hx105_1⟩ := at_T32 HR0_2.out x3_1 p105 q105
         obtain rfl : ad102 = ad105 := (by injection e105)
         replace hx105_0 := kx HB hx105_0
         replace hx105_1 := kx HB hx105_1
         replace p105 := eq_true p105
         replace q105 := eq_true q105
         go_wp2
         repeat (go_quiet (fail); try go_wp2)
         go_ret
         exact ⟨zr, zB⟩
        ·have c14b0 : ((((rd_T32 l0_2 x4_2).f0).toList) == (((rd_T32 l0_2 x3_1).f0).toList) && ((((rd_T32 l0_2 x4_2).f1).toList) == (((rd_T32 l0_2 x3_1).f1).toList))) = false := by simpa using c14
         (try (have c14b1 : decide ((((rd_T32 l0_2 x4_2).f0).toList) = (((rd_T32 l0_2 x3_1).f0).toList) && ((((rd_T32 l0_2 x4_2).f1).toList) == (((rd_T32 l0_2 x3_1).f1).toList))) = false := by simpa using c14))
         (try (have c14b2 : ((((rd_T32 l0_2 x4_2).f0).toList) == (((rd_T32 l0_2 x3_1).f0).toList) && ((((rd_T32 l0_2 x4_2).f1).toList) == (((rd_T32 l0_2 x3_1).f1).toList))) = false := by simpa using c14))
         (try (have c14b3 : ¬ ((((rd_T32 l0_2 x4_2).f0).toList) = (((rd_T32 l0_2 x3_1).f0).toList) && ((((rd_T32 l0_2 x4_2).f1).toList) == (((rd_T32 l0_2 x3_1).f1).toList))) := by simpa using c14))
         clear c14
         have H' := Aside0.mk H
         clear H
         obtain ⟨hcz16_0, hcz16_1, hcz16_2, hcz16_3⟩ := cz4 BK101.out
         obtain ⟨hfz16_0, hfz16_1, hfz16_2, hfz16_3⟩ := fz4 BK101.out
         have p104 : 0 ≤ (x4_2 : Int) := of_decide_eq_true za
         have q104 : x4_2 < (l0_2.length : Int) := of_decide_eq_true za
         obtain ⟨ad104, e104, hx104_0, hx104_1⟩ := at_T32 HR0_2.out x4_2 p104 q104
         obtain rfl : ad102 = ad104 := (by injection e104)
         replace hx104_0 := kx HB hx104_0
         replace hx104_1 := kx HB hx104_1
         replace p104 := eq_true p104
         replace q104 := eq_true q104
         have p105 : 0 ≤ (x3_1 : Int) := of_decide_eq_true za
         have q105 : x3_1 < (l0_2.length : Int) := of_decide_eq_true za
         obtain ⟨ad105, e105, hx105_0, hx105_1⟩ := at_T32 HR0_2.out x3_1 p105 q105
         obtain rfl : ad102 = ad105 := (by injection e105)
         replace hx105_0 := kx HB hx105_0
         replace hx105_1 := kx HB hx105_1
         replace p105 := eq_true p105
         replace q105 := eq_true q105
         go_wp2
         repeat (go_quiet (fail); try go_wp2)
         go_roundg k2
         case measure => have := HK1.out; have := HK2.out; omega
         case rel => exact ⟨(wrap64 (x4_2 + 1)), zs, H', ⟨by have := HK1.out; have := HK2.out; omega⟩, ⟨kQ BK101⟩, ⟨zB⟩⟩
       ·have H' := Aside0.mk H
        clear H
        go_wp2
        repeat (go_quiet (fail); try go_wp2)
        go_roundg k2
        case measure => have := HK1.out; have := HK2.out; omega
        case rel => exact ⟨(wrap64 (x3_1 + 1)), zs, H', ⟨by have := HK1.out; have := HK2.out; omega⟩, ⟨kQ BK101⟩, ⟨zB⟩⟩
    ·obtain rfl := Option.some.inj H
     obtain ⟨hcz17_0, hcz17_1, hcz17_2, hcz17_3⟩ := cz4 BK101.out
     obtain ⟨hfz17_0, hfz17_1, hfz17_2, hfz17_3⟩ := fz4 BK101.out
     have p102 : 0 ≤ (x3_1 : Int) := of_decide_eq_true za
     have q102 : x3_1 < (l0_2.length : Int) := of_decide_eq_true za
     obtain ⟨ad102, e102, hx102_0, hx102_1⟩ := at_T32 HR0_2.out x3_1 p102 q102
     cases e102
     replace hx102_0 := kx HB hx102_0
     replace hx102_1 := kx HB hx102_1
     replace p102 := eq_true p102
     replace q102 := eq_true q102
     go_wp2_with (first | (go_at_call 58; with_reducible refine (spec_l1AddrOk.calls (w := _) (h := A5.out)).mono ?_; rintro e w18 ⟨rfl, hb⟩; replace BK101 := kS BK101 hb; replace HB := bS hb; clear hb))
     repeat (go_quiet (first | (go_at_call 58; with_reducible refine (spec_l1AddrOk.calls (w := _) (h := A5.out)).mono ?_; rintro e w18 ⟨rfl, hb⟩; replace BK101 := kS BK101 hb; replace HB := bS hb; clear hb)); try go_wp2_with (first | (go_at_call 58; (with_reducible refine (spec_l1AddrOk.calls k1 ((rd_T32 l0_2 x3_1).f0) ((rd_T32 l0_2 x3_1).f1) false _ A5.out).mono ?_); rintro e w18 ⟨rfl, hb⟩; have n0_ := kS BK101 hb; have n1_ := bS hb; clear BK101; clear HB; have BK101 := n0_; have HB := n1_; clear n0_ n1_; (try clear hb); (try clear hb2); (try clear hk); (try clear hi))))
     go_ret
     exact ⟨zr, zB⟩
   ·replace H := bnd H; obtain ⟨t106, A19, H⟩ := H
    replace H := itb H; rcases H with ⟨rfl, H⟩ | ⟨rfl, H⟩
    ·replace H := bnd H; obtain ⟨t107, A21, H⟩ := H
     replace H := itb H; rcases H with ⟨rfl, H⟩ | ⟨rfl, H⟩
     ·replace H := bnd H; obtain ⟨t108, A23, H⟩ := H
      obtain rfl := Option.some.inj H
      obtain ⟨hcz24_0, hcz24_1, hcz24_2, hcz24_3⟩ := cz4 BK101.out
      obtain ⟨hfz24_0, hfz24_1, hfz24_2, hfz24_3⟩ := fz4 BK101.out
      go_wp2_with (first | (go_at_call 58; with_reducible refine (spec_l1AddrOk.calls (w := _) (h := A19.out)).mono ?_; rintro e w25 ⟨rfl, hb⟩; replace BK101 := kS BK101 hb; replace HB := bS hb; clear hb; obtain ⟨hcz26_0, hcz26_1, hcz26_2, hcz26_3⟩ := cz4 BK101.out; obtain ⟨hfz26_0, hfz26_1, hfz26_2, hfz26_3⟩ := fz4 BK101.out) | (go_at_call 57; with_reducible refine (spec_l1In.calls (w := _) (h := A21.out)).mono ?_; rintro e w' ⟨rfl, ⟨nd, rfl⟩⟩; (try first | exact ⟨rfl, _, World.drewN_drewN _ _ _⟩ | exact ⟨rfl, _, Eq.trans (World.drewN_drewN _ _ _) (congrArg (World.drewN _) (Nat.add_assoc _ _ _))⟩)) | (go_at_call 100; refine (spec_l2BodyOk.calls (w := _) (hr0 := by repeat (first | exact (Kd.C_below HR0_3.out zB) | (with_reducible refine Kd.C_alloc ?_ _) | (with_reducible refine Kd.C_drewN ?_ _) | (with_reducible refine Kd.C_drew ?_))) (hc0 := HC0_3.out) (h := A23.out)).mono ?_; rintro e w' ⟨rfl, ⟨nd, rfl⟩⟩; (try first | exact ⟨rfl, _, World.drewN_drewN _ _ _⟩ | exact ⟨rfl, _, Eq.trans (World.drewN_drewN _ _ _) (congrArg (World.drewN _) (Nat.add_assoc _ _ _))⟩)))
      repeat (go_quiet (first | (go_at_call 58; with_reducible refine (spec_l1AddrOk.calls (w := _) (h := A19.out)).mono ?_; rintro e w25 ⟨rfl, hb⟩; replace BK101 := kS BK101 hb; replace HB := bS hb; clear hb; obtain ⟨hcz26_0, hcz26_1, hcz26_2, hcz26_3⟩ := cz4 BK101.out; obtain ⟨hfz26_0, hfz26_1, hfz26_2, hfz26_3⟩ := fz4 BK101.out) | (go_at_call 57; with_reducible refine (spec_l1In.calls (w := _) (h := A21.out)).mono ?_; rintro e w' ⟨rfl, ⟨nd, rfl⟩⟩; (try first | exact ⟨rfl, _, World.drewN_drewN _ _ _⟩ | exact ⟨rfl, _, Eq.trans (World.drewN_drewN _ _ _) (congrArg (World.drewN _) (Nat.add_assoc _ _ _))⟩)) | (go_at_call 100; refine (spec_l2BodyOk.calls (w := _) (hr0 := by repeat (first | exact (Kd.C_below HR0_3.out zB) | (with_reducible refine Kd.C_alloc ?_ _) | (with_reducible refine Kd.C_drewN ?_ _) | (with_reducible refine Kd.C_drew ?_))) (hc0 := HC0_3.out) (h := A23.out)).mono ?_; rintro e w' ⟨rfl, ⟨nd, rfl⟩⟩; (try first | exact ⟨rfl, _, World.drewN_drewN _ _ _⟩ | exact ⟨rfl, _, Eq.trans (World.drewN_drewN _ _ _) (congrArg (World.drewN _) (Nat.add_assoc _ _ _))⟩))); try go_wp2_with (first | (go_at_call 58; (with_reducible refine (spec_l1AddrOk.calls k1 a0_0 a0_1 true _ A19.out).mono ?_); rintro e w25 ⟨rfl, hb⟩; have n0_ := kS BK101 hb; have n1_ := bS hb; clear BK101; clear HB; have BK101 := n0_; have HB := n1_; clear n0_ n1_; (try clear hb); (try clear hb2); (try clear hk); (try clear hi); have hcz26_0 : w25.cell? ⟨gb101, 0, none⟩ = some (.string a0_0) := (blk_cell BK101.out 0).trans rfl; have hcz26_1 : w25.cell? ⟨gb101, 1, none⟩ = some (.string a0_1) := (blk_cell BK101.out 1).trans rfl; have hcz26_2 : w25.cell? ⟨gb101, 2, none⟩ = some (.slice A0_2 l0_2.length c0_2) := (blk_cell BK101.out 2).trans rfl; have hcz26_3 : w25.cell? ⟨gb101, 3, none⟩ = some (.slice A0_3 l0_3.length c0_3) := (blk_cell BK101.out 3).trans rfl; have hfz26_0 := blk_frozen BK101.out 0; have hfz26_1 := blk_frozen BK101.out 1; have hfz26_2 := blk_frozen BK101.out 2; have hfz26_3 := blk_frozen BK101.out 3) | (go_at_call 57; (with_reducible refine (spec_l1In.calls (l0_2.length : Int) 1 4 true _ A21.out).mono ?_); rintro e w' ⟨rfl, ⟨nd, rfl⟩⟩; (try first | exact ⟨rfl, _, World.drewN_drewN _ _ _⟩ | exact ⟨rfl, _, Eq.trans (World.drewN_drewN _ _ _) (congrArg (World.drewN _) (Nat.add_assoc _ _ _))⟩)) | (go_at_call 100; (with_reducible refine (spec_l2BodyOk.calls k1 _ _ l0_3 t108 _ ?side1 ?side2 A23.out).mono ?_); (case side1 => exact (by repeat (first | exact (Kd.C_below HR0_3.out zB) | (with_reducible refine Kd.C_alloc ?_ _) | (with_reducible refine Kd.C_drewN ?_ _) | (with_reducible refine Kd.C_drew ?_)))); (case side2 => exact HC0_3.out); rintro e w' ⟨rfl, ⟨nd, rfl⟩⟩; (try first | exact ⟨rfl, _, World.drewN_drewN _ _ _⟩ | exact ⟨rfl, _, Eq.trans (World.drewN_drewN _ _ _) (congrArg (World.drewN _) (Nat.add_assoc _ _ _))⟩))))
      go_ret
      exact ⟨zr, zB⟩
     ·obtain rfl := Option.some.inj H
      obtain ⟨hcz27_0, hcz27_1, hcz27_2, hcz27_3⟩ := cz4 BK101.out
      obtain ⟨hfz27_0, hfz27_1, hfz27_2, hfz27_3⟩ := fz4 BK101.out
      go_wp2_with (first | (go_at_call 58; with_reducible refine (spec_l1AddrOk.calls (w := _) (h := A19.out)).mono ?_; rintro e w28 ⟨rfl, hb⟩; replace BK101 := kS BK101 hb; replace HB := bS hb; clear hb; obtain ⟨hcz29_0, hcz29_1, hcz29_2, hcz29_3⟩ := cz4 BK101.out; obtain ⟨hfz29_0, hfz29_1, hfz29_2, hfz29_3⟩ := fz4 BK101.out) | (go_at_call 57; with_reducible refine (spec_l1In.calls (w := _) (h := A21.out)).mono ?_; rintro e w' ⟨rfl, ⟨nd, rfl⟩⟩; (try first | exact ⟨rfl, _, World.drewN_drewN _ _ _⟩ | exact ⟨rfl, _, Eq.trans (World.drewN_drewN _ _ _) (congrArg (World.drewN _) (Nat.add_assoc _ _ _))⟩)))
      repeat (go_quiet (first | (go_at_call 58; with_reducible refine (spec_l1AddrOk.calls (w := _) (h := A19.out)).mono ?_; rintro e w28 ⟨rfl, hb⟩; replace BK101 := kS BK101 hb; replace HB := bS hb; clear hb; obtain ⟨hcz29_0, hcz29_1, hcz29_2, hcz29_3⟩ := cz4 BK101.out; obtain ⟨hfz29_0, hfz29_1, hfz29_2, hfz29_3⟩ := fz4 BK101.out) | (go_at_call 57; with_reducible refine (spec_l1In.calls (w := _) (h := A21.out)).mono ?_; rintro e w' ⟨rfl, ⟨nd, rfl⟩⟩; (try first | exact ⟨rfl, _, World.drewN_drewN _ _ _⟩ | exact ⟨rfl, _, Eq.trans (World.drewN_drewN _ _ _) (congrArg (World.drewN _) (Nat.add_assoc _ _ _))⟩))); try go_wp2_with (first | (go_at_call 58; (with_reducible refine (spec_l1AddrOk.calls k1 a0_0 a0_1 true _ A19.out).mono ?_); rintro e w28 ⟨rfl, hb⟩; have n0_ := kS BK101 hb; have n1_ := bS hb; clear BK101; clear HB; have BK101 := n0_; have HB := n1_; clear n0_ n1_; (try clear hb); (try clear hb2); (try clear hk); (try clear hi); have hcz29_0 : w28.cell? ⟨gb101, 0, none⟩ = some (.string a0_0) := (blk_cell BK101.out 0).trans rfl; have hcz29_1 : w28.cell? ⟨gb101, 1, none⟩ = some (.string a0_1) := (blk_cell BK101.out 1).trans rfl; have hcz29_2 : w28.cell? ⟨gb101, 2, none⟩ = some (.slice A0_2 l0_2.length c0_2) := (blk_cell BK101.out 2).trans rfl; have hcz29_3 : w28.cell? ⟨gb101, 3, none⟩ = some (.slice A0_3 l0_3.length c0_3) := (blk_cell BK101.out 3).trans rfl; have hfz29_0 := blk_frozen BK101.out 0; have hfz29_1 := blk_frozen BK101.out 1; have hfz29_2 := blk_frozen BK101.out 2; have hfz29_3 := blk_frozen BK101.out 3) | (go_at_call 57; (with_reducible refine (spec_l1In.calls (l0_2.length : Int) 1 4 false _ A21.out).mono ?_); rintro e w' ⟨rfl, ⟨nd, rfl⟩⟩; (try first | exact ⟨rfl, _, World.drewN_drewN _ _ _⟩ | exact ⟨rfl, _, Eq.trans (World.drewN_drewN _ _ _) (congrArg (World.drewN _) (Nat.add_assoc _ _ _))⟩))))
      go_ret
      exact ⟨zr, zB⟩
    ·replace H := bnd H; obtain ⟨t109, A30, H⟩ := H
     replace H := itb H; rcases H with ⟨rfl, H⟩ | ⟨rfl, H⟩
     ·replace H := bnd H; obtain ⟨t110, A32, H⟩ := H
      replace H := itb H; rcases H with ⟨rfl, H⟩ | ⟨rfl, H⟩
      ·replace H := bnd H; obtain ⟨t111, A34, H⟩ := H
       obtain rfl := Option.some.inj H
       obtain ⟨hcz35_0, hcz35_1, hcz35_2, hcz35_3⟩ := cz4 BK101.out
       obtain ⟨hfz35_0, hfz35_1, hfz35_2, hfz35_3⟩ := fz4 BK101.out
       go_wp2_with (first | (go_at_call 58; with_reducible refine (spec_l1AddrOk.calls (w := _) (h := A19.out)).mono ?_; rintro e w36 ⟨rfl, hb⟩; replace BK101 := kS BK101 hb; replace HB := bS hb; clear hb; obtain ⟨hcz37_0, hcz37_1, hcz37_2, hcz37_3⟩ := cz4 BK101.out; obtain ⟨hfz37_0, hfz37_1, hfz37_2, hfz37_3⟩ := fz4 BK101.out) | (go_at_call 55; with_reducible refine (spec_l1Null.calls (w := _) (h := A30.out)).mono ?_; rintro e w38 ⟨rfl, hb⟩; replace BK101 := kS BK101 hb; replace HB := bS hb; clear hb; obtain ⟨hcz39_0, hcz39_1, hcz39_2, hcz39_3⟩ := cz4 BK101.out; obtain ⟨hfz39_0, hfz39_1, hfz39_2, hfz39_3⟩ := fz4 BK101.out) | (go_at_call 57; with_reducible refine (spec_l1In.calls (w := _) (h := A32.out)).mono ?_; rintro e w' ⟨rfl, ⟨nd, rfl⟩⟩; (try first | exact ⟨rfl, _, World.drewN_drewN _ _ _⟩ | exact ⟨rfl, _, Eq.trans (World.drewN_drewN _ _ _) (congrArg (World.drewN _) (Nat.add_assoc _ _ _))⟩)) | (go_at_call 100; refine (spec_l2BodyOk.calls (w := _) (hr0 := by repeat (first | exact (Kd.C_below HR0_3.out zB) | (with_reducible refine Kd.C_alloc ?_ _) | (with_reducible refine Kd.C_drewN ?_ _) | (with_reducible refine Kd.C_drew ?_))) (hc0 := HC0_3.out) (h := A34.out)).mono ?_; rintro e w' ⟨rfl, ⟨nd, rfl⟩⟩; (try first | exact ⟨rfl, _, World.drewN_drewN _ _ _⟩ | exact ⟨rfl, _, Eq.trans (World.drewN_drewN _ _ _) (congrArg (World.drewN _) (Nat.add_assoc _ _ _))⟩)))
       repeat (go_quiet (first | (go_at_call 58; with_reducible refine (spec_l1AddrOk.calls (w := _) (h := A19.out)).mono ?_; rintro e w36 ⟨rfl, hb⟩; replace BK101 := kS BK101 hb; replace HB := bS hb; clear hb; obtain ⟨hcz37_0, hcz37_1, hcz37_2, hcz37_3⟩ := cz4 BK101.out; obtain ⟨hfz37_0, hfz37_1, hfz37_2, hfz37_3⟩ := fz4 BK101.out) | (go_at_call 55; with_reducible refine (spec_l1Null.calls (w := _) (h := A30.out)).mono ?_; rintro e w38 ⟨rfl, hb⟩; replace BK101 := kS BK101 hb; replace HB := bS hb; clear hb; obtain ⟨hcz39_0, hcz39_1, hcz39_2, hcz39_3⟩ := cz4 BK101.out; obtain ⟨hfz39_0, hfz39_1, hfz39_2, hfz39_3⟩ := fz4 BK101.out) | (go_at_call 57; with_reducible refine (spec_l1In.calls (w := _) (h := A32.out)).mono ?_; rintro e w' ⟨rfl, ⟨nd, rfl⟩⟩; (try first | exact ⟨rfl, _, World.drewN_drewN _ _ _⟩ | exact ⟨rfl, _, Eq.trans (World.drewN_drewN _ _ _) (congrArg (World.drewN _) (Nat.add_assoc _ _ _))⟩)) | (go_at_call 100; refine (spec_l2BodyOk.calls (w := _) (hr0 := by repeat (first | exact (Kd.C_below HR0_3.out zB) | (with_reducible refine Kd.C_alloc ?_ _) | (with_reducible refine Kd.C_drewN ?_ _) | (with_reducible refine Kd.C_drew ?_))) (hc0 := HC0_3.out) (h := A34.out)).mono ?_; rintro e w' ⟨rfl, ⟨nd, rfl⟩⟩; (try first | exact ⟨rfl, _, World.drewN_drewN _ _ _⟩ | exact ⟨rfl, _, Eq.trans (World.drewN_drewN _ _ _) (congrArg (World.drewN _) (Nat.add_assoc _ _ _))⟩))); try go_wp2_with (first | (go_at_call 58; (with_reducible refine (spec_l1AddrOk.calls k1 a0_0 a0_1 false _ A19.out).mono ?_); rintro e w36 ⟨rfl, hb⟩; have n0_ := kS BK101 hb; have n1_ := bS hb; clear BK101; clear HB; have BK101 := n0_; have HB := n1_; clear n0_ n1_; (try clear hb); (try clear hb2); (try clear hk); (try clear hi); have hcz37_0 : w36.cell? ⟨gb101, 0, none⟩ = some (.string a0_0) := (blk_cell BK101.out 0).trans rfl; have hcz37_1 : w36.cell? ⟨gb101, 1, none⟩ = some (.string a0_1) := (blk_cell BK101.out 1).trans rfl; have hcz37_2 : w36.cell? ⟨gb101, 2, none⟩ = some (.slice A0_2 l0_2.length c0_2) := (blk_cell BK101.out 2).trans rfl; have hcz37_3 : w36.cell? ⟨gb101, 3, none⟩ = some (.slice A0_3 l0_3.length c0_3) := (blk_cell BK101.out 3).trans rfl; have hfz37_0 := blk_frozen BK101.out 0; have hfz37_1 := blk_frozen BK101.out 1; have hfz37_2 := blk_frozen BK101.out 2; have hfz37_3 := blk_frozen BK101.out 3) | (go_at_call 55; (with_reducible refine (spec_l1Null.calls a0_0 a0_1 true _ A30.out).mono ?_); rintro e w38 ⟨rfl, hb⟩; have n0_ := kS BK101 hb; have n1_ := bS hb; clear BK101; clear HB; have BK101 := n0_; have HB := n1_; clear n0_ n1_; (try clear hb); (try clear hb2); (try clear hk); (try clear hi); have hcz39_0 : w38.cell? ⟨gb101, 0, none⟩ = some (.string a0_0) := (blk_cell BK101.out 0).trans rfl; have hcz39_1 : w38.cell? ⟨gb101, 1, none⟩ = some (.string a0_1) := (blk_cell BK101.out 1).trans rfl; have hcz39_2 : w38.cell? ⟨gb101, 2, none⟩ = some (.slice A0_2 l0_2.length c0_2) := (blk_cell BK101.out 2).trans rfl; have hcz39_3 : w38.cell? ⟨gb101, 3, none⟩ = some (.slice A0_3 l0_3.length c0_3) := (blk_cell BK101.out 3).trans rfl; have hfz39_0 := blk_frozen BK101.out 0; have hfz39_1 := blk_frozen BK101.out 1; have hfz39_2 := blk_frozen BK101.out 2; have hfz39_3 := blk_frozen BK101.out 3) | (go_at_call 57; (with_reducible refine (spec_l1In.calls (l0_2.length : Int) 1 4 true _ A32.out).mono ?_); rintro e w' ⟨rfl, ⟨nd, rfl⟩⟩; (try first | exact ⟨rfl, _, World.drewN_drewN _ _ _⟩ | exact ⟨rfl, _, Eq.trans (World.drewN_drewN _ _ _) (congrArg (World.drewN _) (Nat.add_assoc _ _ _))⟩)) | (go_at_call 100; (with_reducible refine (spec_l2BodyOk.calls k1 _ _ l0_3 t111 _ ?side1 ?side2 A34.out).mono ?_); (case side1 => exact (by repeat (first | exact (Kd.C_below HR0_3.out zB) | (with_reducible refine Kd.C_alloc ?_ _) | (with_reducible refine Kd.C_drewN ?_ _) | (with_reducible refine Kd.C_drew ?_)))); (case side2 => exact HC0_3.out); rintro e w' ⟨rfl, ⟨nd, rfl⟩⟩; (try first | exact ⟨rfl, _, World.drewN_drewN _ _ _⟩ | exact ⟨rfl, _, Eq.trans (World.drewN_drewN _ _ _) (congrArg (World.drewN _) (Nat.add_assoc _ _ _))⟩))))
       go_ret
       exact ⟨zr, zB⟩
      ·obtain rfl := Option.some.inj H
       obtain ⟨hcz40_0, hcz40_1, hcz40_2, hcz40_3⟩ := cz4 BK101.out
       obtain ⟨hfz40_0, hfz40_1, hfz40_2, hfz40_3⟩ := fz4 BK101.out
       go_wp2_with (first | (go_at_call 58; with_reducible refine (spec_l1AddrOk.calls (w := _) (h := A19.out)).mono ?_; rintro e w41 ⟨rfl, hb⟩; replace BK101 := kS BK101 hb; replace HB := bS hb; clear hb; obtain ⟨hcz42_0, hcz42_1, hcz42_2, hcz42_3⟩ := cz4 BK101.out; obtain ⟨hfz42_0, hfz42_1, hfz42_2, hfz42_3⟩ := fz4 BK101.out) | (go_at_call 55; with_reducible refine (spec_l1Null.calls (w := _) (h := A30.out)).mono ?_; rintro e w43 ⟨rfl, hb⟩; replace BK101 := kS BK101 hb; replace HB := bS hb; clear hb; obtain ⟨hcz44_0, hcz44_1, hcz44_2, hcz44_3⟩ := cz4 BK101.out; obtain ⟨hfz44_0, hfz44_1, hfz44_2, hfz44_3⟩ := fz4 BK101.out) | (go_at_call 57; with_reducible refine (spec_l1In.calls (w := _) (h := A32.out)).mono ?_; rintro e w' ⟨rfl, ⟨nd, rfl⟩⟩; (try first | exact ⟨rfl, _, World.drewN_drewN _ _ _⟩ | exact ⟨rfl, _, Eq.trans (World.drewN_drewN _ _ _) (congrArg (World.drewN _) (Nat.add_assoc _ _ _))⟩)))
       repeat (go_quiet (first | (go_at_call 58; with_reducible refine (spec_l1AddrOk.calls (w := _) (h := A19.out)).mono ?_; rintro e w41 ⟨rfl, hb⟩; replace BK101 := kS BK101 hb; replace HB := bS hb; clear hb; obtain ⟨hcz42_0, hcz42_1, hcz42_2, hcz42_3⟩ := cz4 BK101.out; obtain ⟨hfz42_0, hfz42_1, hfz42_2, hfz42_3⟩ := fz4 BK101.out) | (go_at_call 55; with_reducible refine (spec_l1Null.calls (w := _) (h := A30.out)).mono ?_; rintro e w43 ⟨rfl, hb⟩; replace BK101 := kS BK101 hb; replace HB := bS hb; clear hb; obtain ⟨hcz44_0, hcz44_1, hcz44_2, hcz44_3⟩ := cz4 BK101.out; obtain ⟨hfz44_0, hfz44_1, hfz44_2, hfz44_3⟩ := fz4 BK101.out) | (go_at_call 57; with_reducible refine (spec_l1In.calls (w := _) (h := A32.out)).mono ?_; rintro e w' ⟨rfl, ⟨nd, rfl⟩⟩; (try first | exact ⟨rfl, _, World.drewN_drewN _ _ _⟩ | exact ⟨rfl, _, Eq.trans (World.drewN_drewN _ _ _) (congrArg (World.drewN _) (Nat.add_assoc _ _ _))⟩))); try go_wp2_with (first | (go_at_call 58; (with_reducible refine (spec_l1AddrOk.calls k1 a0_0 a0_1 false _ A19.out).mono ?_); rintro e w41 ⟨rfl, hb⟩; have n0_ := kS BK101 hb; have n1_ := bS hb; clear BK101; clear HB; have BK101 := n0_; have HB := n1_; clear n0_ n1_; (try clear hb); (try clear hb2); (try clear hk); (try clear hi); have hcz42_0 : w41.cell? ⟨gb101, 0, none⟩ = some (.string a0_0) := (blk_cell BK101.out 0).trans rfl; have hcz42_1 : w41.cell? ⟨gb101, 1, none⟩ = some (.string a0_1) := (blk_cell BK101.out 1).trans rfl; have hcz42_2 : w41.cell? ⟨gb101, 2, none⟩ = some (.slice A0_2 l0_2.length c0_2) := (blk_cell BK101.out 2).trans rfl; have hcz42_3 : w41.cell? ⟨gb101, 3, none⟩ = some (.slice A0_3 l0_3.length c0_3) := (blk_cell BK101.out 3).trans rfl; have hfz42_0 := blk_frozen BK101.out 0; have hfz42_1 := blk_frozen BK101.out 1; have hfz42_2 := blk_frozen BK101.out 2; have hfz42_3 := blk_frozen BK101.out 3) | (go_at_call 55; (with_reducible refine (spec_l1Null.calls a0_0 a0_1 true _ A30.out).mono ?_); rintro e w43 ⟨rfl, hb⟩; have n0_ := kS BK101 hb; have n1_ := bS hb; clear BK101; clear HB; have BK101 := n0_; have HB := n1_; clear n0_ n1_; (try clear hb); (try clear hb2); (try clear hk); (try clear hi); have hcz44_0 : w43.cell? ⟨gb101, 0, none⟩ = some (.string a0_0) := (blk_cell BK101.out 0).trans rfl; have hcz44_1 : w43.cell? ⟨gb101, 1, none⟩ = some (.string a0_1) := (blk_cell BK101.out 1).trans rfl; have hcz44_2 : w43.cell? ⟨gb101, 2, none⟩ = some (.slice A0_2 l0_2.length c0_2) := (blk_cell BK101.out 2).trans rfl; have hcz44_3 : w43.cell? ⟨gb101, 3, none⟩ = some (.slice A0_3 l0_3.length c0_3) := (blk_cell BK101.out 3).trans rfl; have hfz44_0 := blk_frozen BK101.out 0; have hfz44_1 := blk_frozen BK101.out 1; have hfz44_2 := blk_frozen BK101.out 2; have hfz44_3 := blk_frozen BK101.out 3) | (go_at_call 57; (with_reducible refine (spec_l1In.calls (l0_2.length : Int) 1 4 false _ A32.out).mono ?_); rintro e w' ⟨rfl, ⟨nd, rfl⟩⟩; (try first | exact ⟨rfl, _, World.drewN_drewN _ _ _⟩ | exact ⟨rfl, _, Eq.trans (World.drewN_drewN _ _ _) (congrArg (World.drewN _) (Nat.add_assoc _ _ _))⟩))))
       go_ret
       exact ⟨zr, zB⟩
     ·obtain rfl := Option.some.inj H
      obtain ⟨hcz45_0, hcz45_1, hcz45_2, hcz45_3⟩ := cz4 BK101.out
      obtain ⟨hfz45_0, hfz45_1, hfz45_2, hfz45_3⟩ := fz4 BK101.out
      go_wp2_with (first | (go_at_call 58; with_reducible refine (spec_l1AddrOk.calls (w := _) (h := A19.out)).mono ?_; rintro e w46 ⟨rfl, hb⟩; replace BK101 := kS BK101 hb; replace HB := bS hb; clear hb; obtain ⟨hcz47_0, hcz47_1, hcz47_2, hcz47_3⟩ := cz4 BK101.out; obtain ⟨hfz47_0, hfz47_1, hfz47_2, hfz47_3⟩ := fz4 BK101.out) | (go_at_call 55; with_reducible refine (spec_l1Null.calls (w := _) (h := A30.out)).mono ?_; rintro e w48 ⟨rfl, hb⟩; replace BK101 := kS BK101 hb; replace HB := bS hb; clear hb))
      repeat (go_quiet (first | (go_at_call 58; with_reducible refine (spec_l1AddrOk.calls (w := _) (h := A19.out)).mono ?_; rintro e w46 ⟨rfl, hb⟩; replace BK101 := kS BK101 hb; replace HB := bS hb; clear hb; obtain ⟨hcz47_0, hcz47_1, hcz47_2, hcz47_3⟩ := cz4 BK101.out; obtain ⟨hfz47_0, hfz47_1, hfz47_2, hfz47_3⟩ := fz4 BK101.out) | (go_at_call 55; with_reducible refine (spec_l1Null.calls (w := _) (h := A30.out)).mono ?_; rintro e w48 ⟨rfl, hb⟩; replace BK101 := kS BK101 hb; replace HB := bS hb; clear hb)); try go_wp2_with (first | (go_at_call 58; (with_reducible refine (spec_l1AddrOk.calls k1 a0_0 a0_1 false _ A19.out).mono ?_); rintro e w46 ⟨rfl, hb⟩; have n0_ := kS BK101 hb; have n1_ := bS hb; clear BK101; clear HB; have BK101 := n0_; have HB := n1_; clear n0_ n1_; (try clear hb); (try clear hb2); (try clear hk); (try clear hi); have hcz47_0 : w46.cell? ⟨gb101, 0, none⟩ = some (.string a0_0) := (blk_cell BK101.out 0).trans rfl; have hcz47_1 : w46.cell? ⟨gb101, 1, none⟩ = some (.string a0_1) := (blk_cell BK101.out 1).trans rfl; have hcz47_2 : w46.cell? ⟨gb101, 2, none⟩ = some (.slice A0_2 l0_2.length c0_2) := (blk_cell BK101.out 2).trans rfl; have hcz47_3 : w46.cell? ⟨gb101, 3, none⟩ = some (.slice A0_3 l0_3.length c0_3) := (blk_cell BK101.out 3).trans rfl; have hfz47_0 := blk_frozen BK101.out 0; have hfz47_1 := blk_frozen BK101.out 1; have hfz47_2 := blk_frozen BK101.out 2; have hfz47_3 := blk_frozen BK101.out 3) | (go_at_call 55; (with_reducible refine (spec_l1Null.calls a0_0 a0_1 false _ A30.out).mono ?_); rintro e w48 ⟨rfl, hb⟩; have n0_ := kS BK101 hb; have n1_ := bS hb; clear BK101; clear HB; have BK101 := n0_; have HB := n1_; clear n0_ n1_; (try clear hb); (try clear hb2); (try clear hk); (try clear hi))))
      go_ret
      exact ⟨zr, zB⟩
end Go.Proofs.YtbncnjgflhoneaaGreatDoor.F
