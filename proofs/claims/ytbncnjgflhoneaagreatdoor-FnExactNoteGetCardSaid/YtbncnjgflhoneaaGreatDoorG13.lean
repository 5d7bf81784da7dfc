/- Of this claim, merged by program: F139, F125, F80, F163, F126, F81, F43. -/
import Derived.Test.YtbncnjgflhoneaaGreatDoorG02
import Derived.Test.YtbncnjgflhoneaaGreatDoorG03
import Derived.Test.YtbncnjgflhoneaaGreatDoorG10
namespace Go.Proofs.YtbncnjgflhoneaaGreatDoor.F
open Go.RowKit Go.Proofs.YtbncnjgflhoneaaGreatDoor.Hand Go.Proofs.YtbncnjgflhoneaaGreatDoorW.PrintWords Go.Proofs.YtbncnjgflhoneaaGreatDoorW.PrintLast Go.Proofs.YtbncnjgflhoneaaGreatDoorW.PrintMore
attribute [local go_sem] max2_int min2_int max_two min_two max_three min_three max_four min_four
set_option linter.unusedVariables false
set_option linter.unusedSimpArgs false
def stringslite_HasPrefix.f (a0 : ByteArray) (a1 : ByteArray) : Option (Bool) := if (a0.size : Int) ≥ (a1.size : Int) then (if 0 ≤ (a1.size : Int) then (if (a1.size : Int) ≤ (a0.size : Int) then (some ((a0.extract 0 ((a1.size : Int) : Int).toNat).toList == a1.toList)) else (none)) else (none)) else (some false)
set_option maxHeartbeats 8000000 in
set_option maxRecDepth 100000 in
theorem stringslite_HasPrefix.calls (a0 : ByteArray) (a1 : ByteArray) (r : Bool) (w : World) (h : stringslite_HasPrefix.f a0 a1 = some r) :
  Calls Tryz.prog 139 #[.string a0, .string a1] w fun e w' => e = .returned (.bool r) ∧ Drawn0 w w' := by
 have H := h
 clear h
 unfold stringslite_HasPrefix.f at H
 replace H := its_cd_cd H; rcases H with ⟨c3, c3b0, H⟩ | ⟨c3, c3b0, H⟩
 ·have c3b1 : decide (a1.size ≤ a0.size) = true := decide_eq_true (Int.ofNat_le.mp c3)
  clear c3
  replace H := itn_ed H; obtain ⟨c4b0, c4b1, H⟩ := H
  replace H := itn_ed H; obtain ⟨c5b0, c5b1, H⟩ := H
  obtain rfl := Option.some.inj H
  go_enter Tryz.func139, Tryz.ntmps139
  go_wp2
  go_ret
  exact ⟨zs, zD⟩
 ·have c3b1 : decide (a1.size ≤ a0.size) = false := decide_eq_false (fun h => c3 (Int.ofNat_le.mpr h))
  clear c3
  obtain rfl := Option.some.inj H
  go_enter Tryz.func139, Tryz.ntmps139
  go_wp2
  go_ret
  exact ⟨zs, zD⟩
def stringslite_CutPrefix.f (a0 : ByteArray) (a1 : ByteArray) : Option (ByteArray × Bool) := (stringslite_HasPrefix.f a0 a1).bind fun t101 => (if t101 = true then (if 0 ≤ (a1.size : Int) then (if (a1.size : Int) ≤ (a0.size : Int) then (some (a0.extract ((a1.size : Int) : Int).toNat a0.size, true)) else (none)) else (none)) else (some (a0, false)))
set_option maxHeartbeats 8000000 in
set_option maxRecDepth 100000 in
theorem stringslite_CutPrefix.calls (a0 : ByteArray) (a1 : ByteArray) (r1 : ByteArray) (r2 : Bool) (w : World) (h : stringslite_CutPrefix.f a0 a1 = some (r1, r2)) :
  Calls Tryz.prog 125 #[.string a0, .string a1] w fun e w' => e = .returned (.tuple #[.string r1, .bool r2]) ∧ Drawn0 w w' := by
 have H := h
 clear h
 unfold stringslite_CutPrefix.f at H
 replace H := bnd H; obtain ⟨t101, A3, H⟩ := H
 replace H := itb H; rcases H with ⟨rfl, H⟩ | ⟨rfl, H⟩
 ·replace H := itn_ed H; obtain ⟨c5b0, c5b1, H⟩ := H
  replace H := itn_ed H; obtain ⟨c6b0, c6b1, H⟩ := H
  simp only [Option.some.injEq, Prod.mk.injEq] at H
  obtain ⟨rfl, rfl⟩ := H
  go_enter Tryz.func125, Tryz.ntmps125
  go_wp2_with (first | ((with_reducible refine gate_callee (f := 139) rfl ?_); refine gv 8 Tryz.func139 _ (stringslite_HasPrefix.calls (w := _) (h := A3.out)) ?_; rintro w' ⟨nd, rfl⟩))
  go_ret2
  exact ⟨zs, zD⟩
 ·simp only [Option.some.injEq, Prod.mk.injEq] at H
  obtain ⟨rfl, rfl⟩ := H
  go_enter Tryz.func125, Tryz.ntmps125
  go_wp2_with (first | ((with_reducible refine gate_callee (f := 139) rfl ?_); refine gv 8 Tryz.func139 _ (stringslite_HasPrefix.calls (w := _) (h := A3.out)) ?_; rintro w' ⟨nd, rfl⟩))
  go_ret2
  exact ⟨zs, zD⟩
end Go.Proofs.YtbncnjgflhoneaaGreatDoor.F
namespace Go.Proofs.YtbncnjgflhoneaaGreatDoor.F
open Go.RowKit Go.Proofs.YtbncnjgflhoneaaGreatDoor.Hand Go.Proofs.YtbncnjgflhoneaaGreatDoorW.PrintWords Go.Proofs.YtbncnjgflhoneaaGreatDoorW.PrintLast Go.Proofs.YtbncnjgflhoneaaGreatDoorW.PrintMore
attribute [local go_sem] max2_int min2_int max_two min_two max_three min_three max_four min_four
set_option linter.unusedVariables false
set_option linter.unusedSimpArgs false
def strings_CutPrefix.f (a0 : ByteArray) (a1 : ByteArray) : Option (ByteArray × Bool) := (stringslite_CutPrefix.f a0 a1).bind fun bt101 => (some (bt101.1, bt101.2))
set_option maxHeartbeats 8000000 in
set_option maxRecDepth 100000 in
theorem strings_CutPrefix.calls (a0 : ByteArray) (a1 : ByteArray) (r1 : ByteArray) (r2 : Bool) (w : World) (h : strings_CutPrefix.f a0 a1 = some (r1, r2)) :
  Calls Tryz.prog 80 #[.string a0, .string a1] w fun e w' => e = .returned (.tuple #[.string r1, .bool r2]) ∧ Drawn0 w w' := by
 have H := h
 clear h
 unfold strings_CutPrefix.f at H
 replace H := bnd H; obtain ⟨⟨t101, t102⟩, A3, H⟩ := H
 dsimp only at H
 simp only [Option.some.injEq, Prod.mk.injEq] at H
 obtain ⟨rfl, rfl⟩ := H
 go_enter Tryz.func80, Tryz.ntmps80
 go_wp2_with (first | ((with_reducible refine gate_callee (f := 125) rfl ?_); refine gv 8 Tryz.func125 _ (stringslite_CutPrefix.calls (w := _) (h := A3.out)) ?_; rintro w' ⟨nd, rfl⟩))
 go_ret2
 exact ⟨zs, zD⟩
def stringslite_HasSuffix.f (a0 : ByteArray) (a1 : ByteArray) : Option (Bool) := if (a0.size : Int) ≥ (a1.size : Int) then (if 0 ≤ (wrap64 ((a0.size : Int) - (a1.size : Int))) then (if (wrap64 ((a0.size : Int) - (a1.size : Int))) ≤ (a0.size : Int) then (some ((a0.extract ((wrap64 ((a0.size : Int) - (a1.size : Int))) : Int).toNat a0.size).toList == a1.toList)) else (none)) else (none)) else (some false)
set_option maxHeartbeats 8000000 in
set_option maxRecDepth 100000 in
theorem stringslite_HasSuffix.calls (a0 : ByteArray) (a1 : ByteArray) (r : Bool) (w : World) (h : stringslite_HasSuffix.f a0 a1 = some r) :
  Calls Tryz.prog 163 #[.string a0, .string a1] w fun e w' => e = .returned (.bool r) ∧ Drawn0 w w' := by
 have H := h
 clear h
 unfold stringslite_HasSuffix.f at H
 replace H := its_cd_cd H; rcases H with ⟨c3, c3b0, H⟩ | ⟨c3, c3b0, H⟩
 ·have c3b1 : decide (a1.size ≤ a0.size) = true := decide_eq_true (Int.ofNat_le.mp c3)
  clear c3
  obtain ⟨ji4, hji4⟩ : ∃ j_ : Int, (wrap64 ((a0.size : Int) - (a1.size : Int))) = j_ := ⟨_, rfl⟩
  first | rw [hji4] at H | simp only [hji4] at H
  have hji4w : (IntKind.i64.wrap ((a0.size : Int) - (a1.size : Int))) = ji4 := (i64_w _).trans hji4
  replace H := itn_ed H; obtain ⟨c5b0, c5b1, H⟩ := H
  replace H := itn_ed H; obtain ⟨c6b0, c6b1, H⟩ := H
  obtain rfl := Option.some.inj H
  go_enter Tryz.func163, Tryz.ntmps163
  go_wp2
  go_ret
  exact ⟨by first | rfl | (simp; done) | (simp only [← hji4] <;> (first | rfl | simp)) | (simp [*]; done), zD⟩
 ·have c3b1 : decide (a1.size ≤ a0.size) = false := decide_eq_false (fun h => c3 (Int.ofNat_le.mpr h))
  clear c3
  obtain rfl := Option.some.inj H
  go_enter Tryz.func163, Tryz.ntmps163
  go_wp2
  go_ret
  exact ⟨zs, zD⟩
end Go.Proofs.YtbncnjgflhoneaaGreatDoor.F
namespace Go.Proofs.YtbncnjgflhoneaaGreatDoor.F
open Go.RowKit Go.Proofs.YtbncnjgflhoneaaGreatDoor.Hand Go.Proofs.YtbncnjgflhoneaaGreatDoorW.PrintWords Go.Proofs.YtbncnjgflhoneaaGreatDoorW.PrintLast Go.Proofs.YtbncnjgflhoneaaGreatDoorW.PrintMore
attribute [local go_sem] max2_int min2_int max_two min_two max_three min_three max_four min_four
set_option linter.unusedVariables false
set_option linter.unusedSimpArgs false
def stringslite_TrimSuffix.f (a0 : ByteArray) (a1 : ByteArray) : Option (ByteArray) := (stringslite_HasSuffix.f a0 a1).bind fun t101 => (if t101 = true then (if 0 ≤ (wrap64 ((a0.size : Int) - (a1.size : Int))) then (if (wrap64 ((a0.size : Int) - (a1.size : Int))) ≤ (a0.size : Int) then (some (a0.extract 0 ((wrap64 ((a0.size : Int) - (a1.size : Int))) : Int).toNat)) else (none)) else (none)) else (some a0))
set_option maxHeartbeats 8000000 in
set_option maxRecDepth 100000 in
theorem stringslite_TrimSuffix.calls (a0 : ByteArray) (a1 : ByteArray) (r : ByteArray) (w : World) (h : stringslite_TrimSuffix.f a0 a1 = some r) :
  Calls Tryz.prog 126 #[.string a0, .string a1] w fun e w' => e = .returned (.string r) ∧ Drawn0 w w' := by
 have H := h
 clear h
 unfold stringslite_TrimSuffix.f at H
 replace H := bnd H; obtain ⟨t101, A3, H⟩ := H
 replace H := itb H; rcases H with ⟨rfl, H⟩ | ⟨rfl, H⟩
 ·obtain ⟨ji5, hji5⟩ : ∃ j_ : Int, (wrap64 ((a0.size : Int) - (a1.size : Int))) = j_ := ⟨_, rfl⟩
  first | rw [hji5] at H | simp only [hji5] at H
  (try rw [hji5] at A3)
  have hji5w : (IntKind.i64.wrap ((a0.size : Int) - (a1.size : Int))) = ji5 := (i64_w _).trans hji5
  replace H := itn_ed H; obtain ⟨c6b0, c6b1, H⟩ := H
  replace H := itn_ed H; obtain ⟨c7b0, c7b1, H⟩ := H
  obtain rfl := Option.some.inj H
  go_enter Tryz.func126, Tryz.ntmps126
  go_wp2_with (first | ((with_reducible refine gate_callee (f := 163) rfl ?_); refine gv 7 Tryz.func163 _ (stringslite_HasSuffix.calls (w := _) (h := A3.out)) ?_; rintro w' ⟨nd, rfl⟩))
  go_ret
  exact ⟨by first | rfl | (simp; done) | (simp only [← hji5] <;> (first | rfl | simp)) | (simp [*]; done), zD⟩
 ·obtain rfl := Option.some.inj H
  go_enter Tryz.func126, Tryz.ntmps126
  go_wp2_with (first | ((with_reducible refine gate_callee (f := 163) rfl ?_); refine gv 7 Tryz.func163 _ (stringslite_HasSuffix.calls (w := _) (h := A3.out)) ?_; rintro w' ⟨nd, rfl⟩))
  go_ret
  exact ⟨zs, zD⟩
def strings_TrimSuffix.f (a0 : ByteArray) (a1 : ByteArray) : Option (ByteArray) := (stringslite_TrimSuffix.f a0 a1).bind fun t101 => (some t101)
set_option maxHeartbeats 8000000 in
set_option maxRecDepth 100000 in
theorem strings_TrimSuffix.calls (a0 : ByteArray) (a1 : ByteArray) (r : ByteArray) (w : World) (h : strings_TrimSuffix.f a0 a1 = some r) :
  Calls Tryz.prog 81 #[.string a0, .string a1] w fun e w' => e = .returned (.string r) ∧ Drawn0 w w' := by
 have H := h
 clear h
 unfold strings_TrimSuffix.f at H
 replace H := bnd H; obtain ⟨t101, A3, H⟩ := H
 obtain rfl := Option.some.inj H
 go_enter Tryz.func81, Tryz.ntmps81
 go_wp2_with (first | ((with_reducible refine gate_callee (f := 126) rfl ?_); refine gv 7 Tryz.func126 _ (stringslite_TrimSuffix.calls (w := _) (h := A3.out)) ?_; rintro w' ⟨nd, rfl⟩))
 go_ret
 exact ⟨zs, zD⟩
end Go.Proofs.YtbncnjgflhoneaaGreatDoor.F
namespace Go.Proofs.YtbncnjgflhoneaaGreatDoor.F
open Go.RowKit Go.Proofs.YtbncnjgflhoneaaGreatDoor.Hand Go.Proofs.YtbncnjgflhoneaaGreatDoorW.PrintWords Go.Proofs.YtbncnjgflhoneaaGreatDoorW.PrintLast Go.Proofs.YtbncnjgflhoneaaGreatDoorW.PrintMore
attribute [local go_sem] max2_int min2_int max_two min_two max_three min_three max_four min_four
set_option linter.unusedVariables false
set_option linter.unusedSimpArgs false
def impl_AddrGet.f (k : Nat) (a0 : ByteArray) : Option (ByteArray × ByteArray × Bool) := (strings_CutPrefix.f a0 (⟨#[60]⟩ : ByteArray)).bind fun bt102 => ((strings_TrimSuffix.f bt102.1 (⟨#[62]⟩ : ByteArray)).bind fun t104 => ((strings_Cut.f t104 (⟨#[64]⟩ : ByteArray)).bind fun bt105 => (if bt102.2 = true then ((impl_Addr_sender.f k bt105.1 bt105.2.1).bind fun t109 => (if t109 = true then ((impl_Addr_text.f bt105.1 bt105.2.1).bind fun t110 => (if t110.toList = a0.toList then (some (bt105.1, bt105.2.1, true)) else (some ((⟨#[]⟩ : ByteArray), (⟨#[]⟩ : ByteArray), false)))) else (some ((⟨#[]⟩ : ByteArray), (⟨#[]⟩ : ByteArray), false)))) else (some ((⟨#[]⟩ : ByteArray), (⟨#[]⟩ : ByteArray), false)))))
theorem impl_AddrGet.mono : ∀ a0 k, LeO (impl_AddrGet.f k a0) (impl_AddrGet.f (k + 1) a0) := by
 intro a0 k
 unfold impl_AddrGet.f
 repeat' with_reducible first | apply impl_Addr_sender.mono | exact LeO.refl _ | exact LeO.none _ | apply LeO.ite | refine LeO.bind ?_ fun _ => ?_
set_option maxHeartbeats 8000000 in
set_option maxRecDepth 100000 in
theorem impl_AddrGet.calls (k : Nat) (a0 : ByteArray) (r1 : ByteArray) (r2 : ByteArray) (r3 : Bool) (w : World) (hG : Laid w) (h : impl_AddrGet.f k a0 = some (r1, r2, r3)) :
  Calls Tryz.prog 43 #[.string a0] w fun e w' => e = .returned (.tuple #[.agg #[.string r1, .string r2], .bool r3]) ∧ Below w.heap.size w w' := by
 have hu32 := Tryz.underlying32
 have HG := Aside0.mk hG
 clear hG
 have HB := Aside0.mk (Below.refl w.heap.size w)
 have H := h
 clear h
 unfold impl_AddrGet.f at H
 replace H := bnd H; obtain ⟨⟨t102, t103⟩, A2, H⟩ := H
 dsimp only at H
 replace H := bnd H; obtain ⟨t104, A3, H⟩ := H
 replace H := bnd H; obtain ⟨⟨t105, t106, t107⟩, A4, H⟩ := H
 dsimp only at H
 replace H := itb H; rcases H with ⟨rfl, H⟩ | ⟨rfl, H⟩
 ·replace H := bnd H; obtain ⟨t109, A6, H⟩ := H
  replace H := itb H; rcases H with ⟨rfl, H⟩ | ⟨rfl, H⟩
  ·replace H := bnd H; obtain ⟨t110, A8, H⟩ := H
   replace H := its_qn_qn H; rcases H with ⟨c9b0, c9b1, H⟩ | ⟨c9b0, c9b1, H⟩
   ·simp only [Option.some.injEq, Prod.mk.injEq] at H
    obtain ⟨rfl, rfl, rfl⟩ := H
    go_enter Tryz.func43, Tryz.ntmps43
    go_wp2_with (first | ((with_reducible refine gate_dst (N := 2) rfl ?_); refine bx (cs := #[.string ⟨#[]⟩, .string ⟨#[]⟩]) (t := 32) ?_; intro gb101 hg w10 hbox hb; have BK101 := Aside0.mk (hbox); have GW101 := gS hg; have GE101 := gS hg; replace HB := bS hb; clear hb hbox hg) | ((with_reducible refine gate_callee (f := 80) rfl ?_); refine gv 12 Tryz.func80 _ (strings_CutPrefix.calls (w := _) (h := A2.out)) ?_; rintro w' ⟨nd, rfl⟩; (try (rw [drewN_self w10]; generalize hq_ : World.drewN w10 _ = w10; have n0_ : Aside0 (w10.heap[gb101]? = some (.cells #[.string ⟨#[]⟩, .string ⟨#[]⟩] 32 (0, 0))) := ⟨by rw [← hq_]; exact (kQ BK101)⟩; have n1_ : Aside0 (Below w.heap.size w w10) := ⟨by rw [← hq_]; exact zB⟩; clear BK101 HB hq_; have BK101 := n0_; have HB := n1_; clear n0_ n1_))) | ((with_reducible refine gate_callee (f := 81) rfl ?_); refine gv 17 Tryz.func81 _ (strings_TrimSuffix.calls (w := _) (h := A3.out)) ?_; rintro w' ⟨nd, rfl⟩; (try (rw [drewN_self w10]; generalize hq_ : World.drewN w10 _ = w10; have n0_ : Aside0 (w10.heap[gb101]? = some (.cells #[.string ⟨#[]⟩, .string ⟨#[]⟩] 32 (0, 0))) := ⟨by rw [← hq_]; exact (kQ BK101)⟩; have n1_ : Aside0 (Below w.heap.size w w10) := ⟨by rw [← hq_]; exact zB⟩; clear BK101 HB hq_; have BK101 := n0_; have HB := n1_; clear n0_ n1_))) | ((with_reducible refine gate_callee (f := 39) rfl ?_); refine gv 18 Tryz.func39 _ (strings_Cut.calls (w := _) (hG := gB) (h := A4.out)) ?_; rintro w' ⟨nd, rfl⟩; (try (rw [drewN_self w10]; generalize hq_ : World.drewN w10 _ = w10; have n0_ : Aside0 (w10.heap[gb101]? = some (.cells #[.string ⟨#[]⟩, .string ⟨#[]⟩] 32 (0, 0))) := ⟨by rw [← hq_]; exact (kQ BK101)⟩; have n1_ : Aside0 (Below w.heap.size w w10) := ⟨by rw [← hq_]; exact zB⟩; clear BK101 HB hq_; have BK101 := n0_; have HB := n1_; clear n0_ n1_))) | ((with_reducible refine gate_dst (N := 9) rfl ?_); refine bx (cs := #[.string ⟨#[]⟩, .string ⟨#[]⟩]) (t := 32) ?_; intro gb108 hg w11 hbox hb; have BK108 := Aside0.mk (hbox); have GW108 := gS hg; have GE108 := gS hg; have NB101_108 := nS hg BK101; have NB108_101 := nG hg BK101; replace BK101 := kS BK101 hb; replace HB := bS hb; clear hb hbox hg; have hnb12 := NB108_101.out; have hnc12 := NB101_108.out; obtain ⟨hcz13_0, hcz13_1⟩ := cz2 BK108.out; obtain ⟨hfz13_0, hfz13_1⟩ := fz2 BK108.out) | (go_at_call 72; refine (impl_Addr_sender.calls (w := _) (hG := gB) (h := A6.out)).mono ?_; rintro e w14 ⟨rfl, hb⟩; replace BK101 := kS BK101 hb; replace BK108 := kP (.cells #[.string t105, .string t106] 32 (0, 0)) BK108 hb; replace HB := bS hb; clear hb; obtain ⟨hcz15_0, hcz15_1⟩ := cz2 BK108.out; obtain ⟨hfz15_0, hfz15_1⟩ := fz2 BK108.out) | (go_at_call 29; with_reducible refine (impl_Addr_text.calls (w := _) (h := A8.out)).mono ?_; rintro e w16 ⟨rfl, hb⟩; replace BK101 := kS BK101 hb; replace BK108 := kS BK108 hb; replace HB := bS hb; clear hb; obtain ⟨hcz17_0, hcz17_1⟩ := cz2 BK108.out; obtain ⟨hfz17_0, hfz17_1⟩ := fz2 BK108.out; obtain ⟨hcz18_0, hcz18_1⟩ := cz2 BK101.out; obtain ⟨hfz18_0, hfz18_1⟩ := fz2 BK101.out))
    refine bodyPost_ret (results_ct rfl _ _ gb101 32 #[.string t105, .string t106] (0, 0) _ rfl (kQ BK101) Tryz.underlying32 rfl z0_) rfl ?_
    exact ⟨zr, zB⟩
   ·simp only [Option.some.injEq, Prod.mk.injEq] at H
    obtain ⟨rfl, rfl, rfl⟩ := H
    go_enter Tryz.func43, Tryz.ntmps43
    go_wp2_with (first | ((with_reducible refine gate_dst (N := 2) rfl ?_); refine bx (cs := #[.string ⟨#[]⟩, .string ⟨#[]⟩]) (t := 32) ?_; intro gb101 hg w19 hbox hb; have BK101 := Aside0.mk (hbox); have GW101 := gS hg; have GE101 := gS hg; replace HB := bS hb; clear hb hbox hg) | ((with_reducible refine gate_callee (f := 80) rfl ?_); refine gv 12 Tryz.func80 _ (strings_CutPrefix.calls (w := _) (h := A2.out)) ?_; rintro w' ⟨nd, rfl⟩; (try (rw [drewN_self w19]; generalize hq_ : World.drewN w19 _ = w19; have n0_ : Aside0 (w19.heap[gb101]? = some (.cells #[.string ⟨#[]⟩, .string ⟨#[]⟩] 32 (0, 0))) := ⟨by rw [← hq_]; exact (kQ BK101)⟩; have n1_ : Aside0 (Below w.heap.size w w19) := ⟨by rw [← hq_]; exact zB⟩; clear BK101 HB hq_; have BK101 := n0_; have HB := n1_; clear n0_ n1_))) | ((with_reducible refine gate_callee (f := 81) rfl ?_); refine gv 17 Tryz.func81 _ (strings_TrimSuffix.calls (w := _) (h := A3.out)) ?_; rintro w' ⟨nd, rfl⟩; (try (rw [drewN_self w19]; generalize hq_ : World.drewN w19 _ = w19; have n0_ : Aside0 (w19.heap[gb101]? = some (.cells #[.string ⟨#[]⟩, .string ⟨#[]⟩] 32 (0, 0))) := ⟨by rw [← hq_]; exact (kQ BK101)⟩; have n1_ : Aside0 (Below w.heap.size w w19) := ⟨by rw [← hq_]; exact zB⟩; clear BK101 HB hq_; have BK101 := n0_; have HB := n1_; clear n0_ n1_))) | ((with_reducible refine gate_callee (f := 39) rfl ?_); refine gv 18 Tryz.func39 _ (strings_Cut.calls (w := _) (hG := gB) (h := A4.out)) ?_; rintro w' ⟨nd, rfl⟩; (try (rw [drewN_self w19]; generalize hq_ : World.drewN w19 _ = w19; have n0_ : Aside0 (w19.heap[gb101]? = some (.cells #[.string ⟨#[]⟩, .string ⟨#[]⟩] 32 (0, 0))) := ⟨by rw [← hq_]; exact (kQ BK101)⟩; have n1_ : Aside0 (Below w.heap.size w w19) := ⟨by rw [← hq_]; exact zB⟩; clear BK101 HB hq_; have BK101 := n0_; have HB := n1_; clear n0_ n1_))) | ((with_reducible refine gate_dst (N := 9) rfl ?_); refine bx (cs := #[.string ⟨#[]⟩, .string ⟨#[]⟩]) (t := 32) ?_; intro gb108 hg w20 hbox hb; have BK108 := Aside0.mk (hbox); have GW108 := gS hg; have GE108 := gS hg; have NB101_108 := nS hg BK101; have NB108_101 := nG hg BK101; replace BK101 := kS BK101 hb; replace HB := bS hb; clear hb hbox hg; have hnb21 := NB108_101.out; have hnc21 := NB101_108.out; obtain ⟨hcz22_0, hcz22_1⟩ := cz2 BK108.out; obtain ⟨hfz22_0, hfz22_1⟩ := fz2 BK108.out) | (go_at_call 72; refine (impl_Addr_sender.calls (w := _) (hG := gB) (h := A6.out)).mono ?_; rintro e w23 ⟨rfl, hb⟩; replace BK101 := kS BK101 hb; replace BK108 := kP (.cells #[.string t105, .string t106] 32 (0, 0)) BK108 hb; replace HB := bS hb; clear hb; obtain ⟨hcz24_0, hcz24_1⟩ := cz2 BK108.out; obtain ⟨hfz24_0, hfz24_1⟩ := fz2 BK108.out) | (go_at_call 29; with_reducible refine (impl_Addr_text.calls (w := _) (h := A8.out)).mono ?_; rintro e w25 ⟨rfl, hb⟩; replace BK101 := kS BK101 hb; replace BK108 := kS BK108 hb; replace HB := bS hb; clear hb; obtain ⟨hcz26_0, hcz26_1⟩ := cz2 BK101.out; obtain ⟨hfz26_0, hfz26_1⟩ := fz2 BK101.out))
    refine bodyPost_ret (results_ct rfl _ _ gb101 32 #[.string (⟨#[]⟩ : ByteArray), .string (⟨#[]⟩ : ByteArray)] (0, 0) _ rfl (kQ BK101) Tryz.underlying32 rfl z0_) rfl ?_
    exact ⟨zr, zB⟩
  ·simp only [Option.some.injEq, Prod.mk.injEq] at H
   obtain ⟨rfl, rfl, rfl⟩ := H
   go_enter Tryz.func43, Tryz.ntmps43
   go_wp2_with (first | ((with_reducible refine gate_dst (N := 2) rfl ?_); refine bx (cs := #[.string ⟨#[]⟩, .string ⟨#[]⟩]) (t := 32) ?_; intro gb101 hg w27 hbox hb; have BK101 := Aside0.mk (hbox); have GW101 := gS hg; have GE101 := gS hg; replace HB := bS hb; clear hb hbox hg) | ((with_reducible refine gate_callee (f := 80) rfl ?_); refine gv 12 Tryz.func80 _ (strings_CutPrefix.calls (w := _) (h := A2.out)) ?_; rintro w' ⟨nd, rfl⟩; (try (rw [drewN_self w27]; generalize hq_ : World.drewN w27 _ = w27; have n0_ : Aside0 (w27.heap[gb101]? = some (.cells #[.string ⟨#[]⟩, .string ⟨#[]⟩] 32 (0, 0))) := ⟨by rw [← hq_]; exact (kQ BK101)⟩; have n1_ : Aside0 (Below w.heap.size w w27) := ⟨by rw [← hq_]; exact zB⟩; clear BK101 HB hq_; have BK101 := n0_; have HB := n1_; clear n0_ n1_))) | ((with_reducible refine gate_callee (f := 81) rfl ?_); refine gv 17 Tryz.func81 _ (strings_TrimSuffix.calls (w := _) (h := A3.out)) ?_; rintro w' ⟨nd, rfl⟩; (try (rw [drewN_self w27]; generalize hq_ : World.drewN w27 _ = w27; have n0_ : Aside0 (w27.heap[gb101]? = some (.cells #[.string ⟨#[]⟩, .string ⟨#[]⟩] 32 (0, 0))) := ⟨by rw [← hq_]; exact (kQ BK101)⟩; have n1_ : Aside0 (Below w.heap.size w w27) := ⟨by rw [← hq_]; exact zB⟩; clear BK101 HB hq_; have BK101 := n0_; have HB := n1_; clear n0_ n1_))) | ((with_reducible refine gate_callee (f := 39) rfl ?_); refine gv 18 Tryz.func39 _ (strings_Cut.calls (w := _) (hG := gB) (h := A4.out)) ?_; rintro w' ⟨nd, rfl⟩; (try (rw [drewN_self w27]; generalize hq_ : World.drewN w27 _ = w27; have n0_ : Aside0 (w27.heap[gb101]? = some (.cells #[.string ⟨#[]⟩, .string ⟨#[]⟩] 32 (0, 0))) := ⟨by rw [← hq_]; exact (kQ BK101)⟩; have n1_ : Aside0 (Below w.heap.size w w27) := ⟨by rw [← hq_]; exact zB⟩; clear BK101 HB hq_; have BK101 := n0_; have HB := n1_; clear n0_ n1_))) | ((with_reducible refine gate_dst (N := 9) rfl ?_); refine bx (cs := #[.string ⟨#[]⟩, .string ⟨#[]⟩]) (t := 32) ?_; intro gb108 hg w28 hbox hb; have BK108 := Aside0.mk (hbox); have GW108 := gS hg; have GE108 := gS hg; have NB101_108 := nS hg BK101; have NB108_101 := nG hg BK101; replace BK101 := kS BK101 hb; replace HB := bS hb; clear hb hbox hg; have hnb29 := NB108_101.out; have hnc29 := NB101_108.out; obtain ⟨hcz30_0, hcz30_1⟩ := cz2 BK108.out; obtain ⟨hfz30_0, hfz30_1⟩ := fz2 BK108.out) | (go_at_call 72; refine (impl_Addr_sender.calls (w := _) (hG := gB) (h := A6.out)).mono ?_; rintro e w31 ⟨rfl, hb⟩; replace BK101 := kS BK101 hb; replace BK108 := kP (.cells #[.string t105, .string t106] 32 (0, 0)) BK108 hb; replace HB := bS hb; clear hb; obtain ⟨hcz32_0, hcz32_1⟩ := cz2 BK101.out; obtain ⟨hfz32_0, hfz32_1⟩ := fz2 BK101.out))
   refine bodyPost_ret (results_ct rfl _ _ gb101 32 #[.string (⟨#[]⟩ : ByteArray), .string (⟨#[]⟩ : ByteArray)] (0, 0) _ rfl (kQ BK101) Tryz.underlying32 rfl z0_) rfl ?_
   exact ⟨zr, zB⟩
 ·simp only [Option.some.injEq, Prod.mk.injEq] at H
  obtain ⟨rfl, rfl, rfl⟩ := H
  go_enter Tryz.func43, Tryz.ntmps43
  go_wp2_with (first | ((with_reducible refine gate_dst (N := 2) rfl ?_); refine bx (cs := #[.string ⟨#[]⟩, .string ⟨#[]⟩]) (t := 32) ?_; intro gb101 hg w33 hbox hb; have BK101 := Aside0.mk (hbox); have GW101 := gS hg; have GE101 := gS hg; replace HB := bS hb; clear hb hbox hg) | ((with_reducible refine gate_callee (f := 80) rfl ?_); refine gv 12 Tryz.func80 _ (strings_CutPrefix.calls (w := _) (h := A2.out)) ?_; rintro w' ⟨nd, rfl⟩; (try (rw [drewN_self w33]; generalize hq_ : World.drewN w33 _ = w33; have n0_ : Aside0 (w33.heap[gb101]? = some (.cells #[.string ⟨#[]⟩, .string ⟨#[]⟩] 32 (0, 0))) := ⟨by rw [← hq_]; exact (kQ BK101)⟩; have n1_ : Aside0 (Below w.heap.size w w33) := ⟨by rw [← hq_]; exact zB⟩; clear BK101 HB hq_; have BK101 := n0_; have HB := n1_; clear n0_ n1_))) | ((with_reducible refine gate_callee (f := 81) rfl ?_); refine gv 17 Tryz.func81 _ (strings_TrimSuffix.calls (w := _) (h := A3.out)) ?_; rintro w' ⟨nd, rfl⟩; (try (rw [drewN_self w33]; generalize hq_ : World.drewN w33 _ = w33; have n0_ : Aside0 (w33.heap[gb101]? = some (.cells #[.string ⟨#[]⟩, .string ⟨#[]⟩] 32 (0, 0))) := ⟨by rw [← hq_]; exact (kQ BK101)⟩; have n1_ : Aside0 (Below w.heap.size w w33) := ⟨by rw [← hq_]; exact zB⟩; clear BK101 HB hq_; have BK101 := n0_; have HB := n1_; clear n0_ n1_))) | ((with_reducible refine gate_callee (f := 39) rfl ?_); refine gv 18 Tryz.func39 _ (strings_Cut.calls (w := _) (hG := gB) (h := A4.out)) ?_; rintro w' ⟨nd, rfl⟩; (try (rw [drewN_self w33]; generalize hq_ : World.drewN w33 _ = w33; have n0_ : Aside0 (w33.heap[gb101]? = some (.cells #[.string ⟨#[]⟩, .string ⟨#[]⟩] 32 (0, 0))) := ⟨by rw [← hq_]; exact (kQ BK101)⟩; have n1_ : Aside0 (Below w.heap.size w w33) := ⟨by rw [← hq_]; exact zB⟩; clear BK101 HB hq_; have BK101 := n0_; have HB := n1_; clear n0_ n1_))) | ((with_reducible refine gate_dst (N := 9) rfl ?_); refine bx (cs := #[.string ⟨#[]⟩, .string ⟨#[]⟩]) (t := 32) ?_; intro gb108 hg w34 hbox hb; have BK108 := Aside0.mk (hbox); have GW108 := gS hg; have GE108 := gS hg; have NB101_108 := nS hg BK101; have NB108_101 := nG hg BK101; replace BK101 := kS BK101 hb; replace HB := bS hb; clear hb hbox hg; have hnb35 := NB108_101.out; have hnc35 := NB101_108.out; obtain ⟨hcz36_0, hcz36_1⟩ := cz2 BK108.out; obtain ⟨hfz36_0, hfz36_1⟩ := fz2 BK108.out; obtain ⟨hcz37_0, hcz37_1⟩ := cz2 BK101.out; obtain ⟨hfz37_0, hfz37_1⟩ := fz2 BK101.out))
  refine bodyPost_ret (results_ct rfl _ _ gb101 32 #[.string (⟨#[]⟩ : ByteArray), .string (⟨#[]⟩ : ByteArray)] (0, 0) _ rfl (kQ BK101) Tryz.underlying32 rfl z0_) rfl ?_
  exact ⟨zr, zB⟩
end Go.Proofs.YtbncnjgflhoneaaGreatDoor.F
