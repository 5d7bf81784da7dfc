/- Of this claim, merged by program: F119, F121, HDotGet, F128, Q8. -/
import Derived.Test.YtbncnjgflhoneaaGreatDoorG02
import Derived.Test.YtbncnjgflhoneaaGreatDoorG03
import Derived.Test.YtbncnjgflhoneaaGreatDoorG04
import Derived.Test.YtbncnjgflhoneaaGreatDoorG08
import Derived.Test.YtbncnjgflhoneaaGreatDoorG10
import Derived.Test.YtbncnjgflhoneaaGreatDoorG15
namespace Go.Proofs.YtbncnjgflhoneaaGreatDoor.F
open Go.RowKit Go.Proofs.YtbncnjgflhoneaaGreatDoor.Hand Go.Proofs.YtbncnjgflhoneaaGreatDoorW.PrintWords Go.Proofs.YtbncnjgflhoneaaGreatDoorW.PrintLast Go.Proofs.YtbncnjgflhoneaaGreatDoorW.PrintMore
attribute [local go_sem] max2_int min2_int max_two min_two max_three min_three max_four min_four
set_option linter.unusedVariables false
set_option linter.unusedSimpArgs false
def impl_LinesOf.f (k : Nat) (a0 : ByteArray) : Option (List ByteArray × ByteArray) := if (a0.size : Int) > 800 then (some (([] : List ByteArray), (⟨#[]⟩ : ByteArray))) else ((impl_split.f k a0).bind fun bt101 => (some (bt101.1, bt101.2)))
theorem impl_LinesOf.mono : ∀ a0 k, LeO (impl_LinesOf.f k a0) (impl_LinesOf.f (k + 1) a0) := by
 intro a0 k
 unfold impl_LinesOf.f
 repeat' with_reducible first | apply impl_split.mono | exact LeO.refl _ | exact LeO.none _ | apply LeO.ite | refine LeO.bind ?_ fun _ => ?_
set_option maxHeartbeats 8000000 in
set_option maxRecDepth 100000 in
theorem impl_LinesOf.calls (k : Nat) (a0 : ByteArray) (r1 : List ByteArray) (r2 : ByteArray) (w : World) (hG : Laid w) (h : impl_LinesOf.f k a0 = some (r1, r2)) :
  Calls Tryz.prog 119 #[.string a0] w fun e w' => ∃ v0_ : Value, e = .returned (.tuple #[v0_, .string r2]) ∧ Kd.R Kd.string 9 w' w.heap.size (fun _ => True) v0_ r1 ∧ Below w.heap.size w w' := by
 have HG := Aside0.mk hG
 clear hG
 have HB := Aside0.mk (Below.refl w.heap.size w)
 have H := h
 clear h
 unfold impl_LinesOf.f at H
 replace H := its_cd_cd H; rcases H with ⟨c2, c2b0, H⟩ | ⟨c2, c2b0, H⟩
 ·have c2b1 : decide (800 < a0.size) = true := decide_eq_true (by omega)
  clear c2
  simp only [Option.some.injEq, Prod.mk.injEq] at H
  obtain ⟨rfl, rfl⟩ := H
  go_enter Tryz.func119, Tryz.ntmps119
  go_wp2
  go_ret2
  exact ⟨_, zr, zn, zB⟩
 ·have c2b1 : decide (800 < a0.size) = false := decide_eq_false (by omega)
  clear c2
  replace H := bnd H; obtain ⟨⟨t101, t102⟩, A3, H⟩ := H
  dsimp only at H
  simp only [Option.some.injEq, Prod.mk.injEq] at H
  obtain ⟨rfl, rfl⟩ := H
  go_enter Tryz.func119, Tryz.ntmps119
  go_wp2_with (first | ((with_reducible refine gate_callee (f := 158) rfl ?_); refine gl 8 Tryz.func158 _ ((impl_split.calls (w := _) (hG := gB) (h := A3.out)).mono ?_); rintro e w4 ⟨v103, rfl, ho0, hb⟩; refine ⟨_, rfl, ?_⟩; have HO104 := lS ho0; replace HB := bS hb; clear hb ho0))
  go_ret2
  exact ⟨_, zr, rO HO104, zB⟩
def impl_DotPut.f (l0 : List ByteArray) : Option (ByteArray) := (impl_isBody.f l0).bind fun t101 => (if t101 = true then ((impl_dotted.f l0).bind fun t102 => (some t102)) else (some (⟨#[]⟩ : ByteArray)))
set_option maxHeartbeats 8000000 in
set_option maxRecDepth 100000 in
theorem impl_DotPut.calls (A0 : Option Addr) (c0 : Nat) (l0 : List ByteArray) (r : ByteArray) (w : World) (hr0 : Kd.C Kd.string w A0 l0.length l0) (hc0 : l0.length ≤ c0) (h : impl_DotPut.f l0 = some r) :
  Calls Tryz.prog 121 #[.slice A0 l0.length c0] w fun e w' => e = .returned (.string r) ∧ Below w.heap.size w w' := by
 have HR0 := Aside0.mk hr0
 have HC0 := Aside0.mk hc0
 clear hr0 hc0
 have HB := Aside0.mk (Below.refl w.heap.size w)
 have H := h
 clear h
 unfold impl_DotPut.f at H
 replace H := bnd H; obtain ⟨t101, A2, H⟩ := H
 replace H := itb H; rcases H with ⟨rfl, H⟩ | ⟨rfl, H⟩
 ·replace H := bnd H; obtain ⟨t102, A4, H⟩ := H
  obtain rfl := Option.some.inj H
  go_enter Tryz.func121, Tryz.ntmps121
  go_wp2_with (first | ((with_reducible refine gate_callee (f := 75) rfl ?_); refine gv 4 Tryz.func75 #[.slice A0 l0.length c0] (impl_isBody.calls (w := _) (hr0 := by repeat (first | exact HR0.out | (with_reducible refine Kd.C_alloc ?_ _) | (with_reducible refine Kd.C_drewN ?_ _) | (with_reducible refine Kd.C_drew ?_))) (_hc0 := HC0.out) (h := A2.out)) ?_; rintro w' ⟨nd, rfl⟩) | ((with_reducible refine gate_callee (f := 65) rfl ?_); refine gv 7 Tryz.func65 #[.slice A0 l0.length c0] (impl_dotted.calls (w := _) (hr0 := by repeat (first | exact HR0.out | (with_reducible refine Kd.C_alloc ?_ _) | (with_reducible refine Kd.C_drewN ?_ _) | (with_reducible refine Kd.C_drew ?_))) (_hc0 := HC0.out) (h := A4.out)) ?_; intro w5 hb; replace HB := bS hb; clear hb))
  go_ret
  exact ⟨zr, zB⟩
 ·obtain rfl := Option.some.inj H
  go_enter Tryz.func121, Tryz.ntmps121
  go_wp2_with (first | ((with_reducible refine gate_callee (f := 75) rfl ?_); refine gv 4 Tryz.func75 #[.slice A0 l0.length c0] (impl_isBody.calls (w := _) (hr0 := by repeat (first | exact HR0.out | (with_reducible refine Kd.C_alloc ?_ _) | (with_reducible refine Kd.C_drewN ?_ _) | (with_reducible refine Kd.C_drew ?_))) (_hc0 := HC0.out) (h := A2.out)) ?_; rintro w' ⟨nd, rfl⟩))
  go_ret
  exact ⟨zr, zB⟩
end Go.Proofs.YtbncnjgflhoneaaGreatDoor.F
namespace Go.Proofs.YtbncnjgflhoneaaGreatDoor.F
open Go.RowKit Go.Proofs.YtbncnjgflhoneaaGreatDoor.Hand Go.Proofs.YtbncnjgflhoneaaGreatDoorW.PrintWords Go.Proofs.YtbncnjgflhoneaaGreatDoorW.PrintLast Go.Proofs.YtbncnjgflhoneaaGreatDoorW.PrintMore
attribute [local go_sem] max2_int min2_int max_two min_two max_three min_three max_four min_four
set_option linter.unusedVariables false
set_option linter.unusedSimpArgs false
def impl_DotGet.l0 : Nat → ByteArray → List ByteArray → List ByteArray → Int → Int → Option (List ByteArray × Bool)
 | 0, _, _, _, _, _ => none
 | k + 1, x0, x6, x21, x22, x23 => if x23 < x22 then (if 0 ≤ x23 then (if x23 < (x21.length : Int) then ((strings_TrimPrefix.f (rdOf ByteArray.empty x21 x23) (⟨#[46]⟩ : ByteArray)).bind fun t677 => (if x6.length < 8796093022208 then (impl_DotGet.l0 k x0 (x6 ++ [t677]) x21 x22 (wrap64 (x23 + 1))) else (none))) else (none)) else (none)) else ((impl_DotPut.f x6).bind fun t681 => (if t681.toList = x0.toList then (some (x6, true)) else (some (([] : List ByteArray), false))))
def impl_DotGet.f (k : Nat) (a0 : ByteArray) : Option (List ByteArray × Bool) := (impl_LinesOf.f k a0).bind fun bt668 => (if (bt668.1.length : Int) = 0 then (some (([] : List ByteArray), false)) else (if 0 ≤ (wrap64 ((bt668.1.length : Int) - 1)) then (if (wrap64 ((bt668.1.length : Int) - 1)) ≤ (bt668.1.length : Int) then ((some (bt668.1.take ((wrap64 ((bt668.1.length : Int) - 1)) : Int).toNat : List ByteArray)).bind fun y672 => (impl_DotGet.l0 k a0 ([] : List ByteArray) y672 (y672.length : Int) 0)) else (none)) else (none)))
theorem impl_DotGet.mono_l : ∀ k, (∀ y0 y1 y2 y3 y4, LeO (impl_DotGet.l0 k y0 y1 y2 y3 y4) (impl_DotGet.l0 (k + 1) y0 y1 y2 y3 y4))
 | 0 => fun _ _ _ _ _ r h => by simp [impl_DotGet.l0] at h
 | k + 1 => by
  have ih0 := impl_DotGet.mono_l k
  ·intro y0 y1 y2 y3 y4
   unfold impl_DotGet.l0
   repeat' with_reducible first | apply ih0 | apply impl_LinesOf.mono | exact LeO.refl _ | exact LeO.none _ | apply LeO.ite | refine LeO.bind ?_ fun _ => ?_
theorem impl_DotGet.mono : ∀ a0 k, LeO (impl_DotGet.f k a0) (impl_DotGet.f (k + 1) a0) := by
 intro a0 k
 have ih0 := impl_DotGet.mono_l k
 unfold impl_DotGet.f
 repeat' with_reducible first | apply ih0 | apply impl_LinesOf.mono | exact LeO.refl _ | exact LeO.none _ | apply LeO.ite | refine LeO.bind ?_ fun _ => ?_
set_option maxHeartbeats 8000000 in
set_option maxRecDepth 100000 in
theorem impl_DotGet.calls (k : Nat) (a0 : ByteArray) (r1 : List ByteArray) (r2 : Bool) (w : World) (hG : Laid w) (h : impl_DotGet.f k a0 = some (r1, r2)) :
  Calls Tryz.prog 78 #[.string a0] w fun e w' => ∃ v0_ : Value, e = .returned (.tuple #[v0_, .bool r2]) ∧ Kd.R Kd.string 9 w' w.heap.size (fun _ => True) v0_ r1 ∧ Below w.heap.size w w' := by
 have HG := Aside0.mk hG
 clear hG
 have HB := Aside0.mk (Below.refl w.heap.size w)
 have H := h
 clear h
 unfold impl_DotGet.f at H
 replace H := bnd H; obtain ⟨⟨t668, t669⟩, A2, H⟩ := H
 dsimp only at H
 replace H := its_qn_cqn H; rcases H with ⟨c3b0, c3b1, H⟩ | ⟨c3, c3b0, c3b1, H⟩
 ·simp only [Option.some.injEq, Prod.mk.injEq] at H
  obtain ⟨rfl, rfl⟩ := H
  go_enter Tryz.func78, Tryz.ntmps78
  go_wp2_with (first | ((with_reducible refine gate_callee (f := 119) rfl ?_); refine gl 11 Tryz.func119 _ ((impl_LinesOf.calls (w := _) (hG := gB) (h := A2.out)).mono ?_); rintro e w4 ⟨v670, rfl, ho0, hb⟩; refine ⟨_, rfl, ?_⟩; have HO671 := lS ho0; replace HB := bS hb; clear hb ho0; obtain ⟨Ao5, co5, eo5⟩ := Kd.R_slice HO671.out; subst eo5))
  go_ret2
  exact ⟨_, zr, zn, zB⟩
 ·have c3b2 : ¬ (t668 = []) := fun h_ => c3 (by rw [h_]; rfl)
  obtain ⟨ji6, hji6⟩ : ∃ j_ : Int, (wrap64 ((t668.length : Int) - 1)) = j_ := ⟨_, rfl⟩
  first | rw [hji6] at H | simp only [hji6] at H
  (try rw [hji6] at A2)
  have hji6w : (IntKind.i64.wrap ((t668.length : Int) - 1)) = ji6 := (i64_w _).trans hji6
  replace H := itn_ed H; obtain ⟨c7b0, c7b1, H⟩ := H
  replace H := itn_ed H; obtain ⟨c8b0, c8b1, H⟩ := H
  first | (with_reducible replace H := bns H; obtain ⟨y672, Ny672, H⟩ := H) | (generalize hy_ : (t668.take ((ji6) : Int).toNat : List ByteArray) = y672 at H; have Ny672 := Aside0.mk hy_.symm; clear hy_)
  have H' := Aside0.mk H
  clear H
  go_enter Tryz.func78, Tryz.ntmps78
  go_wp2_with (first | ((with_reducible refine gate_callee (f := 119) rfl ?_); refine gl 11 Tryz.func119 _ ((impl_LinesOf.calls (w := _) (hG := gB) (h := A2.out)).mono ?_); rintro e w9 ⟨v670, rfl, ho0, hb⟩; refine ⟨_, rfl, ?_⟩; have HO671 := lS ho0; replace HB := bS hb; clear hb ho0; obtain ⟨Ao10, co10, eo10⟩ := Kd.R_slice HO671.out; subst eo10; have q11 : ((ji6) : Int) ≤ ((t668.length : Int) : Int) := of_decide_eq_true za; obtain ⟨i011, hi011, _, hsz11, _⟩ := info_parts info9; have hroom11 : t668.length ≤ co10 := (Kd.R_reads' HO671.out).2.1; have hC11 : Kd.C Kd.string _ Ao10 t668.length t668 := (Kd.R_reads' HO671.out).2.2; have hcut11 := cut_to (P := Tryz.prog) 25 9 .i64 Tryz.underlying25 hi011 Ao10 t668.length co10 (ji6) (of_decide_eq_true za) q11 hroom11; have hr11 := Kd.C_take (m := ((ji6) : Int).toNat) hC11 (by omega); have hy11 : y672.length = ((ji6) : Int).toNat := (by rw [Ny672.out, List.length_take]; omega); rw [← Ny672.out] at hr11; rw [← hy11] at hcut11; have HR675 := Aside0.mk hr11; have HC675 := Aside0.mk (show y672.length ≤ co10 from by omega); clear hr11 hC11 hroom11 hi011 hsz11; have KY11 := Aside0.mk hy11; clear hy11; have KL11 := Aside0.mk (show ((ji6) : Int).toNat ≤ t668.length from by omega); replace q11 := eq_true q11))
  have HW9 := HB
  go_loopg [6, 23] k (fun kq v6 v23 w' => ∃ (x6_1 : List ByteArray) (x23_1 : Int), v23 = .int .i64 x23_1 ∧ Aside0 (impl_DotGet.l0 kq a0 x6_1 y672 (y672.length : Int) x23_1 = some (r1, r2)) ∧ Aside0 (kq ≤ k) ∧ Aside0 (Kd.R Kd.string 9 w' w9.heap.size (fun _ => True) v6 x6_1) ∧ Aside0 (Below w9.heap.size w9 w'))
  case atStart => exact ⟨(([] : List ByteArray)), (0), zs, H', ⟨Nat.le_refl _⟩, ⟨zn⟩, ⟨Below.refl _ _⟩⟩
  case round =>
   clear H'
   obtain ⟨x6_1, x23_1, rfl, HA, HK1, HO_6, HB⟩ := hrel
   cases gk with
   | zero => exact absurd HA.out (by simp [impl_DotGet.l0])
   | succ k1 =>
    have H := HA.out
    clear HA
    simp only [impl_DotGet.l0] at H
    replace H := its_d_d H; rcases H with ⟨c12b0, H⟩ | ⟨c12b0, H⟩
    ·replace H := itn_d H; obtain ⟨c13b0, H⟩ := H
     replace H := itn_d H; obtain ⟨c14b0, H⟩ := H
     replace H := bnd H; obtain ⟨t677, A15, H⟩ := H
     replace H := itn_L H; obtain ⟨LMc16, H⟩ := H
     first | (with_reducible replace H := bns H; obtain ⟨y678, Ny678, H⟩ := H) | (generalize hy_ : (x6_1 ++ [t677] : List ByteArray) = y678 at H; have Ny678 := Aside0.mk hy_.symm; clear hy_)
     have H' := Aside0.mk H
     clear H
     have p676 : 0 ≤ (x23_1 : Int) := of_decide_eq_true za
     have q676 : x23_1 < (y672.length : Int) := of_decide_eq_true za
     obtain ⟨ad676, e676, hx676_0⟩ := Kd.at_string HR675.out x23_1 p676 q676
     cases e676
     replace hx676_0 := (HB.out.cell (World.block_lt_of_cell? w9 _ hx676_0)).trans hx676_0
     replace p676 := eq_true p676
     replace q676 := eq_true q676
     go_wp2_with (first | ((with_reducible refine gate_callee (f := 120) rfl ?_); refine gv 29 Tryz.func120 _ (strings_TrimPrefix.calls (w := _) (h := A15.out)) ?_; rintro w' ⟨nd, rfl⟩) | ((with_reducible refine gate_builtin (b := .append) (xs := #[.tmp 27, .tmp 30]) rfl ?_); at_builtin; refine Kd.R_append Kd.string (w0 := w9) w9.heap.size rfl (.tmp 27) (.tmp 30) 25 9 (.string ⟨#[]⟩) 16 rfl Tryz.underlying25 info9 rfl (by decide) (by omega) u6 x6_1 t677 [.string t677] (fun _ => True) (fun _ => False) rfl rfl ?aP (fun _ hk => hk.elim) ?aF ?aO ?aB ?aS ?aL ?_; (case aP => exact rfl); (case aB => exact zB); (case aF => exact (fun _ _ => trivial)); (case aO => exact (rO HO_6)); (case aS => exact (bZ)); (case aL => have := LMc16.out; omega); intro v679 w17 ho hb hg hat; rw [← Ny678.out] at ho; have n0_ := Aside0.mk (hb); have n1_ := Aside0.mk (ho); clear HB HO_6; have HB := n0_; have HO680 := n1_; clear n0_ n1_ ho hb hg hat))
     go_roundg k1
     case measure => have := HK1.out; omega
     case rel => exact ⟨(y678), (wrap64 (x23_1 + 1)), zs, H', ⟨by have := HK1.out; omega⟩, ⟨rO HO680⟩, ⟨zB⟩⟩
    ·replace H := bnd H; obtain ⟨t681, A18, H⟩ := H
     replace H := its_qn_qn H; rcases H with ⟨c19b0, c19b1, H⟩ | ⟨c19b0, c19b1, H⟩
     ·simp only [Option.some.injEq, Prod.mk.injEq] at H
      obtain ⟨rfl, rfl⟩ := H
      obtain ⟨Ao20, co20, eo20⟩ := Kd.R_slice HO_6.out
      subst eo20
      go_wp2_with (first | ((with_reducible refine gate_callee (f := 121) rfl ?_); refine gv 34 Tryz.func121 #[.slice Ao20 x6_1.length co20] (impl_DotPut.calls (w := _) (hr0 := rC HO_6) (hc0 := cL HO_6) (h := A18.out)) ?_; intro w21 hb; replace HO_6 := rS HO_6 hb; replace HB := bS hb; clear hb))
      go_ret2
      exact ⟨_, by first | rfl | (simp [errW_none, errW_some] <;> rfl) | (simp only [← hji6]; first | rfl | (simp [errW_none, errW_some] <;> rfl)) | (simp [*, errW_none, errW_some] <;> rfl), Kd.R_lower (rO HO_6) HW9.out.size, HW9.out.trans (Below.mono zB HW9.out.size)⟩
     ·simp only [Option.some.injEq, Prod.mk.injEq] at H
      obtain ⟨rfl, rfl⟩ := H
      obtain ⟨Ao22, co22, eo22⟩ := Kd.R_slice HO_6.out
      subst eo22
      go_wp2_with (first | ((with_reducible refine gate_callee (f := 121) rfl ?_); refine gv 34 Tryz.func121 #[.slice Ao22 x6_1.length co22] (impl_DotPut.calls (w := _) (hr0 := rC HO_6) (hc0 := cL HO_6) (h := A18.out)) ?_; intro w23 hb; replace HO_6 := rS HO_6 hb; replace HB := bS hb; clear hb))
      go_ret2
      exact ⟨_, by first | rfl | (simp [errW_none, errW_some] <;> rfl) | (simp only [← hji6]; first | rfl | (simp [errW_none, errW_some] <;> rfl)) | (simp [*, errW_none, errW_some] <;> rfl), zn, HW9.out.trans (Below.mono zB HW9.out.size)⟩
def spec_DotGet.l0 : Nat → ByteArray → List ByteArray → List ByteArray → Int → Option (List ByteArray × Bool)
 | 0, _, _, _, _ => none
 | k + 1, x0, x4, x6, x7 => if (wrap64 (x7 + 1)) < (x4.length : Int) then (if 0 ≤ x7 then (if x7 < (x4.length : Int) then (if (rdOf ByteArray.empty x4 x7).toList = ([] : List UInt8) then (if x6.length < 8796093022208 then (spec_DotGet.l0 k x0 x4 (x6 ++ [rdOf ByteArray.empty x4 x7]) (wrap64 (x7 + 1))) else (none)) else (if 0 < ((rdOf ByteArray.empty x4 x7).size : Int) then (if (bt (rdOf ByteArray.empty x4 x7) 0) = 46 then (if 1 ≤ ((rdOf ByteArray.empty x4 x7).size : Int) then (if x6.length < 8796093022208 then (spec_DotGet.l0 k x0 x4 (x6 ++ [(rdOf ByteArray.empty x4 x7).extract 1 (rdOf ByteArray.empty x4 x7).size]) (wrap64 (x7 + 1))) else (none)) else (none)) else (if x6.length < 8796093022208 then (spec_DotGet.l0 k x0 x4 (x6 ++ [rdOf ByteArray.empty x4 x7]) (wrap64 (x7 + 1))) else (none))) else (none))) else (none)) else (none)) else ((spec_l2BodyOk.f k x6).bind fun t118 => (if t118 = true then ((spec_l2Dots.f k x6).bind fun t119 => (if t119.toList = x0.toList then (some (x6, true)) else (some (([] : List ByteArray), false)))) else (some (([] : List ByteArray), false))))
def spec_DotGet.f (k : Nat) (a0 : ByteArray) : Option (List ByteArray × Bool) := if (a0.size : Int) > 800 then (some (([] : List ByteArray), false)) else ((spec_l2Lines.f k a0).bind fun bt101 => (spec_DotGet.l0 k a0 bt101.1 (([] : List ByteArray)) 0))
theorem spec_DotGet.mono_l : ∀ k, (∀ y0 y1 y2 y3, LeO (spec_DotGet.l0 k y0 y1 y2 y3) (spec_DotGet.l0 (k + 1) y0 y1 y2 y3))
 | 0 => fun _ _ _ _ r h => by simp [spec_DotGet.l0] at h
 | k + 1 => by
  have ih0 := spec_DotGet.mono_l k
  ·intro y0 y1 y2 y3
   unfold spec_DotGet.l0
   repeat' with_reducible first | apply ih0 | apply spec_l2BodyOk.mono | apply spec_l2Dots.mono | apply spec_l2Lines.mono | exact LeO.refl _ | exact LeO.none _ | apply LeO.ite | refine LeO.bind ?_ fun _ => ?_
theorem spec_DotGet.mono : ∀ a0 k, LeO (spec_DotGet.f k a0) (spec_DotGet.f (k + 1) a0) := by
 intro a0 k
 have ih0 := spec_DotGet.mono_l k
 unfold spec_DotGet.f
 repeat' with_reducible first | apply ih0 | apply spec_l2BodyOk.mono | apply spec_l2Dots.mono | apply spec_l2Lines.mono | exact LeO.refl _ | exact LeO.none _ | apply LeO.ite | refine LeO.bind ?_ fun _ => ?_
set_option maxHeartbeats 8000000 in
set_option maxRecDepth 100000 in
theorem spec_DotGet.calls (k : Nat) (a0 : ByteArray) (r1 : List ByteArray) (r2 : Bool) (w : World) (h : spec_DotGet.f k a0 = some (r1, r2)) :
  Calls Tryz.prog 128 #[.string a0] w fun e w' => ∃ v0_ : Value, e = .returned (.tuple #[v0_, .bool r2]) ∧ Kd.R Kd.string 9 w' w.heap.size (fun _ => True) v0_ r1 ∧ Below w.heap.size w w' := by
 have HB := Aside0.mk (Below.refl w.heap.size w)
 have H := h
 clear h
 unfold spec_DotGet.f at H
 replace H := its_cd_cd H; rcases H with ⟨c2, c2b0, H⟩ | ⟨c2, c2b0, H⟩
 ·have c2b1 : decide (800 < a0.size) = true := decide_eq_true (by omega)
  clear c2
  simp only [Option.some.injEq, Prod.mk.injEq] at H
  obtain ⟨rfl, rfl⟩ := H
  go_enter Tryz.func128, Tryz.ntmps128
  go_wp2
  go_ret2
  exact ⟨_, zr, zn, zB⟩
 ·have c2b1 : decide (800 < a0.size) = false := decide_eq_false (by omega)
  clear c2
  replace H := bnd H; obtain ⟨⟨t101, t102⟩, A3, H⟩ := H
  dsimp only at H
  first | (with_reducible replace H := bns H; obtain ⟨y105, Ny105, H⟩ := H) | (generalize hy_ : (([] : List ByteArray) : List ByteArray) = y105 at H; have Ny105 := Aside0.mk hy_.symm; clear hy_)
  have H' := Aside0.mk H
  clear H
  go_enter Tryz.func128, Tryz.ntmps128
  go_wp2_with (first | ((with_reducible refine gate_callee (f := 164) rfl ?_); refine gl 14 Tryz.func164 _ ((spec_l2Lines.calls (w := _) (h := A3.out)).mono ?_); rintro e w4 ⟨v103, rfl, ho0, hb⟩; refine ⟨_, rfl, ?_⟩; have HO104 := lS ho0; replace HB := bS hb; clear hb ho0) | ((with_reducible refine gate_dst (N := 17) rfl ?_); refine Kd.R_lit Kd.string _ 9 ?hg (N := 17) ?hd (xs := ([] : List ByteArray)) (inner := []) (ok := fun _ => True) (okp := fun _ => True) ?hr ?hp (fun _ hk => hk) trivial (Below.refl _ _) (Nat.le_refl _) (by simp) ?_; (case hd => rfl); (case hg => rfl); (case hr => first | (go_simp; done) | (go_simp; rfl)); (case hp => exact (Reps.none _ _)); intro v106 w5 ho6 hb hg_ hnew_; clear hg_ hnew_; (first | rw [← Ny105.out] at ho6 | (simp only [Int.reduceToNat] at ho6; rw [← Ny105.out] at ho6)); have HO107 := Aside0.mk (Kd.R_lower (Kd.R_new' ho6 (Kd.R_lt (rO HO104))) (bZ)); replace HO104 := Aside0.mk (Kd.R_elder' (rO HO104) (Kd.R_base ho6) hb); replace HB := bS hb; clear hb ho6))
  go_loopg [6, 7] k (fun kq v6 v7 w' => ∃ (x6_1 : List ByteArray) (x7_1 : Int), v7 = .int .i64 x7_1 ∧ Aside0 (spec_DotGet.l0 kq a0 t101 x6_1 x7_1 = some (r1, r2)) ∧ Aside0 (kq ≤ k) ∧ Aside0 (Kd.R Kd.string 9 w' w.heap.size (fun k_ => some k_ ≠ (v6 : Value).ownBlock) v103 t101) ∧ Aside0 (Kd.R Kd.string 9 w' w.heap.size (fun k_ => some k_ ≠ (v103 : Value).ownBlock) v6 x6_1) ∧ Aside0 (Below w.heap.size w w'))
  case atStart => exact ⟨(y105), (0), zs, H', ⟨Nat.le_refl _⟩, ⟨by (with_reducible repeat (first | apply Kd.R_alloc | apply Kd.R_drewN | apply Kd.R_drew)); exact Kd.R_mono HO104.out (fun _ hk => hk.2)⟩, ⟨by (with_reducible repeat (first | apply Kd.R_alloc | apply Kd.R_drewN | apply Kd.R_drew)); exact Kd.R_mono HO107.out (fun _ hk => hk.2)⟩, ⟨zB⟩⟩
  case round =>
   clear H'
   obtain ⟨x6_1, x7_1, rfl, HA, HK1, HO_4, HO_6, HB⟩ := hrel
   cases gk with
   | zero => exact absurd HA.out (by simp [spec_DotGet.l0])
   | succ k1 =>
    have H := HA.out
    clear HA
    simp only [spec_DotGet.l0] at H
    replace H := its_d_d H; rcases H with ⟨c7b0, H⟩ | ⟨c7b0, H⟩
    ·replace H := itn_d H; obtain ⟨c8b0, H⟩ := H
     replace H := itn_d H; obtain ⟨c9b0, H⟩ := H
     replace H := its_qn_qn H; rcases H with ⟨c10b0, c10b1, H⟩ | ⟨c10b0, c10b1, H⟩
     ·replace H := itn_L H; obtain ⟨LMc11, H⟩ := H
      first | (with_reducible replace H := bns H; obtain ⟨y109, Ny109, H⟩ := H) | (generalize hy_ : (x6_1 ++ [rdOf ByteArray.empty t101 x7_1] : List ByteArray) = y109 at H; have Ny109 := Aside0.mk hy_.symm; clear hy_)
      have H' := Aside0.mk H
      clear H
      obtain ⟨Ao12, co12, eo12⟩ := Kd.R_slice HO_4.out
      subst eo12
      have p108 : 0 ≤ (x7_1 : Int) := of_decide_eq_true za
      have q108 : x7_1 < (t101.length : Int) := of_decide_eq_true za
      obtain ⟨ad108, e108, hx108_0⟩ := Kd.at_string (Kd.R_reads' HO_4.out).2.2 x7_1 p108 q108
      cases e108
      replace p108 := eq_true p108
      replace q108 := eq_true q108
      go_wp2_with (first | ((with_reducible refine gate_builtin (b := .append) (xs := #[.tmp 38, .tmp 40]) rfl ?_); at_builtin; refine Kd.R_append Kd.string (w0 := w) w.heap.size rfl (.tmp 38) (.tmp 40) 25 9 (.string ⟨#[]⟩) 16 rfl Tryz.underlying25 info9 rfl (by decide) (by omega) u6 x6_1 (rdOf ByteArray.empty t101 x7_1) [.string (rdOf ByteArray.empty t101 x7_1)] (fun k_ => some k_ ≠ (.slice (some ad108) t101.length co12 : Value).ownBlock) (fun _ => False) rfl rfl ?aP (fun _ hk => hk.elim) ?aF ?aO ?aB ?aS ?aL ?_; (case aP => exact rfl); (case aB => exact zB); (case aF => exact (fun k_ hk => Kd.fresh' (Kd.R_lt (rO HO_4)) k_ hk)); (case aO => exact (rO HO_6)); (case aS => exact (bZ)); (case aL => have := LMc11.out; omega); intro v110 w13 ho hb hg hat; rw [← Ny109.out] at ho; have n0_ := Aside0.mk (Kd.R_after (ok := (fun _ => True)) (by (with_reducible repeat (first | apply Kd.R_alloc | apply Kd.R_drewN | apply Kd.R_drew)); exact Kd.R_mono HO_4.out (fun _ hk => ⟨trivial, hk⟩)) hg hat); have n1_ := Aside0.mk (hb); have n2_ := Aside0.mk (ho); clear HO_4 HB HO_6; have HO_4 := n0_; have HB := n1_; have HO111 := n2_; clear n0_ n1_ n2_ ho hb hg hat))
      go_roundg k1
      case measure => have := HK1.out; omega
      case rel => exact ⟨(y109), (wrap64 (x7_1 + 1)), zs, H', ⟨by have := HK1.out; omega⟩, ⟨by (with_reducible repeat (first | apply Kd.R_alloc | apply Kd.R_drewN | apply Kd.R_drew)); exact Kd.R_mono HO_4.out (fun _ hk => hk.2)⟩, ⟨rO HO111⟩, ⟨zB⟩⟩
     ·replace H := itn_cd H; obtain ⟨c14, c14b0, H⟩ := H
      have c14b1 : decide (0 < (rdOf ByteArray.empty t101 x7_1).size) = true := decide_eq_true (by omega)
      clear c14
      replace H := its_qn_qn H; rcases H with ⟨c16b0, c16b1, H⟩ | ⟨c16b0, c16b1, H⟩
      ·replace H := itn_ed H; obtain ⟨c17b0, c17b1, H⟩ := H
       replace H := itn_L H; obtain ⟨LMc18, H⟩ := H
       first | (with_reducible replace H := bns H; obtain ⟨y112, Ny112, H⟩ := H) | (generalize hy_ : (x6_1 ++ [(rdOf ByteArray.empty t101 x7_1).extract 1 (rdOf ByteArray.empty t101 x7_1).size] : List ByteArray) = y112 at H; have Ny112 := Aside0.mk hy_.symm; clear hy_)
       have H' := Aside0.mk H
       clear H
       obtain ⟨Ao19, co19, eo19⟩ := Kd.R_slice HO_4.out
       subst eo19
       have p108 : 0 ≤ (x7_1 : Int) := of_decide_eq_true za
       have q108 : x7_1 < (t101.length : Int) := of_decide_eq_true za
       obtain ⟨ad108, e108, hx108_0⟩ := Kd.at_string (Kd.R_reads' HO_4.out).2.2 x7_1 p108 q108
       cases e108
       replace p108 := eq_true p108
       replace q108 := eq_true q108
       have p15 : 0 ≤ (0 : Int) := (by omega)
       have q15 : 0 < (rdOf ByteArray.empty t101 x7_1).size := (by have : (0 : Int) < ((rdOf ByteArray.empty t101 x7_1).size : Int) := of_decide_eq_true za; omega)
       have hx15 : ∀ h : 0 < (rdOf ByteArray.empty t101 x7_1).size, (((rdOf ByteArray.empty t101 x7_1)[0]'h).toNat : Int) = bt (rdOf ByteArray.empty t101 x7_1) 0 := bt_at (rdOf ByteArray.empty t101 x7_1) 0
       clear p15
       have qi15 : (0 < ((rdOf ByteArray.empty t101 x7_1).size : Int)) = True := eq_true (of_decide_eq_true za)
       replace q15 := eq_true q15
       go_wp2_with (first | ((with_reducible refine gate_builtin (b := .append) (xs := #[.tmp 38, .tmp 40]) rfl ?_); at_builtin; refine Kd.R_append Kd.string (w0 := w) w.heap.size rfl (.tmp 38) (.tmp 40) 25 9 (.string ⟨#[]⟩) 16 rfl Tryz.underlying25 info9 rfl (by decide) (by omega) u6 x6_1 ((rdOf ByteArray.empty t101 x7_1).extract 1 (rdOf ByteArray.empty t101 x7_1).size) [.string ((rdOf ByteArray.empty t101 x7_1).extract 1 (rdOf ByteArray.empty t101 x7_1).size)] (fun k_ => some k_ ≠ (.slice (some ad108) t101.length co19 : Value).ownBlock) (fun _ => False) rfl rfl ?aP (fun _ hk => hk.elim) ?aF ?aO ?aB ?aS ?aL ?_; (case aP => exact rfl); (case aB => exact zB); (case aF => exact (fun k_ hk => Kd.fresh' (Kd.R_lt (rO HO_4)) k_ hk)); (case aO => exact (rO HO_6)); (case aS => exact (bZ)); (case aL => have := LMc18.out; omega); intro v113 w20 ho hb hg hat; rw [← Ny112.out] at ho; have n0_ := Aside0.mk (Kd.R_after (ok := (fun _ => True)) (by (with_reducible repeat (first | apply Kd.R_alloc | apply Kd.R_drewN | apply Kd.R_drew)); exact Kd.R_mono HO_4.out (fun _ hk => ⟨trivial, hk⟩)) hg hat); have n1_ := Aside0.mk (hb); have n2_ := Aside0.mk (ho); clear HO_4 HB HO_6; have HO_4 := n0_; have HB := n1_; have HO114 := n2_; clear n0_ n1_ n2_ ho hb hg hat))
       go_roundg k1
       case measure => have := HK1.out; omega
       case rel => exact ⟨(y112), (wrap64 (x7_1 + 1)), zs, H', ⟨by have := HK1.out; omega⟩, ⟨by (with_reducible repeat (first | apply Kd.R_alloc | apply Kd.R_drewN | apply Kd.R_drew)); exact Kd.R_mono HO_4.out (fun _ hk => hk.2)⟩, ⟨rO HO114⟩, ⟨zB⟩⟩
      ·replace H := itn_L H; obtain ⟨LMc21, H⟩ := H
       first | (with_reducible replace H := bns H; obtain ⟨y115, Ny115, H⟩ := H) | (generalize hy_ : (x6_1 ++ [rdOf ByteArray.empty t101 x7_1] : List ByteArray) = y115 at H; have Ny115 := Aside0.mk hy_.symm; clear hy_)
       have H' := Aside0.mk H
       clear H
       obtain ⟨Ao22, co22, eo22⟩ := Kd.R_slice HO_4.out
       subst eo22
       have p108 : 0 ≤ (x7_1 : Int) := of_decide_eq_true za
       have q108 : x7_1 < (t101.length : Int) := of_decide_eq_true za
       obtain ⟨ad108, e108, hx108_0⟩ := Kd.at_string (Kd.R_reads' HO_4.out).2.2 x7_1 p108 q108
       cases e108
       replace p108 := eq_true p108
       replace q108 := eq_true q108
       have p15 : 0 ≤ (0 : Int) := (by omega)
       have q15 : 0 < (rdOf ByteArray.empty t101 x7_1).size := (by have : (0 : Int) < ((rdOf ByteArray.empty t101 x7_1).size : Int) := of_decide_eq_true za; omega)
       have hx15 : ∀ h : 0 < (rdOf ByteArray.empty t101 x7_1).size, (((rdOf ByteArray.empty t101 x7_1)[0]'h).toNat : Int) = bt (rdOf ByteArray.empty t101 x7_1) 0 := bt_at (rdOf ByteArray.empty t101 x7_1) 0
       clear p15
       have qi15 : (0 < ((rdOf ByteArray.empty t101 x7_1).size : Int)) = True := eq_true (of_decide_eq_true za)
       replace q15 := eq_true q15
       go_wp2_with (first | ((with_reducible refine gate_builtin (b := .append) (xs := #[.tmp 38, .tmp 40]) rfl ?_); at_builtin; refine Kd.R_append Kd.string (w0 := w) w.heap.size rfl (.tmp 38) (.tmp 40) 25 9 (.string ⟨#[]⟩) 16 rfl Tryz.underlying25 info9 rfl (by decide) (by omega) u6 x6_1 (rdOf ByteArray.empty t101 x7_1) [.string (rdOf ByteArray.empty t101 x7_1)] (fun k_ => some k_ ≠ (.slice (some ad108) t101.length co22 : Value).ownBlock) (fun _ => False) rfl rfl ?aP (fun _ hk => hk.elim) ?aF ?aO ?aB ?aS ?aL ?_; (case aP => exact rfl); (case aB => exact zB); (case aF => exact (fun k_ hk => Kd.fresh' (Kd.R_lt (rO HO_4)) k_ hk)); (case aO => exact (rO HO_6)); (case aS => exact (bZ)); (case aL => have := LMc21.out; omega); intro v116 w23 ho hb hg hat; rw [← Ny115.out] at ho; have n0_ := Aside0.mk (Kd.R_after (ok := (fun _ => True)) (by (with_reducible repeat (first | apply Kd.R_alloc | apply Kd.R_drewN | apply Kd.R_drew)); exact Kd.R_mono HO_4.out (fun _ hk => ⟨trivial, hk⟩)) hg hat); have n1_ := Aside0.mk (hb); have n2_ := Aside0.mk (ho); clear HO_4 HB HO_6; have HO_4 := n0_; have HB := n1_; have HO117 := n2_; clear n0_ n1_ n2_ ho hb hg hat))
       go_roundg k1
       case measure => have := HK1.out; omega
       case rel => exact ⟨(y115), (wrap64 (x7_1 + 1)), zs, H', ⟨by have := HK1.out; omega⟩, ⟨by (with_reducible repeat (first | apply Kd.R_alloc | apply Kd.R_drewN | apply Kd.R_drew)); exact Kd.R_mono HO_4.out (fun _ hk => hk.2)⟩, ⟨rO HO117⟩, ⟨zB⟩⟩
    ·replace H := bnd H; obtain ⟨t118, A24, H⟩ := H
     replace H := itb H; rcases H with ⟨rfl, H⟩ | ⟨rfl, H⟩
     ·replace H := bnd H; obtain ⟨t119, A26, H⟩ := H
      replace H := its_qn_qn H; rcases H with ⟨c27b0, c27b1, H⟩ | ⟨c27b0, c27b1, H⟩
      ·simp only [Option.some.injEq, Prod.mk.injEq] at H
       obtain ⟨rfl, rfl⟩ := H
       obtain ⟨Ao28, co28, eo28⟩ := Kd.R_slice HO_4.out
       subst eo28
       obtain ⟨Ao29, co29, eo29⟩ := Kd.R_slice HO_6.out
       subst eo29
       go_wp2_with (first | ((with_reducible refine gate_callee (f := 100) rfl ?_); refine gv 43 Tryz.func100 #[.slice Ao29 x6_1.length co29] (spec_l2BodyOk.calls (w := _) (hr0 := rC HO_6) (hc0 := cL HO_6) (h := A24.out)) ?_; rintro w' ⟨nd, rfl⟩) | (go_at_call 103; refine (spec_l2Dots.calls (w := _) (hr0 := rC HO_6) (hc0 := cL HO_6) (h := A26.out)).mono ?_; rintro e w' ⟨rfl, ⟨nd, rfl⟩⟩))
       go_ret2
       exact ⟨_, zr, by (with_reducible repeat (first | apply Kd.R_alloc | apply Kd.R_drewN | apply Kd.R_drew)); exact Kd.R_mono HO_6.out (fun _ hk => trivial), zB⟩
      ·simp only [Option.some.injEq, Prod.mk.injEq] at H
       obtain ⟨rfl, rfl⟩ := H
       obtain ⟨Ao30, co30, eo30⟩ := Kd.R_slice HO_4.out
       subst eo30
       obtain ⟨Ao31, co31, eo31⟩ := Kd.R_slice HO_6.out
       subst eo31
       go_wp2_with (first | ((with_reducible refine gate_callee (f := 100) rfl ?_); refine gv 43 Tryz.func100 #[.slice Ao31 x6_1.length co31] (spec_l2BodyOk.calls (w := _) (hr0 := rC HO_6) (hc0 := cL HO_6) (h := A24.out)) ?_; rintro w' ⟨nd, rfl⟩) | (go_at_call 103; refine (spec_l2Dots.calls (w := _) (hr0 := rC HO_6) (hc0 := cL HO_6) (h := A26.out)).mono ?_; rintro e w' ⟨rfl, ⟨nd, rfl⟩⟩))
       go_ret2
       exact ⟨_, zr, zn, zB⟩
     ·simp only [Option.some.injEq, Prod.mk.injEq] at H
      obtain ⟨rfl, rfl⟩ := H
      obtain ⟨Ao32, co32, eo32⟩ := Kd.R_slice HO_4.out
      subst eo32
      obtain ⟨Ao33, co33, eo33⟩ := Kd.R_slice HO_6.out
      subst eo33
      go_wp2_with (first | ((with_reducible refine gate_callee (f := 100) rfl ?_); refine gv 43 Tryz.func100 #[.slice Ao33 x6_1.length co33] (spec_l2BodyOk.calls (w := _) (hr0 := rC HO_6) (hc0 := cL HO_6) (h := A24.out)) ?_; rintro w' ⟨nd, rfl⟩))
      go_ret2
      exact ⟨_, zr, zn, zB⟩
end Go.Proofs.YtbncnjgflhoneaaGreatDoor.F
namespace Go.Proofs.YtbncnjgflhoneaaGreatDoor.Hand
open Go.RowKit Go.Proofs.YtbncnjgflhoneaaGreatDoor.F Go.Proofs.YtbncnjgflhoneaaGreatDoorW.PrintWords Go.Proofs.YtbncnjgflhoneaaGreatDoorW.PrintLast Go.Proofs.YtbncnjgflhoneaaGreatDoorW.PrintMore
def undot (p : List UInt8) : List UInt8 := if p.head? = some 46 then p.tail else p
def undotB (s : ByteArray) : ByteArray := B (undot s.data.toList)
theorem undot_le (p : List UInt8) : (undot p).length ≤ p.length := by
  unfold undot
  split
  · rw [List.length_tail]; omega
  · exact Nat.le_refl _
theorem undotB_le (s : ByteArray) : (undotB s).size ≤ s.size := by
  unfold undotB
  rw [B_size, ← data_length]
  exact undot_le _
def bodyOf (l : List UInt8) : List ByteArray := ((crlf l).1.map B).dropLast.map undotB
def dotG (l : List UInt8) : List ByteArray × Bool := if (decide (l.length ≤ 800) && (bodyB (bodyOf l) && decide (dotsL (bodyOf l) = l))) = true then (bodyOf l, true) else ([], false)
theorem bodyOf_le (l : List UInt8) : (bodyOf l).length ≤ l.length ∧ ∀ s ∈ bodyOf l, s.size ≤ l.length := by
  have h := crlf_le l
  unfold bodyOf
  refine ⟨by rw [List.length_map, List.length_dropLast, List.length_map]; omega, fun s hs => ?_⟩
  obtain ⟨x, hx, rfl⟩ := List.mem_map.1 hs
  have hx := (List.dropLast_sublist _).subset hx
  obtain ⟨y, hy, rfl⟩ := List.mem_map.1 hx
  have := undotB_le (B y)
  rw [B_size] at this
  have := h.2.1 y hy
  omega
theorem idotput_tells (l : List ByteArray) (h : ∀ s ∈ l, s.size ≤ 1073741824) : impl_DotPut.f l = some (if bodyB l = true then B (dotsL l) else B []) := by
  have hs : l.all smallB = true := List.all_eq_true.2 fun s hs => decide_eq_true (by have := h s hs; omega)
  unfold impl_DotPut.f impl_isBody.f
  rw [if_pos hs, Option.bind_some]
  cases hb : bodyB l
  · rfl
  · have := (body_small hb).2.2
    unfold impl_dotted.f
    rw [if_pos rfl, if_pos (by omega)]
    rfl
theorem idot_from (s : ByteArray) (y : List ByteArray) (hy : y.length ≤ 1073741824) (hys : ∀ x ∈ y, x.size ≤ 1073741824) : ∀ (d i : Nat) (acc : List ByteArray), y.length = i + d → acc.length ≤ i → (∀ x ∈ acc, x.size ≤ 1073741824) →
    Ev (fun k => impl_DotGet.l0 k s acc y (y.length : Int) (i : Int)) (if (if bodyB (acc ++ (y.drop i).map undotB) = true then dotsL (acc ++ (y.drop i).map undotB) else []) = s.data.toList then (acc ++ (y.drop i).map undotB, true) else ([], false)) := by
  intro d
  induction d with
  | zero =>
    intro i acc hi ha hs
    rw [List.drop_eq_nil_of_le (by omega), List.map_nil, List.append_nil]
    refine Ev.step (f := fun _ => some (if (if bodyB acc = true then dotsL acc else []) = s.data.toList then (acc, true) else ([], false))) (fun k => ?_) (Ev.now _)
    rw [impl_DotGet.l0, if_neg (by omega), idotput_tells acc hs, Option.bind_some, toL, toL]
    have e : (if bodyB acc = true then B (dotsL acc) else B []).data.toList = if bodyB acc = true then dotsL acc else [] := by split <;> rw [B_data]
    rw [e]
    generalize (if bodyB acc = true then dotsL acc else []) = z
    by_cases hz : z = s.data.toList
    · rw [if_pos hz, if_pos hz]
    · rw [if_neg hz, if_neg hz]
  | succ d ih =>
    intro i acc hi ha hs
    have hlt : i < y.length := by omega
    have hr : rdOf ByteArray.empty y (i : Int) = y[i] := rdOf_mem' _ y i hlt
    refine Ev.step (f := fun k => impl_DotGet.l0 k s (acc ++ [undotB y[i]]) y (y.length : Int) ((i + 1 : Nat) : Int)) (fun k => ?_) ?_
    · rw [impl_DotGet.l0, if_pos (by omega), if_pos (by omega), if_pos (by omega), hr, trimPrefix_one, Option.bind_some, if_pos (by omega), wrapIn (x := (i : Int) + 1) (by omega) (by omega), show ((i : Int) + 1) = ((i + 1 : Nat) : Int) by omega]
      rfl
    · have h := ih (i + 1) (acc ++ [undotB y[i]]) (by omega) (by rw [List.length_append, List.length_singleton]; omega) (fun x hx => by
        rcases List.mem_append.1 hx with hx | hx
        · exact hs x hx
        · rw [List.mem_singleton] at hx
          subst hx
          have := undotB_le y[i]
          have := hys y[i] (List.getElem_mem hlt)
          omega)
      rw [List.append_assoc, List.singleton_append] at h
      rw [List.drop_eq_getElem_cons hlt, List.map_cons]
      exact h
theorem idot_step (s : ByteArray) (L : List ByteArray) (h0 : L.length ≠ 0) (h1 : L.length ≤ 1073741824) (k : Nat) :
    (if (L.length : Int) = 0 then (some (([] : List ByteArray), false)) else (if 0 ≤ (wrap64 ((L.length : Int) - 1)) then (if (wrap64 ((L.length : Int) - 1)) ≤ (L.length : Int) then ((some (L.take ((wrap64 ((L.length : Int) - 1)) : Int).toNat : List ByteArray)).bind fun y672 => (impl_DotGet.l0 k s ([] : List ByteArray) y672 (y672.length : Int) 0)) else (none)) else (none))) = impl_DotGet.l0 k s ([] : List ByteArray) L.dropLast (L.dropLast.length : Int) 0 := by
  rw [if_neg (by omega), wrapIn (x := (L.length : Int) - 1) (by omega) (by omega), if_pos (by omega), if_pos (by omega), Option.bind_some, show ((L.length : Int) - 1).toNat = L.length - 1 by omega, ← List.dropLast_eq_take]
theorem idotget_tells (s : ByteArray) (hs : s.size ≤ 536870912) : Ev (fun k => impl_DotGet.f k s) (dotG s.data.toList) := by
  have hl := data_length s
  have hc := crlf_le s.data.toList
  unfold dotG
  by_cases h8 : s.size ≤ 800
  · rw [decide_eq_true (p := s.data.toList.length ≤ 800) (by omega), Bool.true_and]
    have hls : Ev (fun k => impl_LinesOf.f k s) ((crlf s.data.toList).1.map B, B (crlf s.data.toList).2) := by
      refine Ev.congr (f := fun k => (impl_split.f k s).bind fun bt101 => (some (bt101.1, bt101.2))) (fun k => ?_) (Ev.call (isplit_tells s (by omega)) (h := fun _ => some ((crlf s.data.toList).1.map B, B (crlf s.data.toList).2)) (fun k => rfl) (Ev.now _))
      unfold impl_LinesOf.f
      rw [if_neg (by omega)]
    unfold impl_DotGet.f
    cases hn : (crlf s.data.toList).1 with
    | nil =>
      rw [hn] at hls
      have e : bodyOf s.data.toList = [] := by unfold bodyOf; rw [hn]; rfl
      have e2 : ¬ dotsL [] = s.data.toList := fun e => by
        have : crlf s.data.toList = ([[46]], []) := by rw [← e]; rfl
        rw [this] at hn
        cases hn
      rw [e, if_neg (by simp [e2])]
      exact Ev.call hls (h := fun _ => some ([], false)) (fun k => if_pos rfl) (Ev.now _)
    | cons a r =>
      have hne : ((crlf s.data.toList).1.map B).length ≠ 0 := by rw [hn]; simp
      have hlen : ((crlf s.data.toList).1.map B).length = (crlf s.data.toList).1.length := List.length_map ..
      refine Ev.call hls (h := fun k => impl_DotGet.l0 k s ([] : List ByteArray) ((crlf s.data.toList).1.map B).dropLast ((((crlf s.data.toList).1.map B).dropLast.length : Nat) : Int) 0) (fun k => idot_step s _ hne (by omega) k) ?_
      · have hb := idot_from s ((crlf s.data.toList).1.map B).dropLast (by rw [List.length_dropLast]; omega) (fun x hx => by
          have hx := (List.dropLast_sublist _).subset hx
          obtain ⟨y, hy, rfl⟩ := List.mem_map.1 hx
          have := hc.2.1 y hy
          rw [B_size]; omega) ((crlf s.data.toList).1.map B).dropLast.length 0 [] (by omega) (Nat.le_refl _) (fun _ h => by cases h)
        rw [List.drop_zero, List.nil_append] at hb
        have e : ((crlf s.data.toList).1.map B).dropLast.map undotB = bodyOf s.data.toList := rfl
        rw [e] at hb
        have hs0 : ¬ ([] : List UInt8) = s.data.toList := fun e => by rw [← e] at hn; cases hn
        cases hbb : bodyB (bodyOf s.data.toList)
        · rw [hbb] at hb
          rw [Bool.false_and, if_neg (by decide)]
          rw [if_neg (by decide : ¬ false = true), if_neg hs0] at hb
          exact hb
        · rw [hbb] at hb
          rw [Bool.true_and]
          rw [if_pos rfl] at hb
          by_cases hd : dotsL (bodyOf s.data.toList) = s.data.toList
          · rw [if_pos hd] at hb
            rw [if_pos (decide_eq_true hd)]
            exact hb
          · rw [if_neg hd] at hb
            rw [if_neg (by simpa using hd)]
            exact hb
  · rw [decide_eq_false (p := s.data.toList.length ≤ 800) (by omega), Bool.false_and, if_neg (by decide)]
    refine Ev.congr (f := fun _ => some ([], false)) (fun k => ?_) (Ev.now _)
    unfold impl_DotGet.f impl_LinesOf.f
    rw [if_pos (by omega), Option.bind_some]
    exact if_pos rfl
theorem sdot_from (s : ByteArray) (L : List ByteArray) (hL : L.length ≤ 1073741824) (hLs : ∀ x ∈ L, x.size ≤ 1073741824) : ∀ (d i : Nat) (acc : List ByteArray), L.dropLast.length = i + d → acc.length ≤ i → (∀ x ∈ acc, x.size ≤ 1073741824) →
    Ev (fun k => spec_DotGet.l0 k s L acc (i : Int)) (if (bodyB (acc ++ (L.dropLast.drop i).map undotB) && decide (dotsL (acc ++ (L.dropLast.drop i).map undotB) = s.data.toList)) = true then (acc ++ (L.dropLast.drop i).map undotB, true) else ([], false)) := by
  have hdl : L.dropLast.length = L.length - 1 := List.length_dropLast
  intro d
  induction d with
  | zero =>
    intro i acc hi ha hs
    rw [List.drop_eq_nil_of_le (by omega), List.map_nil, List.append_nil]
    refine Ev.step (f := fun k => (spec_l2BodyOk.f k acc).bind fun t118 => (if t118 = true then ((spec_l2Dots.f k acc).bind fun t119 => (if t119.toList = s.toList then (some (acc, true)) else (some (([] : List ByteArray), false)))) else (some (([] : List ByteArray), false)))) (fun k => by
      rw [spec_DotGet.l0, wrapIn (x := (i : Int) + 1) (by omega) (by omega), if_neg (by omega)]) ?_
    have hb := sbody_tells acc (by omega) (fun x hx => by have := hs x hx; omega)
    cases hbb : bodyB acc
    · rw [hbb] at hb
      exact Ev.call hb (h := fun _ => some ([], false)) (fun k => if_neg (by decide)) (Ev.now _)
    · rw [hbb] at hb
      have hsm := body_small hbb
      refine Ev.call hb (fun k => if_pos rfl) (Ev.call (sdots_tells acc (by omega) (by omega)) (h := fun _ => some (if (true && decide (dotsL acc = s.data.toList)) = true then (acc, true) else ([], false))) (fun k => ?_) (Ev.now _))
      rw [B_toList, toL, Bool.true_and]
      by_cases hd : dotsL acc = s.data.toList
      · rw [if_pos hd, if_pos (decide_eq_true hd)]
      · rw [if_neg hd, if_neg (by simpa using hd)]
  | succ d ih =>
    intro i acc hi ha hs
    have hlt : i < L.length := by omega
    have hlt' : i < L.dropLast.length := by omega
    have hr : rdOf ByteArray.empty L (i : Int) = L[i] := rdOf_mem' _ L i hlt
    have hsz := hLs L[i] (List.getElem_mem hlt)
    have hl := data_length L[i]
    refine Ev.step (f := fun k => spec_DotGet.l0 k s L (acc ++ [undotB L[i]]) ((i + 1 : Nat) : Int)) (fun k => ?_) ?_
    · rw [spec_DotGet.l0, wrapIn (x := (i : Int) + 1) (by omega) (by omega), if_pos (by omega), if_pos (by omega), if_pos (by omega), hr, toL, show ((i : Int) + 1) = ((i + 1 : Nat) : Int) by omega]
      cases hd : L[i].data.toList with
      | nil =>
        have e : undotB L[i] = L[i] := by unfold undotB undot; rw [hd, if_neg (by simp), ← hd, B_of]
        rw [if_pos rfl, if_pos (by omega), e]
      | cons x r =>
        have h0 : 0 < L[i].size := by rw [hd, List.length_cons] at hl; omega
        have hb0 : bt L[i] 0 = (x.toNat : Int) := by
          rw [show (0 : Int) = ((0 : Nat) : Int) from rfl, bt_get L[i] 0 (by omega)]
          simp only [hd, List.getElem_cons_zero]
        rw [if_neg (by simp), if_pos (by omega), hb0]
        by_cases hx : x = 46
        · have e : undotB L[i] = L[i].extract 1 L[i].size := by unfold undotB undot; rw [hd, if_pos (by rw [hx]; rfl), tail_of, hd]
          rw [if_pos (by rw [hx]; rfl), if_pos (by omega), if_pos (by omega), e]
        · have e : undotB L[i] = L[i] := by unfold undotB undot; rw [hd, if_neg (by simp [hx]), ← hd, B_of]
          rw [if_neg (fun e => hx (UInt8.toNat_inj.1 (by show _ = 46; omega))), if_pos (by omega), e]
    · have h := ih (i + 1) (acc ++ [undotB L[i]]) (by omega) (by rw [List.length_append, List.length_singleton]; omega) (fun x hx => by
        rcases List.mem_append.1 hx with hx | hx
        · exact hs x hx
        · rw [List.mem_singleton] at hx
          subst hx
          have := undotB_le L[i]
          omega)
      rw [List.append_assoc, List.singleton_append] at h
      rw [List.drop_eq_getElem_cons hlt', List.map_cons, List.getElem_dropLast]
      exact h
theorem sdotget_tells (s : ByteArray) (hs : s.size ≤ 536870912) : Ev (fun k => spec_DotGet.f k s) (dotG s.data.toList) := by
  have hl := data_length s
  have hc := crlf_le s.data.toList
  unfold dotG
  by_cases h8 : s.size ≤ 800
  · rw [decide_eq_true (p := s.data.toList.length ≤ 800) (by omega), Bool.true_and]
    refine Ev.congr (f := fun k => (spec_l2Lines.f k s).bind fun bt101 => (spec_DotGet.l0 k s bt101.1 (([] : List ByteArray)) 0)) (fun k => ?_) ?_
    · unfold spec_DotGet.f
      rw [if_neg (by omega)]
    · refine Ev.bind (slines_tells s (by omega)) ?_
      have h := sdot_from s ((crlf s.data.toList).1.map B) (by rw [List.length_map]; omega) (fun x hx => by
        obtain ⟨y, hy, rfl⟩ := List.mem_map.1 hx
        have := hc.2.1 y hy
        rw [B_size]; omega) _ 0 [] (Nat.zero_add _).symm (Nat.le_refl _) (fun _ h => by cases h)
      rw [List.drop_zero, List.nil_append] at h
      exact h
  · rw [decide_eq_false (p := s.data.toList.length ≤ 800) (by omega), Bool.false_and, if_neg (by decide)]
    refine Ev.congr (f := fun _ => some ([], false)) (fun k => ?_) (Ev.now _)
    unfold spec_DotGet.f
    rw [if_pos (by omega)]
theorem body_signs {l : List ByteArray} (h : bodyB l = true) : ∀ s ∈ l, (13 : UInt8) ∉ s.data.toList := by
  unfold bodyB at h
  rw [Bool.and_eq_true] at h
  intro s hs hx
  have := List.all_eq_true.1 h.2 s hs
  unfold lineB at this
  rw [Bool.and_eq_true] at this
  exact absurd (List.all_eq_true.1 this.1 13 hx) (by decide)
def dotted (s : ByteArray) : List UInt8 := (if s.data.toList.head? = some 46 then [46] else []) ++ s.data.toList
theorem undot_dotted (s : ByteArray) : undot (dotted s) = s.data.toList := by
  unfold undot dotted
  by_cases h : s.data.toList.head? = some 46
  · rw [if_pos h, if_pos (by rfl)]
    rfl
  · rw [if_neg h, List.nil_append, if_neg h]
theorem crlf_dots : ∀ l : List ByteArray, (∀ s ∈ l, (13 : UInt8) ∉ s.data.toList) → crlf (dotsL l) = (l.map dotted ++ [[46]], [])
  | [], _ => rfl
  | s :: l, h => by
    have e : dotsL (s :: l) = dotted s ++ 13 :: 10 :: dotsL l := by
      unfold dotsL dotted dotL
      simp
    have hn : (13 : UInt8) ∉ dotted s := by
      unfold dotted
      rw [List.mem_append, not_or]
      refine ⟨?_, h s (by simp)⟩
      split <;> simp
    rw [e, crlf_line _ _ hn, crlf_dots l (fun x hx => h x (by simp [hx]))]
    rfl
theorem dotG_text {l : List ByteArray} (h : bodyB l = true) : dotG (dotsL l) = (l, true) := by
  have hb : bodyOf (dotsL l) = l := by
    unfold bodyOf
    rw [crlf_dots l (body_signs h), List.map_append, List.map_singleton, List.dropLast_concat, List.map_map, List.map_map]
    have : ((undotB ∘ B) ∘ dotted) = (id : ByteArray → ByteArray) := by
      funext s
      show undotB (B (dotted s)) = s
      unfold undotB
      rw [B_data, undot_dotted, B_of]
    rw [this, List.map_id]
  have hs := (body_small h).2.2
  unfold dotG
  rw [hb, h, if_pos (by simp; omega)]
theorem dotG_small (l : List UInt8) : (dotG l).1.length ≤ 1073741824 ∧ ∀ s ∈ (dotG l).1, s.size ≤ 1073741824 := by
  unfold dotG
  split
  · rename_i h
    rw [Bool.and_eq_true, Bool.and_eq_true] at h
    have hs := body_small h.2.1
    exact ⟨by show (bodyOf l).length ≤ _; omega, fun s hs' => by have := hs.2.1 s hs'; omega⟩
  · exact ⟨by show (0 : Nat) ≤ _; omega, fun s hs' => absurd (show s ∈ ([] : List ByteArray) from hs') (by simp)⟩
end Go.Proofs.YtbncnjgflhoneaaGreatDoor.Hand
