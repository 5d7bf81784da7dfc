/- Of this claim, merged by program: F158, F164, F159, F120, Q6, Q7. -/
import Derived.Test.YtbncnjgflhoneaaGreatDoorG02
import Derived.Test.YtbncnjgflhoneaaGreatDoorG03
import Derived.Test.YtbncnjgflhoneaaGreatDoorG12
import Derived.Test.YtbncnjgflhoneaaGreatDoorG13
import Derived.Test.YtbncnjgflhoneaaGreatDoorG14
namespace Go.Proofs.YtbncnjgflhoneaaGreatDoor.F
open Go.RowKit Go.Proofs.YtbncnjgflhoneaaGreatDoor.Hand Go.Proofs.YtbncnjgflhoneaaGreatDoorW.PrintWords Go.Proofs.YtbncnjgflhoneaaGreatDoorW.PrintLast Go.Proofs.YtbncnjgflhoneaaGreatDoorW.PrintMore
attribute [local go_sem] max2_int min2_int max_two min_two max_three min_three max_four min_four
set_option linter.unusedVariables false
set_option linter.unusedSimpArgs false
def impl_split.l0 : Nat → ByteArray → List ByteArray → Option (List ByteArray × ByteArray)
 | 0, _, _ => none
 | k + 1, x0, x4 => (strings_Cut.f x0 (⟨#[13, 10]⟩ : ByteArray)).bind fun bt101 => (if bt101.2.2 = true then (if x4.length < 8796093022208 then (impl_split.l0 k bt101.2.1 (x4 ++ [bt101.1])) else (none)) else (some (x4, x0)))
def impl_split.f (k : Nat) (a0 : ByteArray) : Option (List ByteArray × ByteArray) := impl_split.l0 k a0 ([] : List ByteArray)
theorem impl_split.mono_l : ∀ k, (∀ y0 y1, LeO (impl_split.l0 k y0 y1) (impl_split.l0 (k + 1) y0 y1))
 | 0 => fun _ _ r h => by simp [impl_split.l0] at h
 | k + 1 => by
  have ih0 := impl_split.mono_l k
  ·intro y0 y1
   unfold impl_split.l0
   repeat' with_reducible first | apply ih0 | exact LeO.refl _ | exact LeO.none _ | apply LeO.ite | refine LeO.bind ?_ fun _ => ?_
theorem impl_split.mono : ∀ a0 k, LeO (impl_split.f k a0) (impl_split.f (k + 1) a0) := by
 intro a0 k
 have ih0 := impl_split.mono_l k
 unfold impl_split.f
 repeat' with_reducible first | apply ih0 | exact LeO.refl _ | exact LeO.none _ | apply LeO.ite | refine LeO.bind ?_ fun _ => ?_
set_option maxHeartbeats 8000000 in
set_option maxRecDepth 100000 in
theorem impl_split.calls (k : Nat) (a0 : ByteArray) (r1 : List ByteArray) (r2 : ByteArray) (w : World) (hG : Laid w) (h : impl_split.f k a0 = some (r1, r2)) :
  Calls Tryz.prog 158 #[.string a0] w fun e w' => ∃ v0_ : Value, e = .returned (.tuple #[v0_, .string r2]) ∧ Kd.R Kd.string 9 w' w.heap.size (fun _ => True) v0_ r1 ∧ Below w.heap.size w w' := by
 have HG := Aside0.mk hG
 clear hG
 have HB := Aside0.mk (Below.refl w.heap.size w)
 have H := h
 clear h
 unfold impl_split.f at H
 have H' := Aside0.mk H
 clear H
 go_enter Tryz.func158, Tryz.ntmps158
 go_wp2
 go_loopg [0, 4] k (fun kq v0 v4 w' => ∃ (x0_1 : ByteArray) (x4_1 : List ByteArray), v0 = .string x0_1 ∧ Aside0 (impl_split.l0 kq x0_1 x4_1 = some (r1, r2)) ∧ Aside0 (kq ≤ k) ∧ Aside0 (Kd.R Kd.string 9 w' w.heap.size (fun _ => True) v4 x4_1) ∧ Aside0 (Below w.heap.size w w'))
 case atStart => exact ⟨(a0), (([] : List ByteArray)), zs, H', ⟨Nat.le_refl _⟩, ⟨zn⟩, ⟨zB⟩⟩
 case round =>
  clear H'
  obtain ⟨x0_1, x4_1, rfl, HA, HK1, HO_4, HB⟩ := hrel
  cases gk with
  | zero => exact absurd HA.out (by simp [impl_split.l0])
  | succ k1 =>
   have H := HA.out
   clear HA
   simp only [impl_split.l0] at H
   replace H := bnd H; obtain ⟨⟨t101, t102, t103⟩, A2, H⟩ := H
   dsimp only at H
   replace H := itb H; rcases H with ⟨rfl, H⟩ | ⟨rfl, H⟩
   ·replace H := itn_L H; obtain ⟨LMc4, H⟩ := H
    first | (with_reducible replace H := bns H; obtain ⟨y104, Ny104, H⟩ := H) | (generalize hy_ : (x4_1 ++ [t101] : List ByteArray) = y104 at H; have Ny104 := Aside0.mk hy_.symm; clear hy_)
    have H' := Aside0.mk H
    clear H
    go_wp2_with (first | ((with_reducible refine gate_callee (f := 39) rfl ?_); refine gv 10 Tryz.func39 _ (strings_Cut.calls (w := _) (hG := gB) (h := A2.out)) ?_; rintro w' ⟨nd, rfl⟩) | ((with_reducible refine gate_builtin (b := .append) (xs := #[.tmp 18, .tmp 20]) rfl ?_); at_builtin; refine Kd.R_append Kd.string (w0 := w) w.heap.size rfl (.tmp 18) (.tmp 20) 25 9 (.string ⟨#[]⟩) 16 rfl Tryz.underlying25 info9 rfl (by decide) (by omega) u4 x4_1 t101 [.string t101] (fun _ => True) (fun _ => False) rfl rfl ?aP (fun _ hk => hk.elim) ?aF ?aO ?aB ?aS ?aL ?_; (case aP => exact rfl); (case aB => exact zB); (case aF => exact (fun _ _ => trivial)); (case aO => exact (rO HO_4)); (case aS => exact (bZ)); (case aL => have := LMc4.out; omega); intro v105 w5 ho hb hg hat; rw [← Ny104.out] at ho; have n0_ := Aside0.mk (hb); have n1_ := Aside0.mk (ho); clear HB HO_4; have HB := n0_; have HO106 := n1_; clear n0_ n1_ ho hb hg hat))
    go_roundg k1
    case measure => have := HK1.out; omega
    case rel => exact ⟨(t102), (y104), zs, H', ⟨by have := HK1.out; omega⟩, ⟨rO HO106⟩, ⟨zB⟩⟩
   ·simp only [Option.some.injEq, Prod.mk.injEq] at H
    obtain ⟨rfl, rfl⟩ := H
    go_wp2_with (first | ((with_reducible refine gate_callee (f := 39) rfl ?_); refine gv 10 Tryz.func39 _ (strings_Cut.calls (w := _) (hG := gB) (h := A2.out)) ?_; rintro w' ⟨nd, rfl⟩))
    go_ret2
    exact ⟨_, zr, rO HO_4, zB⟩
def spec_l2Lines.l0 : Nat → ByteArray → List ByteArray → Int → Int → Option (List ByteArray × ByteArray)
 | 0, _, _, _, _ => none
 | k + 1, x0, x4, x5, x6 => if (wrap64 (x6 + 1)) < (x0.size : Int) then (if 0 ≤ x6 then (if x6 < (x0.size : Int) then (if (bt x0 x6) = 13 then (if 0 ≤ (wrap64 (x6 + 1)) then (if (bt x0 (wrap64 (x6 + 1))) = 10 then (if 0 ≤ x5 then (if x5 ≤ x6 then (if x6 ≤ (x0.size : Int) then (if x4.length < 8796093022208 then (spec_l2Lines.l0 k x0 (x4 ++ [x0.extract (x5 : Int).toNat (x6 : Int).toNat]) (wrap64 ((wrap64 (x6 + 1)) + 1)) (wrap64 ((wrap64 (x6 + 1)) + 1))) else (none)) else (none)) else (none)) else (none)) else (spec_l2Lines.l0 k x0 x4 x5 (wrap64 (x6 + 1)))) else (none)) else (spec_l2Lines.l0 k x0 x4 x5 (wrap64 (x6 + 1)))) else (none)) else (none)) else (if 0 ≤ x5 then (if x5 ≤ (x0.size : Int) then (some (x4, x0.extract (x5 : Int).toNat x0.size)) else (none)) else (none))
def spec_l2Lines.f (k : Nat) (a0 : ByteArray) : Option (List ByteArray × ByteArray) := spec_l2Lines.l0 k a0 (([] : List ByteArray)) 0 0
theorem spec_l2Lines.mono_l : ∀ k, (∀ y0 y1 y2 y3, LeO (spec_l2Lines.l0 k y0 y1 y2 y3) (spec_l2Lines.l0 (k + 1) y0 y1 y2 y3))
 | 0 => fun _ _ _ _ r h => by simp [spec_l2Lines.l0] at h
 | k + 1 => by
  have ih0 := spec_l2Lines.mono_l k
  ·intro y0 y1 y2 y3
   unfold spec_l2Lines.l0
   repeat' with_reducible first | apply ih0 | exact LeO.refl _ | exact LeO.none _ | apply LeO.ite | refine LeO.bind ?_ fun _ => ?_
theorem spec_l2Lines.mono : ∀ a0 k, LeO (spec_l2Lines.f k a0) (spec_l2Lines.f (k + 1) a0) := by
 intro a0 k
 have ih0 := spec_l2Lines.mono_l k
 unfold spec_l2Lines.f
 repeat' with_reducible first | apply ih0 | exact LeO.refl _ | exact LeO.none _ | apply LeO.ite | refine LeO.bind ?_ fun _ => ?_
set_option maxHeartbeats 8000000 in
set_option maxRecDepth 100000 in
theorem spec_l2Lines.calls (k : Nat) (a0 : ByteArray) (r1 : List ByteArray) (r2 : ByteArray) (w : World) (h : spec_l2Lines.f k a0 = some (r1, r2)) :
  Calls Tryz.prog 164 #[.string a0] w fun e w' => ∃ v0_ : Value, e = .returned (.tuple #[v0_, .string r2]) ∧ Kd.R Kd.string 9 w' w.heap.size (fun _ => True) v0_ r1 ∧ Below w.heap.size w w' := by
 have HB := Aside0.mk (Below.refl w.heap.size w)
 have H := h
 clear h
 unfold spec_l2Lines.f at H
 first | (with_reducible replace H := bns H; obtain ⟨y101, Ny101, H⟩ := H) | (generalize hy_ : (([] : List ByteArray) : List ByteArray) = y101 at H; have Ny101 := Aside0.mk hy_.symm; clear hy_)
 have H' := Aside0.mk H
 clear H
 go_enter Tryz.func164, Tryz.ntmps164
 go_wp2_with (first | ((with_reducible refine gate_dst (N := 7) rfl ?_); refine Kd.R_lit Kd.string _ 9 ?hg (N := 7) ?hd (xs := ([] : List ByteArray)) (inner := []) (ok := fun _ => True) (okp := fun _ => True) ?hr ?hp (fun _ hk => hk) trivial (Below.refl _ _) (Nat.le_refl _) (by simp) ?_; (case hd => rfl); (case hg => rfl); (case hr => first | (go_simp; done) | (go_simp; rfl)); (case hp => exact (Reps.none _ _)); intro v102 w2 ho3 hb hg_ hnew_; clear hg_ hnew_; (first | rw [← Ny101.out] at ho3 | (simp only [Int.reduceToNat] at ho3; rw [← Ny101.out] at ho3)); have HO103 := lS ho3; replace HB := bS hb; clear hb ho3))
 repeat (go_quiet (first | ((with_reducible refine gate_dst (N := 7) rfl ?_); refine Kd.R_lit Kd.string _ 9 ?hg (N := 7) ?hd (xs := ([] : List ByteArray)) (inner := []) (ok := fun _ => True) (okp := fun _ => True) ?hr ?hp (fun _ hk => hk) trivial (Below.refl _ _) (Nat.le_refl _) (by simp) ?_; (case hd => rfl); (case hg => rfl); (case hr => first | (go_simp; done) | (go_simp; rfl)); (case hp => exact (Reps.none _ _)); intro v102 w2 ho3 hb hg_ hnew_; clear hg_ hnew_; (first | rw [← Ny101.out] at ho3 | (simp only [Int.reduceToNat] at ho3; rw [← Ny101.out] at ho3)); have HO103 := lS ho3; replace HB := bS hb; clear hb ho3)); try go_wp2_with (first | ((with_reducible refine gate_dst (N := 7) rfl ?_); refine Kd.R_lit Kd.string _ 9 ?hg (N := 7) ?hd (xs := ([] : List ByteArray)) (inner := []) (ok := fun _ => True) (okp := fun _ => True) ?hr ?hp (fun _ hk => hk) trivial (Below.refl _ _) (Nat.le_refl _) (by simp) ?_; (case hd => rfl); (case hg => rfl); (case hr => first | (go_simp; done) | (go_simp; rfl)); (case hp => exact (Reps.none _ _)); intro v102 w2 ho3 hb hg_ hnew_; clear hg_ hnew_; (first | rw [← Ny101.out] at ho3 | (simp only [Int.reduceToNat] at ho3; rw [← Ny101.out] at ho3)); have n0_ := lS ho3; have n1_ := bS hb; clear HB; have HO103 := n0_; have HB := n1_; clear n0_ n1_; clear hb ho3)))
 go_loopg [4, 5, 6] k (fun kq v4 v5 v6 w' => ∃ (x4_1 : List ByteArray) (x5_1 : Int) (x6_1 : Int), v5 = .int .i64 x5_1 ∧ v6 = .int .i64 x6_1 ∧ Aside0 (spec_l2Lines.l0 kq a0 x4_1 x5_1 x6_1 = some (r1, r2)) ∧ Aside0 (kq ≤ k) ∧ Aside0 (Kd.R Kd.string 9 w' w.heap.size (fun _ => True) v4 x4_1) ∧ Aside0 (Below w.heap.size w w'))
 case atStart => exact ⟨(y101), (0), (0), zs, zs, H', ⟨Nat.le_refl _⟩, ⟨rO HO103⟩, ⟨zB⟩⟩
 case round =>
  clear H'
  obtain ⟨x4_1, x5_1, x6_1, rfl, rfl, HA, HK1, HO_4, HB⟩ := hrel
  cases gk with
  | zero => exact absurd HA.out (by simp [spec_l2Lines.l0])
  | succ k1 =>
   have H := HA.out
   clear HA
   simp only [spec_l2Lines.l0] at H
   replace H := its_d_d H; rcases H with ⟨c4b0, H⟩ | ⟨c4b0, H⟩
   ·replace H := itn_d H; obtain ⟨c5b0, H⟩ := H
    replace H := itn_d H; obtain ⟨c6b0, H⟩ := H
    replace H := its_qn_qn H; rcases H with ⟨c8b0, c8b1, H⟩ | ⟨c8b0, c8b1, H⟩
    ·obtain ⟨ji9, hji9⟩ : ∃ j_ : Int, (wrap64 (x6_1 + 1)) = j_ := ⟨_, rfl⟩
     first | rw [hji9] at H | simp only [hji9] at H
     (try rw [hji9] at c4b0)
     have hji9w : (IntKind.i64.wrap (x6_1 + 1)) = ji9 := (i64_w _).trans hji9
     replace H := itn_d H; obtain ⟨c10b0, H⟩ := H
     replace H := its_qn_qn H; rcases H with ⟨c12b0, c12b1, H⟩ | ⟨c12b0, c12b1, H⟩
     ·replace H := itn_ed H; obtain ⟨c13b0, c13b1, H⟩ := H
      replace H := itn_ed H; obtain ⟨c14b0, c14b1, H⟩ := H
      replace H := itn_ed H; obtain ⟨c15b0, c15b1, H⟩ := H
      replace H := itn_L H; obtain ⟨LMc16, H⟩ := H
      first | (with_reducible replace H := bns H; obtain ⟨y104, Ny104, H⟩ := H) | (generalize hy_ : (x4_1 ++ [a0.extract (x5_1 : Int).toNat (x6_1 : Int).toNat] : List ByteArray) = y104 at H; have Ny104 := Aside0.mk hy_.symm; clear hy_)
      have H' := Aside0.mk H
      clear H
      have p7 : 0 ≤ (x6_1 : Int) := of_decide_eq_true za
      have q7 : x6_1 < (a0.size : Int) := of_decide_eq_true za
      have hx7 := bt_at a0 x6_1
      replace p7 := eq_true p7
      replace q7 := eq_true q7
      have p11 : 0 ≤ ((ji9) : Int) := of_decide_eq_true za
      have q11 : (ji9) < (a0.size : Int) := of_decide_eq_true za
      have hx11 := bt_at a0 (ji9)
      replace p11 := eq_true p11
      replace q11 := eq_true q11
      go_wp2_with (first | ((with_reducible refine gate_builtin (b := .append) (xs := #[.tmp 26, .tmp 31]) rfl ?_); at_builtin; refine Kd.R_append Kd.string (w0 := w) w.heap.size rfl (.tmp 26) (.tmp 31) 25 9 (.string ⟨#[]⟩) 16 rfl Tryz.underlying25 info9 rfl (by decide) (by omega) u4 x4_1 (a0.extract (x5_1 : Int).toNat (x6_1 : Int).toNat) [.string (a0.extract (x5_1 : Int).toNat (x6_1 : Int).toNat)] (fun _ => True) (fun _ => False) rfl rfl ?aP (fun _ hk => hk.elim) ?aF ?aO ?aB ?aS ?aL ?_; (case aP => exact rfl); (case aB => exact zB); (case aF => exact (fun _ _ => trivial)); (case aO => exact (rO HO_4)); (case aS => exact (bZ)); (case aL => have := LMc16.out; omega); intro v105 w17 ho hb hg hat; rw [← Ny104.out] at ho; have n0_ := Aside0.mk (hb); have n1_ := Aside0.mk (ho); clear HB HO_4; have HB := n0_; have HO106 := n1_; clear n0_ n1_ ho hb hg hat))
      repeat (go_quiet (first | ((with_reducible refine gate_builtin (b := .append) (xs := #[.tmp 26, .tmp 31]) rfl ?_); at_builtin; refine Kd.R_append Kd.string (w0 := w) w.heap.size rfl (.tmp 26) (.tmp 31) 25 9 (.string ⟨#[]⟩) 16 rfl Tryz.underlying25 info9 rfl (by decide) (by omega) u4 x4_1 (a0.extract (x5_1 : Int).toNat (x6_1 : Int).toNat) [.string (a0.extract (x5_1 : Int).toNat (x6_1 : Int).toNat)] (fun _ => True) (fun _ => False) rfl rfl ?aP (fun _ hk => hk.elim) ?aF ?aO ?aB ?aS ?aL ?_; (case aP => exact rfl); (case aB => exact zB); (case aF => exact (fun _ _ => trivial)); (case aO => exact (rO HO_4)); (case aS => exact (bZ)); (case aL => have := LMc16.out; omega); intro v105 w17 ho hb hg hat; rw [← Ny104.out] at ho; have n0_ := Aside0.mk (hb); have n1_ := Aside0.mk (ho); clear HB HO_4; have HB := n0_; have HO106 := n1_; clear n0_ n1_ ho hb hg hat)); try go_wp2_with (first | ((with_reducible refine gate_builtin (b := .append) (xs := #[.tmp 26, .tmp 31]) rfl ?_); at_builtin; refine Kd.R_append Kd.string (w0 := w) w.heap.size rfl (.tmp 26) (.tmp 31) 25 9 (.string ⟨#[]⟩) 16 rfl Tryz.underlying25 info9 rfl (by decide) (by omega) u4 x4_1 (a0.extract (x5_1 : Int).toNat (x6_1 : Int).toNat) [.string (a0.extract (x5_1 : Int).toNat (x6_1 : Int).toNat)] (fun _ => True) (fun _ => False) rfl rfl ?aP (fun _ hk => hk.elim) ?aF ?aO ?aB ?aS ?aL ?_; (case aP => exact rfl); (case aB => exact zB); (case aF => exact (fun _ _ => trivial)); (case aO => exact (rO HO_4)); (case aS => exact (bZ)); (case aL => have := LMc16.out; omega); intro v105 w17 ho hb hg hat; rw [← Ny104.out] at ho; have n0_ := Aside0.mk (hb); have n1_ := Aside0.mk (ho); clear HB; clear HO_4; have HB := n0_; have HO106 := n1_; clear n0_ n1_; clear ho hb hg hat)))
      go_roundg k1
      case measure => have := HK1.out; omega
      case rel => exact ⟨(y104), (wrap64 ((ji9) + 1)), (wrap64 ((ji9) + 1)), (by first | rfl | (simp; done) | (simp only [← hji9] <;> (first | rfl | simp)) | (simp [*]; done)), (by first | rfl | (simp; done) | (simp only [← hji9] <;> (first | rfl | simp)) | (simp [*]; done)), H', ⟨by have := HK1.out; omega⟩, ⟨rO HO106⟩, ⟨zB⟩⟩
     ·have H' := Aside0.mk H
      clear H
      have p7 : 0 ≤ (x6_1 : Int) := of_decide_eq_true za
      have q7 : x6_1 < (a0.size : Int) := of_decide_eq_true za
      have hx7 := bt_at a0 x6_1
      replace p7 := eq_true p7
      replace q7 := eq_true q7
      have p11 : 0 ≤ ((ji9) : Int) := of_decide_eq_true za
      have q11 : (ji9) < (a0.size : Int) := of_decide_eq_true za
      have hx11 := bt_at a0 (ji9)
      replace p11 := eq_true p11
      replace q11 := eq_true q11
      go_wp2
      repeat (go_quiet (fail); try go_wp2)
      go_roundg k1
      case measure => have := HK1.out; omega
      case rel => exact ⟨(x4_1), (x5_1), (ji9), zs, (by first | rfl | (simp; done) | (simp only [← hji9] <;> (first | rfl | simp)) | (simp [*]; done)), H', ⟨by have := HK1.out; omega⟩, ⟨rO HO_4⟩, ⟨zB⟩⟩
    ·have H' := Aside0.mk H
     clear H
     have p7 : 0 ≤ (x6_1 : Int) := of_decide_eq_true za
     have q7 : x6_1 < (a0.size : Int) := of_decide_eq_true za
     have hx7 := bt_at a0 x6_1
     replace p7 := eq_true p7
     replace q7 := eq_true q7
     go_wp2
     repeat (go_quiet (fail); try go_wp2)
     go_roundg k1
     case measure => have := HK1.out; omega
     case rel => exact ⟨(x4_1), (x5_1), (wrap64 (x6_1 + 1)), zs, zs, H', ⟨by have := HK1.out; omega⟩, ⟨rO HO_4⟩, ⟨zB⟩⟩
   ·replace H := itn_ed H; obtain ⟨c18b0, c18b1, H⟩ := H
    replace H := itn_ed H; obtain ⟨c19b0, c19b1, H⟩ := H
    simp only [Option.some.injEq, Prod.mk.injEq] at H
    obtain ⟨rfl, rfl⟩ := H
    go_wp2
    repeat (go_quiet (fail); try go_wp2)
    go_ret2
    exact ⟨_, zr, rO HO_4, zB⟩
end Go.Proofs.YtbncnjgflhoneaaGreatDoor.F
namespace Go.Proofs.YtbncnjgflhoneaaGreatDoor.F
open Go.RowKit Go.Proofs.YtbncnjgflhoneaaGreatDoor.Hand Go.Proofs.YtbncnjgflhoneaaGreatDoorW.PrintWords Go.Proofs.YtbncnjgflhoneaaGreatDoorW.PrintLast Go.Proofs.YtbncnjgflhoneaaGreatDoorW.PrintMore
attribute [local go_sem] max2_int min2_int max_two min_two max_three min_three max_four min_four
set_option linter.unusedVariables false
set_option linter.unusedSimpArgs false
def stringslite_TrimPrefix.f (a0 : ByteArray) (a1 : ByteArray) : Option (ByteArray) := (stringslite_HasPrefix.f a0 a1).bind fun t101 => (if t101 = true then (if 0 ≤ (a1.size : Int) then (if (a1.size : Int) ≤ (a0.size : Int) then (some (a0.extract ((a1.size : Int) : Int).toNat a0.size)) else (none)) else (none)) else (some a0))
set_option maxHeartbeats 8000000 in
set_option maxRecDepth 100000 in
theorem stringslite_TrimPrefix.calls (a0 : ByteArray) (a1 : ByteArray) (r : ByteArray) (w : World) (h : stringslite_TrimPrefix.f a0 a1 = some r) :
  Calls Tryz.prog 159 #[.string a0, .string a1] w fun e w' => e = .returned (.string r) ∧ Drawn0 w w' := by
 have H := h
 clear h
 unfold stringslite_TrimPrefix.f at H
 replace H := bnd H; obtain ⟨t101, A3, H⟩ := H
 replace H := itb H; rcases H with ⟨rfl, H⟩ | ⟨rfl, H⟩
 ·replace H := itn_ed H; obtain ⟨c5b0, c5b1, H⟩ := H
  replace H := itn_ed H; obtain ⟨c6b0, c6b1, H⟩ := H
  obtain rfl := Option.some.inj H
  go_enter Tryz.func159, Tryz.ntmps159
  go_wp2_with (first | ((with_reducible refine gate_callee (f := 139) rfl ?_); refine gv 7 Tryz.func139 _ (stringslite_HasPrefix.calls (w := _) (h := A3.out)) ?_; rintro w' ⟨nd, rfl⟩))
  go_ret
  exact ⟨zs, zD⟩
 ·obtain rfl := Option.some.inj H
  go_enter Tryz.func159, Tryz.ntmps159
  go_wp2_with (first | ((with_reducible refine gate_callee (f := 139) rfl ?_); refine gv 7 Tryz.func139 _ (stringslite_HasPrefix.calls (w := _) (h := A3.out)) ?_; rintro w' ⟨nd, rfl⟩))
  go_ret
  exact ⟨zs, zD⟩
def strings_TrimPrefix.f (a0 : ByteArray) (a1 : ByteArray) : Option (ByteArray) := (stringslite_TrimPrefix.f a0 a1).bind fun t101 => (some t101)
set_option maxHeartbeats 8000000 in
set_option maxRecDepth 100000 in
theorem strings_TrimPrefix.calls (a0 : ByteArray) (a1 : ByteArray) (r : ByteArray) (w : World) (h : strings_TrimPrefix.f a0 a1 = some r) :
  Calls Tryz.prog 120 #[.string a0, .string a1] w fun e w' => e = .returned (.string r) ∧ Drawn0 w w' := by
 have H := h
 clear h
 unfold strings_TrimPrefix.f at H
 replace H := bnd H; obtain ⟨t101, A3, H⟩ := H
 obtain rfl := Option.some.inj H
 go_enter Tryz.func120, Tryz.ntmps120
 go_wp2_with (first | ((with_reducible refine gate_callee (f := 159) rfl ?_); refine gv 7 Tryz.func159 _ (stringslite_TrimPrefix.calls (w := _) (h := A3.out)) ?_; rintro w' ⟨nd, rfl⟩))
 go_ret
 exact ⟨zs, zD⟩
end Go.Proofs.YtbncnjgflhoneaaGreatDoor.F
namespace Go.Proofs.YtbncnjgflhoneaaGreatDoor.Hand
open Go.RowKit Go.Proofs.YtbncnjgflhoneaaGreatDoor.F Go.Proofs.YtbncnjgflhoneaaGreatDoorW.PrintWords Go.Proofs.YtbncnjgflhoneaaGreatDoorW.PrintLast Go.Proofs.YtbncnjgflhoneaaGreatDoorW.PrintMore
theorem cut_nil (a : UInt8) (t : List UInt8) : Lib.cut [] (a :: t) = ([], [], false) := rfl
theorem cut_cons (b : UInt8) (l sep : List UInt8) : Lib.cut (b :: l) sep =
    if sep.isPrefixOf (b :: l) = true then ([], (b :: l).drop sep.length, true) else if (Lib.cut l sep).2.2 = true then (b :: (Lib.cut l sep).1, (Lib.cut l sep).2.1, true) else (b :: l, [], false) := by
  have hge := Lib.index_ge l sep
  by_cases hp : sep.isPrefixOf (b :: l) = true
  · have e : Lib.index (b :: l) sep = 0 := by rw [Lib.index, if_pos hp]
    rw [if_pos hp]
    unfold Lib.cut
    rw [e, if_pos (by decide)]
    simp
  · rw [if_neg hp]
    by_cases hm : Lib.index l sep = -1
    · have e : Lib.index (b :: l) sep = -1 := by rw [Lib.index, if_neg hp, hm]; rfl
      unfold Lib.cut
      rw [e, hm]
      simp
    · have e : Lib.index (b :: l) sep = Lib.index l sep + 1 := by rw [Lib.index, if_neg hp, if_neg (fun e => hm (beq_iff_eq.1 e))]
      obtain ⟨i, hi⟩ := Int.eq_ofNat_of_zero_le (a := Lib.index l sep) (by omega)
      unfold Lib.cut
      rw [e, hi, if_pos (show (0 : Int) ≤ (i : Int) + 1 by omega), if_pos (show (0 : Int) ≤ (i : Int) by omega), show ((i : Int) + 1).toNat = i + 1 by omega, Int.toNat_natCast, show i + 1 + sep.length = (i + sep.length) + 1 by omega]
      simp
theorem cut_one (c : UInt8) (b : List UInt8) : ∀ a : List UInt8, c ∉ a → Lib.cut (a ++ c :: b) [c] = (a, b, true)
  | [], _ => by
    rw [List.nil_append, cut_cons, if_pos (by simp)]
    simp
  | x :: a, h => by
    rw [List.mem_cons, not_or] at h
    rw [List.cons_append, cut_cons, if_neg (by simp; exact h.1), cut_one c b a h.2, if_pos rfl]
theorem cut_no (c : UInt8) : ∀ a : List UInt8, c ∉ a → Lib.cut a [c] = (a, [], false)
  | [], _ => rfl
  | x :: a, h => by
    rw [List.mem_cons, not_or] at h
    rw [cut_cons, if_neg (by simp; exact h.1), cut_no c a h.2]
    rfl
theorem cut_le (sep : List UInt8) : ∀ s : List UInt8, (Lib.cut s sep).1.length ≤ s.length ∧ (Lib.cut s sep).2.1.length ≤ s.length := fun s => by
  unfold Lib.cut
  split
  · constructor
    · rw [List.length_take]; omega
    · rw [List.length_drop]; omega
  · exact ⟨Nat.le_refl _, Nat.zero_le _⟩
theorem pcut_tells (s sep : ByteArray) (hs : s.size ≤ 1073741824) : strings_Cut.f s sep = some (B (Lib.cut s.data.toList sep.data.toList).1, B (Lib.cut s.data.toList sep.data.toList).2.1, (Lib.cut s.data.toList sep.data.toList).2.2) := by
  unfold strings_Cut.f
  rw [if_pos (by omega)]
  rfl
def frontP (p : List UInt8) : List (List UInt8) × List UInt8 → List (List UInt8) × List UInt8
  | ([], t) => ([], p ++ t)
  | (x :: ls, t) => ((p ++ x) :: ls, t)
def crlf : List UInt8 → List (List UInt8) × List UInt8
  | [] => ([], [])
  | [a] => ([], [a])
  | a :: b :: l => if a = 13 ∧ b = 10 then ([] :: (crlf l).1, (crlf l).2) else frontP [a] (crlf (b :: l))
theorem frontP_frontP (p q : List UInt8) (x : List (List UInt8) × List UInt8) : frontP p (frontP q x) = frontP (p ++ q) x := by
  obtain ⟨l, t⟩ := x
  cases l <;> simp [frontP]
theorem crlf_cut : ∀ s : List UInt8, crlf s = if (Lib.cut s [13, 10]).2.2 = true then ((Lib.cut s [13, 10]).1 :: (crlf (Lib.cut s [13, 10]).2.1).1, (crlf (Lib.cut s [13, 10]).2.1).2) else ([], s)
  | [] => rfl
  | [a] => by
    have e : Lib.cut [a] [13, 10] = ([a], [], false) := by rw [cut_cons, if_neg (by simp [List.isPrefixOf])]; rfl
    rw [e]
    rfl
  | a :: b :: l => by
    rw [crlf]
    by_cases h : a = 13 ∧ b = 10
    · obtain ⟨rfl, rfl⟩ := h
      have e : Lib.cut (13 :: 10 :: l) [13, 10] = ([], l, true) := by rw [cut_cons, if_pos (by simp)]; rfl
      rw [if_pos ⟨rfl, rfl⟩, e]
      rfl
    · have e := cut_cons a (b :: l) [13, 10]
      rw [if_neg (by simp only [List.isPrefixOf]; simp; exact fun e1 e2 => h ⟨e1.symm, e2.symm⟩)] at e
      rw [if_neg h, e, crlf_cut (b :: l)]
      obtain ⟨p, q, t⟩ := Lib.cut (b :: l) [13, 10]
      cases t <;> rfl
theorem cut_less (s : List UInt8) (h : (Lib.cut s [13, 10]).2.2 = true) : (Lib.cut s [13, 10]).2.1.length + 2 ≤ s.length := by
  have hr := Lib.index_room s [13, 10]
  unfold Lib.cut at h ⊢
  split at h
  · rename_i hi
    rw [if_pos hi]
    have := hr hi
    simp only [List.length_cons, List.length_nil] at this
    show (s.drop _).length + 2 ≤ _
    rw [List.length_drop]
    simp only [List.length_cons, List.length_nil]
    omega
  · cases h
theorem isplit_from : ∀ (n : Nat) (s : ByteArray) (acc : List ByteArray), s.size ≤ n → n ≤ 1073741824 → acc.length + n ≤ 2147483648 →
    Ev (fun k => impl_split.l0 k s acc) (acc ++ (crlf s.data.toList).1.map B, B (crlf s.data.toList).2) := by
  intro n
  induction n with
  | zero =>
    intro s acc hs _ _
    have hd : s.data.toList = [] := List.eq_nil_of_length_eq_zero (by rw [data_length]; omega)
    refine Ev.step (f := fun _ => some (acc, s)) (fun k => ?_) ?_
    · rw [impl_split.l0, pcut_tells s _ (by omega), Option.bind_some, hd]
      exact if_neg (by decide)
    · rw [hd]
      have : s = B [] := eq_B hd
      rw [this]
      simpa [crlf] using Ev.now (acc, B [])
  | succ n ih =>
    intro s acc hs hn ha
    rw [crlf_cut]
    have hle := cut_le [13, 10] s.data.toList
    rw [len_size] at hle
    by_cases hf : (Lib.cut s.data.toList [13, 10]).2.2 = true
    · have hlt := cut_less _ hf
      rw [len_size] at hlt
      refine Ev.step (f := fun k => impl_split.l0 k (B (Lib.cut s.data.toList [13, 10]).2.1) (acc ++ [B (Lib.cut s.data.toList [13, 10]).1])) (fun k => ?_) ?_
      · rw [impl_split.l0, pcut_tells s _ (by omega), Option.bind_some]
        exact (if_pos hf).trans (if_pos (by omega))
      · have h := ih (B (Lib.cut s.data.toList [13, 10]).2.1) (acc ++ [B (Lib.cut s.data.toList [13, 10]).1]) (by rw [B_size]; omega) (by omega) (by rw [List.length_append, List.length_singleton]; omega)
        rw [B_data] at h
        rw [if_pos hf, List.map_cons]
        simpa using h
    · refine Ev.step (f := fun _ => some (acc, s)) (fun k => ?_) ?_
      · rw [impl_split.l0, pcut_tells s _ (by omega), Option.bind_some]
        exact if_neg hf
      · rw [if_neg hf, List.map_nil, List.append_nil, B_of]
        exact Ev.now _
theorem isplit_tells (s : ByteArray) (hs : s.size ≤ 1073741824) : Ev (fun k => impl_split.f k s) ((crlf s.data.toList).1.map B, B (crlf s.data.toList).2) := by
  have h := isplit_from s.size s [] (Nat.le_refl _) hs (by simp; omega)
  rw [List.nil_append] at h
  exact h
theorem slines_from (s : ByteArray) (hs : s.size ≤ 1073741824) : ∀ (n d i f : Nat) (out : List ByteArray), d ≤ n → s.size = i + d → f ≤ i → out.length ≤ i →
    Ev (fun k => spec_l2Lines.l0 k s out (f : Int) (i : Int)) (out ++ (frontP ((s.data.toList.take i).drop f) (crlf (s.data.toList.drop i))).1.map B, B (frontP ((s.data.toList.take i).drop f) (crlf (s.data.toList.drop i))).2) := by
  have hdl : s.data.toList.length = s.size := data_length s
  have close : ∀ (i f : Nat) (out : List ByteArray), i ≤ s.size → s.size ≤ i + 1 → f ≤ i → crlf (s.data.toList.drop i) = ([], s.data.toList.drop i) →
      Ev (fun k => spec_l2Lines.l0 k s out (f : Int) (i : Int)) (out ++ (frontP ((s.data.toList.take i).drop f) (crlf (s.data.toList.drop i))).1.map B, B (frontP ((s.data.toList.take i).drop f) (crlf (s.data.toList.drop i))).2) := by
    intro i f out hi h1 hf hc
    refine Ev.step (f := fun _ => some (out, s.extract f s.size)) (fun k => by
      rw [spec_l2Lines.l0, wrapIn (x := (i : Int) + 1) (by omega) (by omega), if_neg (by omega), if_pos (by omega), if_pos (by omega)]
      rfl) ?_
    rw [hc]
    have e : s.extract f s.size = B ((s.data.toList.take i).drop f ++ s.data.toList.drop i) := by
      refine eq_B ?_
      rw [extract_data', ← List.drop_append_of_le_length (by rw [List.length_take]; omega), List.take_append_drop, List.take_of_length_le (by omega)]
    rw [e]
    simpa [frontP] using Ev.now (out, B ((s.data.toList.take i).drop f ++ s.data.toList.drop i))
  intro n
  induction n with
  | zero =>
    intro d i f out hd hi hf _
    refine close i f out (by omega) (by omega) hf ?_
    rw [List.drop_eq_nil_of_le (by omega)]
    rfl
  | succ n ih =>
    intro d i f out hd hi hf ho
    match d, hd, hi with
    | 0, _, hi =>
      refine close i f out (by omega) (by omega) hf ?_
      rw [List.drop_eq_nil_of_le (by omega)]
      rfl
    | 1, _, hi =>
      refine close i f out (by omega) (by omega) hf ?_
      rw [List.drop_eq_getElem_cons (by omega), List.drop_eq_nil_of_le (by omega)]
      rfl
    | d + 2, hd, hi =>
      have h0 : i < s.data.toList.length := by omega
      have h1 : i + 1 < s.data.toList.length := by omega
      have e0 : s.data.toList.drop i = s.data.toList[i] :: s.data.toList[i + 1] :: s.data.toList.drop (i + 2) := by
        rw [List.drop_eq_getElem_cons h0, List.drop_eq_getElem_cons h1]
      have e1 : s.data.toList.drop (i + 1) = s.data.toList[i + 1] :: s.data.toList.drop (i + 2) := by rw [List.drop_eq_getElem_cons h1]
      rw [e0, crlf]
      by_cases hc : s.data.toList[i] = 13 ∧ s.data.toList[i + 1] = 10
      · rw [if_pos hc]
        refine Ev.step (f := fun k => spec_l2Lines.l0 k s (out ++ [s.extract f i]) ((i + 2 : Nat) : Int) ((i + 2 : Nat) : Int)) (fun k => by
          rw [spec_l2Lines.l0, wrapIn (x := (i : Int) + 1) (by omega) (by omega), if_pos (by omega), if_pos (by omega), if_pos (by omega), if_pos (by rw [bt_get s i h0, hc.1]; rfl), if_pos (by omega), show ((i : Int) + 1) = ((i + 1 : Nat) : Int) by omega,
            if_pos (by rw [bt_get s (i + 1) h1, hc.2]; rfl), if_pos (by omega), if_pos (by omega), if_pos (by omega), if_pos (by omega), wrapIn (x := ((i + 1 : Nat) : Int) + 1) (by omega) (by omega), show ((i + 1 : Nat) : Int) + 1 = ((i + 2 : Nat) : Int) by omega]
          rfl) ?_
        have h := ih d (i + 2) (i + 2) (out ++ [s.extract f i]) (by omega) (by omega) (Nat.le_refl _) (by rw [List.length_append, List.length_singleton]; omega)
        have en : (s.data.toList.take (i + 2)).drop (i + 2) = [] := List.drop_eq_nil_of_le (by rw [List.length_take]; omega)
        have ef : ∀ x : List (List UInt8) × List UInt8, frontP [] x = x := fun x => by obtain ⟨l, t⟩ := x; cases l <;> rfl
        rw [en, ef] at h
        have e2 : s.extract f i = B ((s.data.toList.take i).drop f) := eq_B (extract_data' s f i)
        rw [e2] at h ⊢
        simpa [frontP] using h
      · rw [if_neg hc]
        refine Ev.step (f := fun k => spec_l2Lines.l0 k s out (f : Int) ((i + 1 : Nat) : Int)) (fun k => by
          rw [spec_l2Lines.l0, wrapIn (x := (i : Int) + 1) (by omega) (by omega), if_pos (by omega), if_pos (by omega), if_pos (by omega), show ((i : Int) + 1) = ((i + 1 : Nat) : Int) by omega]
          by_cases ha : s.data.toList[i] = 13
          · rw [if_pos (by rw [bt_get s i h0, ha]; rfl), if_pos (by omega), if_neg (by rw [bt_get s (i + 1) h1]; intro e; exact hc ⟨ha, UInt8.toNat_inj.1 (by show _ = 10; omega)⟩)]
          · rw [if_neg (by rw [bt_get s i h0]; intro e; exact ha (UInt8.toNat_inj.1 (by show _ = 13; omega)))]) ?_
        have h := ih (d + 1) (i + 1) f out (by omega) (by omega) (by omega) (by omega)
        rw [frontP_frontP]
        have e : (s.data.toList.take i).drop f ++ [s.data.toList[i]] = (s.data.toList.take (i + 1)).drop f := by
          rw [List.take_succ_eq_append_getElem h0, List.drop_append_of_le_length (by rw [List.length_take]; omega)]
        rw [e, ← e1]
        exact h
theorem slines_tells (s : ByteArray) (hs : s.size ≤ 1073741824) : Ev (fun k => spec_l2Lines.f k s) ((crlf s.data.toList).1.map B, B (crlf s.data.toList).2) := by
  have h := slines_from s hs s.size s.size 0 0 [] (Nat.le_refl _) (by omega) (Nat.le_refl _) (Nat.le_refl _)
  have ef : ∀ x : List (List UInt8) × List UInt8, frontP [] x = x := fun x => by obtain ⟨l, t⟩ := x; cases l <;> rfl
  simp only [List.take_zero, List.drop_nil, List.drop_zero, List.nil_append, ef] at h
  exact h
theorem crlf_line : ∀ (a s : List UInt8), 13 ∉ a → crlf (a ++ 13 :: 10 :: s) = (a :: (crlf s).1, (crlf s).2)
  | [], s, _ => by rw [List.nil_append, crlf, if_pos ⟨rfl, rfl⟩]
  | [x], s, h => by
    have hx : ¬ x = 13 := fun e => h (by simp [e])
    show crlf (x :: 13 :: 10 :: s) = _
    rw [crlf, if_neg (fun e => hx e.1), crlf, if_pos ⟨rfl, rfl⟩]
    rfl
  | x :: y :: a, s, h => by
    have hx : ¬ x = 13 := fun e => h (by simp [e])
    have ih := crlf_line (y :: a) s (fun e => h (List.mem_cons_of_mem _ e))
    show crlf (x :: y :: (a ++ 13 :: 10 :: s)) = _
    rw [crlf, if_neg (fun e => hx e.1)]
    have ih' : crlf (y :: (a ++ 13 :: 10 :: s)) = ((y :: a) :: (crlf s).1, (crlf s).2) := ih
    rw [ih']
    rfl
theorem frontP_le (p : List UInt8) (x : List (List UInt8) × List UInt8) (n : Nat) (h : x.1.length ≤ n ∧ (∀ l ∈ x.1, l.length ≤ n) ∧ x.2.length ≤ n) : (frontP p x).1.length ≤ n ∧ (∀ l ∈ (frontP p x).1, l.length ≤ n + p.length) ∧ (frontP p x).2.length ≤ n + p.length := by
  obtain ⟨l, t⟩ := x
  obtain ⟨h1, h2, h3⟩ := h
  cases l with
  | nil =>
    refine ⟨h1, ?_, ?_⟩
    · intro l hl
      cases hl
    · simp only [frontP, List.length_append]
      have h3 : t.length ≤ n := h3
      omega
  | cons y l =>
    refine ⟨h1, fun z hz => ?_, by
      have h3 : t.length ≤ n := h3
      show t.length ≤ _
      omega⟩
    simp only [frontP, List.mem_cons] at hz
    rcases hz with rfl | hz
    · have := h2 y (by simp)
      rw [List.length_append]
      omega
    · have := h2 z (by simp [hz])
      omega
theorem crlf_le : ∀ s : List UInt8, (crlf s).1.length ≤ s.length ∧ (∀ l ∈ (crlf s).1, l.length ≤ s.length) ∧ (crlf s).2.length ≤ s.length
  | [] => ⟨Nat.le_refl _, fun l hl => absurd (show l ∈ ([] : List (List UInt8)) from hl) (by simp), Nat.le_refl _⟩
  | [a] => ⟨Nat.zero_le _, fun l hl => absurd (show l ∈ ([] : List (List UInt8)) from hl) (by simp), Nat.le_refl _⟩
  | a :: b :: l => by
    rw [crlf]
    by_cases h : a = 13 ∧ b = 10
    · rw [if_pos h]
      obtain ⟨h1, h2, h3⟩ := crlf_le l
      refine ⟨by simp only [List.length_cons]; omega, fun x hx => ?_, by simp only [List.length_cons]; omega⟩
      simp only [List.mem_cons] at hx
      rcases hx with rfl | hx
      · exact Nat.zero_le _
      · have := h2 x hx
        simp only [List.length_cons]
        omega
    · rw [if_neg h]
      have ih := crlf_le (b :: l)
      obtain ⟨h1, h2, h3⟩ := frontP_le [a] (crlf (b :: l)) _ ih
      refine ⟨by simp only [List.length_cons] at h1 ⊢; omega, fun x hx => ?_, ?_⟩
      · have := h2 x hx
        simp only [List.length_cons, List.length_nil] at this ⊢
        omega
      · simp only [List.length_cons, List.length_nil] at h3 ⊢
        omega
end Go.Proofs.YtbncnjgflhoneaaGreatDoor.Hand
namespace Go.Proofs.YtbncnjgflhoneaaGreatDoor.Hand
open Go.RowKit Go.Proofs.YtbncnjgflhoneaaGreatDoor.F Go.Proofs.YtbncnjgflhoneaaGreatDoorW.PrintWords Go.Proofs.YtbncnjgflhoneaaGreatDoorW.PrintLast Go.Proofs.YtbncnjgflhoneaaGreatDoorW.PrintMore
theorem hasPrefix_one (s : ByteArray) (c : UInt8) : stringslite_HasPrefix.f s (⟨#[c]⟩ : ByteArray) = some (decide (s.data.toList.head? = some c)) := by
  have hl := data_length s
  have h1 : ((⟨#[c]⟩ : ByteArray).size : Int) = 1 := rfl
  have h2 : (⟨#[c]⟩ : ByteArray).toList = [c] := toL _
  unfold stringslite_HasPrefix.f
  rw [h1, h2]
  cases hd : s.data.toList with
  | nil =>
    rw [hd] at hl
    rw [if_neg (by simp at hl; omega)]
    rfl
  | cons x r =>
    rw [hd, List.length_cons] at hl
    rw [if_pos (by omega), if_pos (by decide), if_pos (by omega)]
    have e : (s.extract 0 (1 : Int).toNat).toList = [x] := by
      rw [toL, extract_data', hd]
      rfl
    rw [e]
    refine congrArg some ?_
    by_cases hx : x = c
    · subst hx; simp
    · rw [show ([x] == [c]) = false by simp [hx]]; simp [hx]
theorem tail_of (s : ByteArray) : s.extract 1 s.size = B s.data.toList.tail := by
  refine eq_B ?_
  rw [extract_data', List.take_of_length_le (by rw [data_length]; exact Nat.le_refl _), List.drop_one]
theorem cutPrefix_one (s : ByteArray) (c : UInt8) : strings_CutPrefix.f s (⟨#[c]⟩ : ByteArray) = some (if s.data.toList.head? = some c then (B s.data.toList.tail, true) else (s, false)) := by
  have hl := data_length s
  have h1 : ((⟨#[c]⟩ : ByteArray).size : Int) = 1 := rfl
  unfold strings_CutPrefix.f stringslite_CutPrefix.f
  rw [hasPrefix_one, Option.bind_some, h1]
  by_cases h : s.data.toList.head? = some c
  · have hs : 1 ≤ s.size := by
      cases hd : s.data.toList with
      | nil => rw [hd] at h; cases h
      | cons x r => rw [hd, List.length_cons] at hl; omega
    rw [if_pos (decide_eq_true h), if_pos (by decide), if_pos (by omega), if_pos h, show (1 : Int).toNat = 1 from rfl, tail_of]
    rfl
  · rw [if_neg (by simpa using h), if_neg h]
    rfl
theorem trimPrefix_one (s : ByteArray) (c : UInt8) : strings_TrimPrefix.f s (⟨#[c]⟩ : ByteArray) = some (B (if s.data.toList.head? = some c then s.data.toList.tail else s.data.toList)) := by
  have hl := data_length s
  have h1 : ((⟨#[c]⟩ : ByteArray).size : Int) = 1 := rfl
  unfold strings_TrimPrefix.f stringslite_TrimPrefix.f
  rw [hasPrefix_one, Option.bind_some, h1]
  by_cases h : s.data.toList.head? = some c
  · have hs : 1 ≤ s.size := by
      cases hd : s.data.toList with
      | nil => rw [hd] at h; cases h
      | cons x r => rw [hd, List.length_cons] at hl; omega
    rw [if_pos (decide_eq_true h), if_pos (by decide), if_pos (by omega), if_pos h, show (1 : Int).toNat = 1 from rfl, tail_of]
    rfl
  · rw [if_neg (by simpa using h), if_neg h, B_of]
    rfl
def chop (c : UInt8) (l : List UInt8) : List UInt8 := if l.getLast? = some c then l.dropLast else l
theorem chop_le (c : UInt8) (l : List UInt8) : (chop c l).length ≤ l.length := by
  unfold chop
  split
  · rw [List.length_dropLast]; omega
  · exact Nat.le_refl _
theorem trimSuffix_one (s : ByteArray) (hs : s.size ≤ 1073741824) (c : UInt8) : strings_TrimSuffix.f s (⟨#[c]⟩ : ByteArray) = some (B (chop c s.data.toList)) := by
  have hl := data_length s
  have h1 : ((⟨#[c]⟩ : ByteArray).size : Int) = 1 := rfl
  have h2 : (⟨#[c]⟩ : ByteArray).toList = [c] := toL _
  unfold strings_TrimSuffix.f stringslite_TrimSuffix.f stringslite_HasSuffix.f chop
  rw [h1, h2]
  by_cases h0 : s.size = 0
  · have hd : s.data.toList = [] := List.eq_nil_of_length_eq_zero (by omega)
    rw [if_neg (by omega), hd]
    have : s = B [] := eq_B hd
    rw [this]
    rfl
  · rw [if_pos (by omega), wrapIn (x := (s.size : Int) - 1) (by omega) (by omega), if_pos (by omega), if_pos (by omega), show ((s.size : Int) - 1).toNat = s.size - 1 by omega]
    have hne : s.data.toList ≠ [] := fun e => h0 (by rw [e] at hl; simpa using hl.symm)
    have e : (s.extract (s.size - 1) s.size).toList = [s.data.toList.getLast hne] := by
      have e' : s.data.toList = s.data.toList.dropLast ++ [s.data.toList.getLast hne] := (List.dropLast_concat_getLast hne).symm
      rw [toL, extract_data', List.take_of_length_le (by omega)]
      exact (congrArg (List.drop (s.size - 1)) e').trans (List.drop_left' (by rw [List.length_dropLast]; omega))
    rw [e, List.getLast?_eq_some_getLast hne]
    by_cases hx : s.data.toList.getLast hne = c
    · rw [hx, Option.bind_some, if_pos (by simp), if_pos rfl]
      have e2 : s.extract 0 (s.size - 1) = B s.data.toList.dropLast := by
        refine eq_B ?_
        rw [extract_data', List.drop_zero, List.dropLast_eq_take, hl]
      rw [e2, if_pos (show 0 ≤ (s.size : Int) - 1 by omega), if_pos (show (s.size : Int) - 1 ≤ (s.size : Int) by omega)]
      rfl
    · rw [show ([s.data.toList.getLast hne] == [c]) = false from beq_eq_false_iff_ne.2 (fun e => hx (List.cons.inj e).1), Option.bind_some, if_neg (by decide), if_neg (fun e => hx (Option.some.inj e)), B_of]
      rfl
theorem cutAt_mem (c x : UInt8) : ∀ l : List UInt8, x ∈ l → x = c ∨ ∃ p ∈ cutAt c l, x ∈ p
  | [], h => by cases h
  | a :: l, h => by
    rw [cutAt]
    by_cases e : a = c
    · rw [if_pos e]
      rcases List.mem_cons.1 h with rfl | h
      · exact .inl e
      · rcases cutAt_mem c x l h with h | ⟨p, hp, hx⟩
        · exact .inl h
        · exact .inr ⟨p, List.mem_cons_of_mem _ hp, hx⟩
    · rw [if_neg e]
      cases hq : cutAt c l with
      | nil => exact absurd hq (cutAt_ne c l)
      | cons y r =>
        rcases List.mem_cons.1 h with rfl | h
        · exact .inr ⟨x :: y, by simp [front], by simp⟩
        · rcases cutAt_mem c x l h with h | ⟨p, hp, hx⟩
          · exact .inl h
          · rw [hq] at hp
            rcases List.mem_cons.1 hp with rfl | hp
            · exact .inr ⟨a :: p, by simp [front], by simp [hx]⟩
            · exact .inr ⟨p, by simp [front, hp], hx⟩
def plainB (c : UInt8) : Bool := letterB c || c == 46 || c == 60 || c == 62 || c == 64
theorem label_signs {s : ByteArray} (h : labelB s = true) : ∀ x ∈ s.data.toList, letterB x = true := by
  unfold labelB at h
  rw [Bool.and_eq_true] at h
  exact fun x hx => List.all_eq_true.1 h.2 x hx
theorem labels_data (d : ByteArray) : (labelsOf d).map (·.data.toList) = cutAt 46 d.data.toList := split_one 46 d.size d (Nat.le_refl _)
theorem domain_signs {d : ByteArray} (h : domainB d = true) : ∀ x ∈ d.data.toList, letterB x = true ∨ x = 46 := by
  unfold domainB at h
  rw [Bool.and_eq_true] at h
  intro x hx
  rcases cutAt_mem 46 x _ hx with h1 | ⟨p, hp, hxp⟩
  · exact .inr h1
  · rw [← labels_data] at hp
    obtain ⟨s, hs, rfl⟩ := List.mem_map.1 hp
    exact .inl (label_signs (List.all_eq_true.1 h.1 s hs) x hxp)
theorem null_empty {u d : ByteArray} (h : nullB u d = true) : u = B [] ∧ d = B [] := by
  unfold nullB at h
  rw [Bool.and_eq_true] at h
  have h1 := eq_of_beq h.1
  have h2 := eq_of_beq h.2
  rw [toL] at h1 h2
  exact ⟨eq_B h1, eq_B h2⟩
theorem addr_signs {u d : ByteArray} (h : (nullB u d || addrB u d) = true) : ∀ x ∈ addrT u d, plainB x = true := by
  unfold addrT
  by_cases hn : nullB u d = true
  · rw [if_pos hn]
    intro x hx
    simp at hx
    rcases hx with rfl | rfl <;> decide
  · rw [if_neg hn]
    rw [Bool.eq_false_iff.2 hn, Bool.false_or] at h
    unfold addrB at h
    rw [Bool.and_eq_true] at h
    intro x hx
    simp only [List.mem_cons, List.mem_append, List.not_mem_nil, or_false] at hx
    unfold plainB
    rcases hx with rfl | hx | rfl | hx | rfl
    · decide
    · simp [label_signs h.1 x hx]
    · decide
    · rcases domain_signs h.2 x hx with e | e
      · simp [e]
      · simp [e]
    · decide
theorem addr_parts {u d : ByteArray} (h : addrB u d = true) : nullB u d = false ∧ (64 : UInt8) ∉ u.data.toList ∧ (64 : UInt8) ∉ d.data.toList := by
  unfold addrB at h
  rw [Bool.and_eq_true] at h
  refine ⟨?_, fun hx => ?_, fun hx => ?_⟩
  · rw [Bool.eq_false_iff]
    intro hn
    rw [(null_empty hn).1] at h
    exact absurd h.1 (by decide)
  · exact absurd (label_signs h.1 _ hx) (by decide)
  · rcases domain_signs h.2 _ hx with e | e
    · exact absurd e (by decide)
    · exact absurd e (by decide)
def innerI (l : List UInt8) : List UInt8 := chop 62 (if l.head? = some 60 then l.tail else l)
theorem innerI_le (l : List UInt8) : (innerI l).length ≤ l.length := by
  unfold innerI
  refine Nat.le_trans (chop_le _ _) ?_
  split
  · rw [List.length_tail]; omega
  · exact Nat.le_refl _
def addrI (l : List UInt8) : ByteArray × ByteArray × Bool :=
  if (decide (l.head? = some 60) && ((nullB (B (Lib.cut (innerI l) [64]).1) (B (Lib.cut (innerI l) [64]).2.1) || addrB (B (Lib.cut (innerI l) [64]).1) (B (Lib.cut (innerI l) [64]).2.1)) && decide (addrT (B (Lib.cut (innerI l) [64]).1) (B (Lib.cut (innerI l) [64]).2.1) = l))) = true
  then (B (Lib.cut (innerI l) [64]).1, B (Lib.cut (innerI l) [64]).2.1, true) else (B [], B [], false)
theorem iaddr_tells (s : ByteArray) (hs : s.size ≤ 536870912) : Ev (fun k => impl_AddrGet.f k s) (addrI s.data.toList) := by
  have hl := data_length s
  have hin := innerI_le s.data.toList
  have hc := cut_le [64] (innerI s.data.toList)
  unfold addrI
  generalize hu : B (Lib.cut (innerI s.data.toList) [64]).1 = u
  generalize hd : B (Lib.cut (innerI s.data.toList) [64]).2.1 = d
  have hus : u.size ≤ 1073741824 := by rw [← hu, B_size]; omega
  have hds : d.size ≤ 1073741824 := by rw [← hd, B_size]; omega
  have step : ∀ k, impl_AddrGet.f k s = (if decide (s.data.toList.head? = some 60) = true then ((impl_Addr_sender.f k u d).bind fun t109 => (if t109 = true then ((impl_Addr_text.f u d).bind fun t110 => (if t110.toList = s.toList then (some (u, d, true)) else (some ((⟨#[]⟩ : ByteArray), (⟨#[]⟩ : ByteArray), false)))) else (some ((⟨#[]⟩ : ByteArray), (⟨#[]⟩ : ByteArray), false)))) else (some ((⟨#[]⟩ : ByteArray), (⟨#[]⟩ : ByteArray), false))) := fun k => by
    unfold impl_AddrGet.f
    rw [cutPrefix_one, Option.bind_some]
    have e : (if s.data.toList.head? = some 60 then (B s.data.toList.tail, true) else (s, false)) = (B (if s.data.toList.head? = some 60 then s.data.toList.tail else s.data.toList), decide (s.data.toList.head? = some 60)) := by
      by_cases h : s.data.toList.head? = some 60
      · rw [if_pos h, if_pos h, decide_eq_true h]
      · rw [if_neg h, if_neg h, B_of, decide_eq_false h]
    rw [e]
    have hsz : (B (if s.data.toList.head? = some 60 then s.data.toList.tail else s.data.toList)).size ≤ 1073741824 := by
      rw [B_size]
      split
      · rw [List.length_tail]; omega
      · omega
    rw [trimSuffix_one _ hsz, Option.bind_some, B_data]
    have hq : chop 62 (if s.data.toList.head? = some 60 then s.data.toList.tail else s.data.toList) = innerI s.data.toList := rfl
    rw [hq, pcut_tells _ _ (by rw [B_size]; omega), Option.bind_some, B_data]
    show (if decide _ = true then ((impl_Addr_sender.f k (B (Lib.cut (innerI s.data.toList) [64]).1) (B (Lib.cut (innerI s.data.toList) [64]).2.1)).bind _) else _) = _
    rw [hu, hd]
  refine Ev.congr step ?_
  by_cases h60 : s.data.toList.head? = some 60
  · rw [decide_eq_true h60, Bool.true_and]
    refine Ev.congr (fun k => if_pos rfl) ?_
    refine Ev.call (a := (nullB u d || addrB u d)) (Ev.exact (d.size + 2) fun k hk => sender_tells u d hds k hk) (h := fun _ => some (if ((nullB u d || addrB u d) && decide (addrT u d = s.data.toList)) = true then (u, d, true) else (B [], B [], false))) (fun k => ?_) (Ev.now _)
    cases hg : (nullB u d || addrB u d)
    · rfl
    · rw [if_pos rfl, ptext_tells u d hus hds, Option.bind_some, B_toList, toL, Bool.true_and]
      by_cases ht : addrT u d = s.data.toList
      · rw [if_pos ht, if_pos (decide_eq_true ht)]
      · rw [if_neg ht, if_neg (by simpa using ht)]
        rfl
  · rw [decide_eq_false h60, Bool.false_and]
    exact Ev.congr (fun k => if_neg (by decide)) (Ev.now _)
theorem addrI_le (l : List UInt8) : (addrI l).1.size ≤ l.length ∧ (addrI l).2.1.size ≤ l.length := by
  have hin := innerI_le l
  have hc := cut_le [64] (innerI l)
  unfold addrI
  split
  · exact ⟨by rw [B_size]; omega, by rw [B_size]; omega⟩
  · exact ⟨Nat.zero_le _, Nat.zero_le _⟩
theorem addrI_text {u d : ByteArray} (h : (nullB u d || addrB u d) = true) : addrI (addrT u d) = (u, d, true) := by
  have key : Lib.cut (innerI (addrT u d)) [64] = (u.data.toList, d.data.toList, (Lib.cut (innerI (addrT u d)) [64]).2.2) ∧ (addrT u d).head? = some 60 := by
    cases hn : nullB u d
    · rw [hn, Bool.false_or] at h
      obtain ⟨_, h1, _⟩ := addr_parts h
      have e : addrT u d = 60 :: (u.data.toList ++ 64 :: (d.data.toList ++ [62])) := by unfold addrT; rw [if_neg (by rw [hn]; decide)]
      have e2 : innerI (addrT u d) = u.data.toList ++ 64 :: d.data.toList := by
        rw [e]
        unfold innerI
        rw [if_pos (by rfl), List.tail_cons, show u.data.toList ++ 64 :: (d.data.toList ++ [62]) = (u.data.toList ++ 64 :: d.data.toList) ++ [62] by simp]
        unfold chop
        rw [List.getLast?_concat, if_pos rfl, List.dropLast_concat]
      rw [e2, cut_one 64 _ _ h1, e]
      exact ⟨rfl, rfl⟩
    · obtain ⟨rfl, rfl⟩ := null_empty hn
      have e : addrT (B []) (B []) = [60, 62] := if_pos hn
      rw [e]
      exact ⟨rfl, rfl⟩
  unfold addrI
  rw [key.1, key.2]
  show (if (decide (some (60 : UInt8) = some 60) && ((nullB (B u.data.toList) (B d.data.toList) || addrB (B u.data.toList) (B d.data.toList)) && decide (addrT (B u.data.toList) (B d.data.toList) = addrT u d))) = true then (B u.data.toList, B d.data.toList, true) else _) = _
  rw [B_of, B_of, h, if_pos (by simp)]
theorem cutAt_no (c : UInt8) : ∀ l : List UInt8, c ∉ l → cutAt c l = [l]
  | [], _ => rfl
  | a :: l, h => by
    rw [List.mem_cons, not_or] at h
    rw [cutAt, if_neg (fun e => h.1 e.symm), cutAt_no c l h.2]
    rfl
theorem cutAt_one (c : UInt8) (b : List UInt8) : ∀ a : List UInt8, c ∉ a → cutAt c (a ++ c :: b) = a :: cutAt c b
  | [], _ => by rw [List.nil_append, cutAt, if_pos rfl]
  | x :: a, h => by
    rw [List.mem_cons, not_or] at h
    rw [List.cons_append, cutAt, if_neg (fun e => h.1 e.symm), cutAt_one c b a h.2]
    rfl
theorem front_le (p : List UInt8) (L : List (List UInt8)) (n : Nat) (h : ∀ x ∈ L, x.length ≤ n) : ∀ x ∈ front p L, x.length ≤ n + p.length := by
  cases L with
  | nil => intro x hx; simp only [front, List.mem_singleton] at hx; subst hx; omega
  | cons y r =>
    intro x hx
    simp only [front, List.mem_cons] at hx
    rcases hx with rfl | hx
    · have := h y (by simp)
      rw [List.length_append]; omega
    · have := h x (by simp [hx])
      omega
theorem cutM_le (c : UInt8) : ∀ (l : List UInt8) (m : Nat), (cutM c m l).length ≤ m + 1 ∧ ∀ x ∈ cutM c m l, x.length ≤ l.length
  | [], m => by cases m <;> simp [cutM]
  | a :: l, 0 => by simp [cutM]
  | a :: l, m + 1 => by
    rw [cutM]
    by_cases e : a = c
    · rw [if_pos e]
      have h := cutM_le c l m
      refine ⟨by rw [List.length_cons]; omega, fun x hx => ?_⟩
      rcases List.mem_cons.1 hx with rfl | hx
      · exact Nat.zero_le _
      · have := h.2 x hx
        rw [List.length_cons]; omega
    · rw [if_neg e]
      have h := cutM_le c l (m + 1)
      have hf := front_le [a] _ _ h.2
      refine ⟨?_, fun x hx => by have := hf x hx; simpa using this⟩
      have h1 := h.1
      cases hq : cutM c (m + 1) l with
      | nil => simp [front]
      | cons y r => rw [hq] at h1; exact h1
def innerS (l : List UInt8) : List UInt8 := l.tail.dropLast
def addrS (l : List UInt8) : ByteArray × ByteArray × Bool :=
  if l = [60, 62] then (B [], B [], true)
  else if l.length < 2 ∨ ¬ l.head? = some 60 ∨ ¬ l.getLast? = some 62 then (B [], B [], false)
  else match cutM 64 2 (innerS l) with
    | [x, y] => if addrB (B x) (B y) = true then (B x, B y, true) else (B [], B [], false)
    | _ => (B [], B [], false)
theorem mid_of (s : ByteArray) (_hs : 2 ≤ s.size) : s.extract 1 (s.size - 1) = B (innerS s.data.toList) := by
  have hl := data_length s
  refine eq_B ?_
  unfold innerS
  rw [extract_data', List.dropLast_eq_take, List.length_tail, hl, ← List.drop_one, List.take_drop, List.drop_take]
  rw [List.take_drop]
theorem saddrget_tells (s : ByteArray) (hs : s.size ≤ 536870912) : Ev (fun k => spec_AddrGet.f k s) (addrS s.data.toList) := by
  have hl := data_length s
  unfold addrS
  by_cases h0 : s.data.toList = [60, 62]
  · rw [if_pos h0]
    refine Ev.congr (f := fun _ => some (B [], B [], true)) (fun k => ?_) (Ev.now _)
    unfold spec_AddrGet.f
    rw [toL, if_pos h0]
    rfl
  rw [if_neg h0]
  have neg : (s.data.toList.length < 2 ∨ ¬ s.data.toList.head? = some 60 ∨ ¬ s.data.toList.getLast? = some 62) → Ev (fun k => spec_AddrGet.j0 k s true) (B [], B [], false) := fun _ =>
    Ev.step (f := fun _ => some (B [], B [], false)) (fun k => by rw [spec_AddrGet.j0, if_pos rfl]; rfl) (Ev.now _)
  by_cases h2 : s.data.toList.length < 2
  · rw [if_pos (.inl h2)]
    refine Ev.congr (fun k => ?_) (neg (.inl h2))
    unfold spec_AddrGet.f
    rw [toL, if_neg h0, if_pos (by omega)]
  have hb : ∀ k, spec_AddrGet.f k s = if (bt s 0) = 60 then spec_AddrGet.j0 k s ((bt s ((s.size - 1 : Nat) : Int)) != 62) else spec_AddrGet.j0 k s true := fun k => by
    unfold spec_AddrGet.f
    rw [toL, if_neg h0, if_neg (by omega), if_pos (by omega), wrapIn (x := (s.size : Int) - 1) (by omega) (by omega), if_pos (show 0 ≤ (s.size : Int) - 1 by omega), if_pos (show (s.size : Int) - 1 < (s.size : Int) by omega), show (s.size : Int) - 1 = ((s.size - 1 : Nat) : Int) by omega]
  have hne : s.data.toList ≠ [] := fun e => by rw [e] at h2; exact h2 (by decide)
  have e0 : bt s 0 = ((s.data.toList.head hne).toNat : Int) := by
    rw [show (0 : Int) = ((0 : Nat) : Int) from rfl, bt_get s 0 (by omega), List.head_eq_getElem]
  have e1 : bt s ((s.size - 1 : Nat) : Int) = ((s.data.toList.getLast hne).toNat : Int) := by
    rw [bt_get s (s.size - 1) (by omega), List.getLast_eq_getElem]
    simp only [hl]
  by_cases hh : s.data.toList.head? = some 60
  · have hh' : s.data.toList.head hne = 60 := by rw [List.head?_eq_some_head hne] at hh; exact Option.some.inj hh
    by_cases hg : s.data.toList.getLast? = some 62
    · have hg' : s.data.toList.getLast hne = 62 := by rw [List.getLast?_eq_some_getLast hne] at hg; exact Option.some.inj hg
      rw [if_neg (by rintro (h | h | h); exact h2 h; exact h hh; exact h hg)]
      refine Ev.congr (f := fun k => spec_AddrGet.j0 k s false) (fun k => ?_) ?_
      · rw [hb, if_pos (by rw [e0, hh']; rfl), e1, hg']
        rfl
      have hc := cut_tells (B (innerS s.data.toList)) (by rw [B_size]; unfold innerS; rw [List.length_dropLast, List.length_tail]; omega) 64 2 (by decide)
      rw [B_data] at hc
      have hcl := cutM_le 64 (innerS s.data.toList) 2
      have hil : (innerS s.data.toList).length ≤ 536870912 := by unfold innerS; rw [List.length_dropLast, List.length_tail]; omega
      refine Ev.step (f := fun k => (spec_l1Cut.f k (B (innerS s.data.toList)) 64 2).bind fun t102 => (if (t102.length : Int) = 2 then (if 0 < (t102.length : Int) then (if 1 < (t102.length : Int) then ((spec_l1AddrOk.f k (rdOf ByteArray.empty t102 0) (rdOf ByteArray.empty t102 1)).bind fun t108 => (if t108 = true then (some (rdOf ByteArray.empty t102 0, rdOf ByteArray.empty t102 1, true)) else (some ((⟨#[]⟩ : ByteArray), (⟨#[]⟩ : ByteArray), false)))) else (none)) else (none)) else (some ((⟨#[]⟩ : ByteArray), (⟨#[]⟩ : ByteArray), false)))) (fun k => by
        rw [spec_AddrGet.j0, if_neg (by decide), wrapIn (x := (s.size : Int) - 1) (by omega) (by omega), if_pos (by omega), if_pos (by omega), show ((s.size : Int) - 1).toNat = s.size - 1 by omega, mid_of s (by omega)]) ?_
      refine Ev.bind hc ?_
      match hq : cutM 64 2 (innerS s.data.toList) with
      | [x, y] =>
        rw [hq] at hcl
        have hx := hcl.2 x (by simp)
        have hy := hcl.2 y (by simp)
        refine Ev.call (saddr_tells (B x) (B y) (by rw [B_size]; omega) (by rw [B_size]; omega)) (h := fun _ => some (if addrB (B x) (B y) = true then (B x, B y, true) else (B [], B [], false))) (fun k => ?_) (Ev.now _)
        cases hv : addrB (B x) (B y) <;> rfl
      | [] => exact Ev.now _
      | [x] => exact Ev.now _
      | x :: y :: z :: r =>
        refine Ev.congr (f := fun _ => some (B [], B [], false)) (fun k => ?_) (Ev.now _)
        exact if_neg (by simp only [List.length_map, List.length_cons]; omega)
    · rw [if_pos (.inr (.inr hg))]
      refine Ev.congr (fun k => ?_) (neg (.inr (.inr hg)))
      have hg' : ¬ s.data.toList.getLast hne = 62 := fun e => hg (by rw [List.getLast?_eq_some_getLast hne, e])
      rw [hb, if_pos (by rw [e0, hh']; rfl), e1, bne_iff_ne.2 (fun e => hg' (UInt8.toNat_inj.1 (by show _ = 62; omega)))]
  · rw [if_pos (.inr (.inl hh))]
    refine Ev.congr (fun k => ?_) (neg (.inr (.inl hh)))
    have hh' : ¬ s.data.toList.head hne = 60 := fun e => hh (by rw [List.head?_eq_some_head hne, e])
    rw [hb, if_neg (by rw [e0]; intro e; exact hh' (UInt8.toNat_inj.1 (by show _ = 60; omega)))]
theorem addrS_le (l : List UInt8) : (addrS l).1.size ≤ l.length ∧ (addrS l).2.1.size ≤ l.length := by
  have hil : (innerS l).length ≤ l.length := by unfold innerS; rw [List.length_dropLast, List.length_tail]; omega
  have hcl := cutM_le 64 (innerS l) 2
  unfold addrS
  split
  · exact ⟨Nat.zero_le _, Nat.zero_le _⟩
  split
  · exact ⟨Nat.zero_le _, Nat.zero_le _⟩
  split
  · rename_i x y hq
    rw [hq] at hcl
    have hx := hcl.2 x (by simp)
    have hy := hcl.2 y (by simp)
    split
    · exact ⟨by rw [B_size]; omega, by rw [B_size]; omega⟩
    · exact ⟨Nat.zero_le _, Nat.zero_le _⟩
  · exact ⟨Nat.zero_le _, Nat.zero_le _⟩
theorem addrS_text {u d : ByteArray} (h : (nullB u d || addrB u d) = true) : addrS (addrT u d) = (u, d, true) := by
  cases hn : nullB u d
  · rw [hn, Bool.false_or] at h
    obtain ⟨_, h1, h2⟩ := addr_parts h
    have e : addrT u d = 60 :: (u.data.toList ++ 64 :: (d.data.toList ++ [62])) := by unfold addrT; rw [if_neg (by rw [hn]; decide)]
    have e2 : innerS (addrT u d) = u.data.toList ++ 64 :: d.data.toList := by
      rw [e]
      unfold innerS
      rw [List.tail_cons, show u.data.toList ++ 64 :: (d.data.toList ++ [62]) = (u.data.toList ++ 64 :: d.data.toList) ++ [62] by simp, List.dropLast_concat]
    have e3 : cutM 64 2 (innerS (addrT u d)) = [u.data.toList, d.data.toList] := by
      have hc : cutAt 64 (innerS (addrT u d)) = [u.data.toList, d.data.toList] := by rw [e2, cutAt_one 64 _ _ h1, cutAt_no 64 _ h2]
      rw [(cutM_cutAt 64 (innerS (addrT u d)) 2).1 (by rw [hc]; simp), hc]
    have e4 : ¬ ((addrT u d).length < 2 ∨ ¬ (addrT u d).head? = some 60 ∨ ¬ (addrT u d).getLast? = some 62) := by
      rw [e]
      rintro (h | h | h)
      · simp at h
        omega
      · exact h rfl
      · exact h (by rw [show 60 :: (u.data.toList ++ 64 :: (d.data.toList ++ [62])) = (60 :: (u.data.toList ++ 64 :: d.data.toList)) ++ [62] by simp, List.getLast?_concat])
    have e5 : ¬ addrT u d = [60, 62] := by
      rw [e]
      intro h
      have := congrArg List.length h
      simp at this
      omega
    unfold addrS
    rw [if_neg e5, if_neg e4, e3]
    show (if addrB (B u.data.toList) (B d.data.toList) = true then (B u.data.toList, B d.data.toList, true) else _) = _
    rw [B_of, B_of, if_pos h]
  · obtain ⟨rfl, rfl⟩ := null_empty hn
    rw [show addrT (B []) (B []) = [60, 62] from if_pos hn]
    exact if_pos rfl
end Go.Proofs.YtbncnjgflhoneaaGreatDoor.Hand
