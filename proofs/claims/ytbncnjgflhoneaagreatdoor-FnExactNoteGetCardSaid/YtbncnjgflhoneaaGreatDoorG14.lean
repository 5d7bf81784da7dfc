/- Of this claim, merged by program: F87. -/
import Derived.Test.YtbncnjgflhoneaaGreatDoorG02
import Derived.Test.YtbncnjgflhoneaaGreatDoorG04
import Derived.Test.YtbncnjgflhoneaaGreatDoorG05
namespace Go.Proofs.YtbncnjgflhoneaaGreatDoor.F
open Go.RowKit Go.Proofs.YtbncnjgflhoneaaGreatDoor.Hand Go.Proofs.YtbncnjgflhoneaaGreatDoorW.PrintWords Go.Proofs.YtbncnjgflhoneaaGreatDoorW.PrintLast Go.Proofs.YtbncnjgflhoneaaGreatDoorW.PrintMore
attribute [local go_sem] max2_int min2_int max_two min_two max_three min_three max_four min_four
set_option linter.unusedVariables false
set_option linter.unusedSimpArgs false
def spec_AddrGet.j0 : Nat → ByteArray → Bool → Option (ByteArray × ByteArray × Bool)
 | 0, _, _ => none
 | k + 1, x0, x24 => if x24 = true then (some ((⟨#[]⟩ : ByteArray), (⟨#[]⟩ : ByteArray), false)) else (if 1 ≤ (wrap64 ((x0.size : Int) - 1)) then (if (wrap64 ((x0.size : Int) - 1)) ≤ (x0.size : Int) then ((spec_l1Cut.f k (x0.extract 1 ((wrap64 ((x0.size : Int) - 1)) : Int).toNat) 64 2).bind fun t102 => (if (t102.length : Int) = 2 then (if 0 < (t102.length : Int) then (if 1 < (t102.length : Int) then ((spec_l1AddrOk.f k (rdOf ByteArray.empty t102 0) (rdOf ByteArray.empty t102 1)).bind fun t108 => (if t108 = true then (some (rdOf ByteArray.empty t102 0, rdOf ByteArray.empty t102 1, true)) else (some ((⟨#[]⟩ : ByteArray), (⟨#[]⟩ : ByteArray), false)))) else (none)) else (none)) else (some ((⟨#[]⟩ : ByteArray), (⟨#[]⟩ : ByteArray), false)))) else (none)) else (none))
def spec_AddrGet.f (k : Nat) (a0 : ByteArray) : Option (ByteArray × ByteArray × Bool) := if a0.toList = ([60, 62] : List UInt8) then (some ((⟨#[]⟩ : ByteArray), (⟨#[]⟩ : ByteArray), true)) else (if (a0.size : Int) < 2 then (spec_AddrGet.j0 k a0 true) else (if 0 < (a0.size : Int) then (if (bt a0 0) = 60 then (if 0 ≤ (wrap64 ((a0.size : Int) - 1)) then (if (wrap64 ((a0.size : Int) - 1)) < (a0.size : Int) then (spec_AddrGet.j0 k a0 ((bt a0 (wrap64 ((a0.size : Int) - 1))) != 62)) else (none)) else (none)) else (spec_AddrGet.j0 k a0 true)) else (none)))
theorem spec_AddrGet.mono_l : ∀ k, (∀ y0 y1, LeO (spec_AddrGet.j0 k y0 y1) (spec_AddrGet.j0 (k + 1) y0 y1))
 | 0 => fun _ _ r h => by simp [spec_AddrGet.j0] at h
 | k + 1 => by
  have ih0 := spec_AddrGet.mono_l k
  ·intro y0 y1
   unfold spec_AddrGet.j0
   repeat' with_reducible first | apply ih0 | apply spec_l1AddrOk.mono | apply spec_l1Cut.mono | exact LeO.refl _ | exact LeO.none _ | apply LeO.ite | refine LeO.bind ?_ fun _ => ?_
theorem spec_AddrGet.mono : ∀ a0 k, LeO (spec_AddrGet.f k a0) (spec_AddrGet.f (k + 1) a0) := by
 intro a0 k
 have ih0 := spec_AddrGet.mono_l k
 unfold spec_AddrGet.f
 repeat' with_reducible first | apply ih0 | apply spec_l1AddrOk.mono | apply spec_l1Cut.mono | exact LeO.refl _ | exact LeO.none _ | apply LeO.ite | refine LeO.bind ?_ fun _ => ?_
def spec_AddrGet.T8 : Bool × List (List Nat × List Nat) := (true, [([], []), ([0], [0]), ([1], [1]), ([], []), ([3], [3]), ([4], [4]), ([2, 5], [2, 5]), ([], []), ([7, 6, 0, 1, 2, 3, 4, 5, 6, 7], [6, 7])])
def spec_AddrGet.B8 : List Nat := [0, 1, 3, 0, 8, 24, 63, 0, 255]
theorem spec_AddrGet.tab8 : rtab .any (opsOf Tryz.f87 8) = spec_AddrGet.T8 := by kernel_rfl
theorem spec_AddrGet.bits8 : waitsOk spec_AddrGet.T8.2 spec_AddrGet.B8 = true := by kernel_rfl
set_option maxHeartbeats 8000000 in
set_option maxRecDepth 100000 in
theorem spec_AddrGet.calls (k : Nat) (a0 : ByteArray) (r1 : ByteArray) (r2 : ByteArray) (r3 : Bool) (w : World) (h : spec_AddrGet.f k a0 = some (r1, r2, r3)) :
  Calls Tryz.prog 87 #[.string a0] w fun e w' => e = .returned (.tuple #[.agg #[.string r1, .string r2], .bool r3]) ∧ Below w.heap.size w w' := by
 have hu32 := Tryz.underlying32
 have HB := Aside0.mk (Below.refl w.heap.size w)
 have H := h
 clear h
 unfold spec_AddrGet.f at H
 replace H := its_qn_qn H; rcases H with ⟨c2b0, c2b1, H⟩ | ⟨c2b0, c2b1, H⟩
 ·simp only [Option.some.injEq, Prod.mk.injEq] at H
  obtain ⟨rfl, rfl, rfl⟩ := H
  go_enter Tryz.func87, Tryz.ntmps87
  go_wp2_with (first | ((with_reducible refine gate_dst (N := 2) rfl ?_); (try (refine gate_guard (by rfl) ?_; dsimp only)); refine bx (cs := #[.string ⟨#[]⟩, .string ⟨#[]⟩]) (t := 32) ?_; intro gb101 hg w3 hbox hb; have BK101 := Aside0.mk (hbox); have GW101 := gS hg; have GE101 := gS hg; replace HB := bS hb; clear hb hbox hg; obtain ⟨hcz4_0, hcz4_1⟩ := cz2 BK101.out; obtain ⟨hfz4_0, hfz4_1⟩ := fz2 BK101.out))
  refine bodyPost_ret (results_ct rfl _ _ gb101 32 #[.string (⟨#[]⟩ : ByteArray), .string (⟨#[]⟩ : ByteArray)] (0, 0) _ rfl (kQ BK101) Tryz.underlying32 rfl z0_) rfl ?_
  exact ⟨zr, zB⟩
 ·have HC5 := Aside0.mk H
  clear H
  go_enter Tryz.func87, Tryz.ntmps87
  go_upto_region 3 with (first | ((with_reducible refine gate_dst (N := 2) rfl ?_); (try (refine gate_guard (by rfl) ?_; dsimp only)); refine bx (cs := #[.string ⟨#[]⟩, .string ⟨#[]⟩]) (t := 32) ?_; intro gb101 hg w6 hbox hb; have BK101 := Aside0.mk (hbox); have GW101 := gS hg; have GE101 := gS hg; replace HB := bS hb; clear hb hbox hg))
  (try simp only [Act.put, List.setIfInBounds_toArray, List.set_cons_zero, List.set_cons_succ])
  go_cut [24] (fun v24 wc => ∃ (kq : Nat) (x24_4 : Bool), v24 = .bool x24_4 ∧ Aside0 (spec_AddrGet.j0 kq a0 x24_4 = some (r1, r2, r3)) ∧ Aside0 (kq ≤ k) ∧ Aside0 (wc.heap[gb101]? = some (.cells #[.string (⟨#[]⟩ : ByteArray), .string (⟨#[]⟩ : ByteArray)] 32 (0, 0))) ∧ Aside0 (Below w.heap.size w wc))
  case first =>
   have H := HC5.out
   clear HC5
   replace H := its_cd_cd H; rcases H with ⟨c7, c7b0, H⟩ | ⟨c7, c7b0, H⟩
   ·have c7b1 : decide (a0.size < 2) = true := decide_eq_true (by omega)
    clear c7
    (first | rw [c7b0] | (simp only [i64_w, i32_w]; rw [c7b0]) | skip)
    have H' := Aside0.mk H
    clear H
    go_wp2
    go_meet
    case rel => exact ⟨_, (true), zs, H', ⟨by first | omega | exact Nat.le_refl _⟩, ⟨kQ BK101⟩, ⟨zB⟩⟩
   ·have c7b1 : decide (a0.size < 2) = false := decide_eq_false (by omega)
    clear c7
    (first | rw [c7b0] | (simp only [i64_w, i32_w]; rw [c7b0]) | skip)
    replace H := itn_cd H; obtain ⟨c8, c8b0, H⟩ := H
    have c8b1 : decide (0 < a0.size) = true := decide_eq_true (by omega)
    clear c8
    replace H := its_qn_qn H; rcases H with ⟨c10b0, c10b1, H⟩ | ⟨c10b0, c10b1, H⟩
    ·obtain ⟨ji11, hji11⟩ : ∃ j_ : Int, (wrap64 ((a0.size : Int) - 1)) = j_ := ⟨_, rfl⟩
     first | rw [hji11] at H | simp only [hji11] at H
     have hji11w : (IntKind.i64.wrap ((a0.size : Int) - 1)) = ji11 := (i64_w _).trans hji11
     replace H := itn_d H; obtain ⟨c12b0, H⟩ := H
     replace H := itn_d H; obtain ⟨c13b0, H⟩ := H
     have H' := Aside0.mk H
     clear H
     have p9 : 0 ≤ (0 : Int) := (by omega)
     have q9 : 0 < a0.size := (by have : (0 : Int) < (a0.size : Int) := of_decide_eq_true za; omega)
     have hx9 : ∀ h : 0 < a0.size, ((a0[0]'h).toNat : Int) = bt a0 0 := bt_at a0 0
     clear p9
     have qi9 : (0 < (a0.size : Int)) = True := eq_true (of_decide_eq_true za)
     replace q9 := eq_true q9
     have p14 : 0 ≤ ((ji11) : Int) := of_decide_eq_true za
     have q14 : (ji11) < (a0.size : Int) := of_decide_eq_true za
     have hx14 := bt_at a0 (ji11)
     replace p14 := eq_true p14
     replace q14 := eq_true q14
     go_wp2
     go_meet
     case rel => exact ⟨_, (((bt a0 (ji11)) != 62)), (by first | rfl | (simp; done) | (simp only [← hji11] <;> (first | rfl | simp)) | (simp [*]; done)), H', ⟨by first | omega | exact Nat.le_refl _⟩, ⟨kQ BK101⟩, ⟨zB⟩⟩
    ·have H' := Aside0.mk H
     clear H
     have p9 : 0 ≤ (0 : Int) := (by omega)
     have q9 : 0 < a0.size := (by have : (0 : Int) < (a0.size : Int) := of_decide_eq_true za; omega)
     have hx9 : ∀ h : 0 < a0.size, ((a0[0]'h).toNat : Int) = bt a0 0 := bt_at a0 0
     clear p9
     have qi9 : (0 < (a0.size : Int)) = True := eq_true (of_decide_eq_true za)
     replace q9 := eq_true q9
     go_wp2
     go_meet
     case rel => exact ⟨_, (true), zs, H', ⟨by first | omega | exact Nat.le_refl _⟩, ⟨kQ BK101⟩, ⟨zB⟩⟩
  case rest =>
   clear HC5
   obtain ⟨kq, x24_4, rfl, HA, HJ4, BK101, HB⟩ := hcut
   cases kq with
   | zero => exact absurd HA.out (by simp [spec_AddrGet.j0])
   | succ kj4 =>
    have H := HA.out
    clear HA
    simp only [spec_AddrGet.j0] at H
    replace H := itb H; rcases H with ⟨rfl, H⟩ | ⟨rfl, H⟩
    ·simp only [Option.some.injEq, Prod.mk.injEq] at H
     obtain ⟨rfl, rfl, rfl⟩ := H
     obtain ⟨hcz16_0, hcz16_1⟩ := cz2 BK101.out
     obtain ⟨hfz16_0, hfz16_1⟩ := fz2 BK101.out
     go_wp2
     refine bodyPost_ret (results_ct rfl _ _ gb101 32 #[.string (⟨#[]⟩ : ByteArray), .string (⟨#[]⟩ : ByteArray)] (0, 0) _ rfl (kQ BK101) Tryz.underlying32 rfl z0_) rfl ?_
     exact ⟨zr, zB⟩
    ·replace H := itn_ed H; obtain ⟨c17b0, c17b1, H⟩ := H
     replace H := itn_ed H; obtain ⟨c18b0, c18b1, H⟩ := H
     replace H := bnd H; obtain ⟨t102, A19, H⟩ := H
     replace H := its_qn_qn H; rcases H with ⟨c20b0, c20b1, H⟩ | ⟨c20b0, c20b1, H⟩
     ·replace H := itn_cd H; obtain ⟨c21, c21b0, H⟩ := H
      have c21b1 : decide (0 < t102.length) = true := decide_eq_true (by omega)
      clear c21
      replace H := itn_cd H; obtain ⟨c22, c22b0, H⟩ := H
      have c22b1 : decide (1 < t102.length) = true := decide_eq_true (by omega)
      clear c22
      replace H := bnd H; obtain ⟨t108, A23, H⟩ := H
      replace H := itb H; rcases H with ⟨rfl, H⟩ | ⟨rfl, H⟩
      ·simp only [Option.some.injEq, Prod.mk.injEq] at H
       obtain ⟨rfl, rfl, rfl⟩ := H
       try go_wp2_with (first | ((with_reducible refine gate_callee (f := 84) rfl ?_); refine gl 31 Tryz.func84 _ ((spec_l1Cut.calls (w := _) (h := A19.out)).mono ?_); rintro e w25 ⟨v103, rfl, ho0, hb⟩; refine ⟨_, rfl, ?_⟩; have HO104 := lS ho0; replace BK101 := kS BK101 hb; replace HB := bS hb; clear hb ho0; obtain ⟨Ao26, co26, eo26⟩ := Kd.R_slice HO104.out; subst eo26))
       have n0_ := Aside0.mk (Kd.R_drew HO104.out)
       have n1_ := Aside0.mk (blk_drew BK101.out)
       have n2_ := Aside0.mk (below_drew1 HB.out)
       clear HO104
       clear BK101
       clear HB
       have HO104 := n0_
       have BK101 := n1_
       have HB := n2_
       clear n0_ n1_ n2_
       have p105 : 0 ≤ (0 : Int) := (by omega)
       have q105 : 0 < (t102.length : Int) := of_decide_eq_true za
       obtain ⟨ad105, e105, hx105_0⟩ := Kd.at_string (Kd.R_reads' HO104.out).2.2 0 p105 q105
       cases e105
       have qi105 : (0 < t102.length) = True := eq_true (by omega)
       (try rw [show ((0 : Int)).toNat = 0 from rfl] at hx105_0)
       (try rw [Addr.add_zero'] at hx105_0)
       replace p105 := eq_true p105
       replace q105 := eq_true q105
       have p106 : 0 ≤ (1 : Int) := (by omega)
       have q106 : 1 < (t102.length : Int) := of_decide_eq_true za
       obtain ⟨ad106, e106, hx106_0⟩ := Kd.at_string (Kd.R_reads' HO104.out).2.2 1 p106 q106
       obtain rfl : ad105 = ad106 := (by injection e106)
       (try simp only [show (1 : Int).toNat = 1 from rfl, Nat.reduceMul, Nat.reduceEqDiff, Go.Addr.add, ↓reduceIte] at hx106_0)
       have qi106 : (1 < t102.length) = True := eq_true (by omega)
       (try rw [show ((1 : Int)).toNat = 1 from rfl] at hx106_0)
       replace p106 := eq_true p106
       replace q106 := eq_true q106
       refine start_ (n := 9) (S := fun w' => w'.cell? ad105 = some (.string (rdOf ByteArray.empty t102 0)) ∧ w'.cell? ⟨ad105.block, ad105.off + 1, none⟩ = some (.string (rdOf ByteArray.empty t102 1))) (ds := []) #[false, false, false, false, false, false, false, false, false] z0_ rfl rfl ⟨hx105_0, hx106_0⟩ (fun hHeld => ?_); refine with_tabW spec_AddrGet.tab8 spec_AddrGet.bits8 (fun HT_ HW_ => ?_)
       generalize w25.drew = w27 at HO104 BK101 HB hx105_0 hx106_0 hHeld ⊢
       refine pure_ (i := 0) (N := some 36) (v := ?_) (a' := ?_) #[true, false, false, false, false, false, false, false, false] rfl rfl (any_of HT_.out z0_) (fun _ _ _ h => h) (Or.inl ⟨by rfl, ?_⟩) ?_ ?_
       rotate_left
       ·intro w'
        go_simp
        with_reducible rfl
       rotate_left
       ·simp only [Act.put, List.setIfInBounds_toArray, List.set_cons_zero, List.set_cons_succ, i64_w, i32_w]
        rfl
       refine pure_ (i := 1) (N := some 37) (v := ?_) (a' := ?_) #[true, true, false, false, false, false, false, false, false] rfl rfl (any_of HT_.out z0_) (fun _ _ _ h => h) (Or.inl ⟨by rfl, ?_⟩) ?_ ?_
       rotate_left
       ·intro w'
        go_simp
        with_reducible rfl
       rotate_left
       ·simp only [Act.put, List.setIfInBounds_toArray, List.set_cons_zero, List.set_cons_succ, i64_w, i32_w]
        rfl
       refine pure_ (i := 3) (N := some 39) (v := ?_) (a' := ?_) #[true, true, false, true, false, false, false, false, false] rfl rfl (any_of HT_.out z0_) (fun _ _ _ h => h) (Or.inl ⟨by rfl, ?_⟩) ?_ ?_
       rotate_left
       ·intro w'
        go_simp
        with_reducible rfl
       rotate_left
       ·simp only [Act.put, List.setIfInBounds_toArray, List.set_cons_zero, List.set_cons_succ, i64_w, i32_w]
        rfl
       refine pure_ (i := 4) (N := some 40) (v := ?_) (a' := ?_) #[true, true, false, true, true, false, false, false, false] rfl rfl (any_of HT_.out z0_) (fun _ _ _ h => h) (Or.inl ⟨by rfl, ?_⟩) ?_ ?_
       rotate_left
       ·intro w'
        go_simp
        with_reducible rfl
       rotate_left
       ·simp only [Act.put, List.setIfInBounds_toArray, List.set_cons_zero, List.set_cons_succ, i64_w, i32_w]
        rfl
       refine take_ (i := 2) (N := some 38) (v := ?_) (a' := ?_) #[true, true, true, true, true, false, false, false, false] rfl rfl (take_ofW HT_.out HW_.out z0_) (fun _ _ _ h => h) (Or.inl ⟨by rfl, ?_⟩) hHeld ?_ ?_
       rotate_left
       ·rintro w' ⟨s0, s1⟩
        go_simp
        with_reducible rfl
       rotate_left
       ·simp only [Act.put, List.setIfInBounds_toArray, List.set_cons_zero, List.set_cons_succ, i64_w, i32_w]
        rfl
       refine take_ (i := 5) (N := some 41) (v := ?_) (a' := ?_) #[true, true, true, true, true, true, false, false, false] rfl rfl (take_ofW HT_.out HW_.out z0_) (fun _ _ _ h => h) (Or.inl ⟨by rfl, ?_⟩) hHeld ?_ ?_
       rotate_left
       ·rintro w' ⟨s0, s1⟩
        go_simp
        with_reducible rfl
       rotate_left
       ·simp only [Act.put, List.setIfInBounds_toArray, List.set_cons_zero, List.set_cons_succ, i64_w, i32_w]
        rfl
       refine pure_ (i := 6) (N := some 42) (v := ?_) (a' := ?_) #[true, true, true, true, true, true, true, false, false] rfl rfl (any_of HT_.out z0_) (fun _ _ _ h => h) (Or.inl ⟨by rfl, ?_⟩) ?_ ?_
       rotate_left
       ·intro w'
        go_simp
        with_reducible rfl
       rotate_left
       ·simp only [Act.put, List.setIfInBounds_toArray, List.set_cons_zero, List.set_cons_succ, i64_w, i32_w]
        rfl
       refine one_ (i := 7) (N := some 5) #[true, true, true, true, true, true, true, true, false] rfl rfl (one_of HT_.out z0_) (by decide) (fun K hK => ?_)
       refine box_step ?hg (N := 5) ?hd (cs := #[.string (⟨#[]⟩ : ByteArray), .string (⟨#[]⟩ : ByteArray)]) (t := 32) ?hr ?_; (case hd => rfl); (case hg => rfl); (case hr => first | (go_simp; done) | (go_simp; rfl))
       intro gb107 hg w28 hbox hb
       have HS0_ := (hb.cell (World.block_lt_of_cell? _ _ (hHeld.1))).trans (hHeld.1)
       have HS1_ := (hb.cell (World.block_lt_of_cell? _ _ (hHeld.2))).trans (hHeld.2)
       have n0_ := rS HO104 hb
       have n1_ := kS BK101 hb
       have n2_ := bS hb
       have n3_ := Aside0.mk (hbox)
       have n4_ := gS hg
       have n5_ := gS hg
       have n6_ := nS hg BK101
       have n7_ := nG hg BK101
       clear HO104
       clear BK101
       clear HB
       have HO104 := n0_
       have BK101 := n1_
       have HB := n2_
       have BK107 := n3_
       have GW107 := n4_
       have GE107 := n5_
       have NB101_107 := n6_
       have NB107_101 := n7_
       clear n0_ n1_ n2_ n3_ n4_ n5_ n6_ n7_
       clear hb hbox hg
       refine hK.out _ _ ⟨HS0_, HS1_⟩ (fun hHeld => ?_)
       clear hK K
       refine norm_ (a' := ?_) ?_ ?_
       rotate_left
       ·show Act.put _ (some 5) _ = _
        simp only [Act.put, List.setIfInBounds_toArray, List.set_cons_zero, List.set_cons_succ, i64_w, i32_w]
        rfl
       refine one_ (i := 8) (N := none) #[true, true, true, true, true, true, true, true, true] rfl rfl (one_of HT_.out z0_) (by decide) (fun K hK => ?_)
       have hs29 : w28.cell? ⟨gb107, 0, none⟩ = some (.string (⟨#[]⟩ : ByteArray)) := (blk_cell BK107.out 0).trans rfl
       have hfs29 := blk_frozen BK107.out 0
       have hns29_0 := NB101_107.out
       have hms29_0 := NB107_101.out
       have hs30 : w28.cell? ⟨gb107, 1, none⟩ = some (.string (⟨#[]⟩ : ByteArray)) := (blk_cell BK107.out 1).trans rfl
       have hfs30 := blk_frozen BK107.out 1
       have hns30_0 := NB101_107.out
       have hms30_0 := NB107_101.out
       refine skip_ (w1 := ?_) (by rfl) rfl ?_ ?_
       rotate_left
       ·go_simp
        rfl
       refine hK.out _ _ ⟨((cell_far (p := ⟨gb107, _, none⟩) z1_ _).trans (((cell_far (p := ⟨gb107, _, none⟩) z1_ _).trans (hHeld.1)))), ((cell_far (p := ⟨gb107, _, none⟩) z1_ _).trans (((cell_far (p := ⟨gb107, _, none⟩) z1_ _).trans (hHeld.2))))⟩ (fun hHeld => ?_)
       clear hK K
       refine done_ (done_of HT_.out z0_) ?_
       have hnb31 := NB107_101.out
       have hnc31 := NB101_107.out
       obtain ⟨hcz32_0, hcz32_1⟩ := cz2 BK107.out
       obtain ⟨hfz32_0, hfz32_1⟩ := fz2 BK107.out
       try go_wp2_with (first | ((with_reducible refine gate_callee (f := 58) rfl ?_); refine gv 44 Tryz.func58 _ (spec_l1AddrOk.calls (w := _) (h := A23.out)) ?_; intro w33 hb; replace HO104 := fS HO104 BK107 hb; replace BK101 := kS BK101 hb; replace BK107 := kP (.cells #[.string (rdOf ByteArray.empty t102 0), .string (rdOf ByteArray.empty t102 1)] 32 (0, 0)) BK107 hb; replace HB := bS hb; clear hb; obtain ⟨hcz34_0, hcz34_1⟩ := cz2 BK107.out; obtain ⟨hfz34_0, hfz34_1⟩ := fz2 BK107.out; obtain ⟨hcz35_0, hcz35_1⟩ := cz2 BK101.out; obtain ⟨hfz35_0, hfz35_1⟩ := fz2 BK101.out))
       refine bodyPost_ret (results_ct rfl _ _ gb101 32 #[.string (rdOf ByteArray.empty t102 0), .string (rdOf ByteArray.empty t102 1)] (0, 0) _ rfl (kQ BK101) Tryz.underlying32 rfl z0_) rfl ?_
       exact ⟨zr, zB⟩
      ·simp only [Option.some.injEq, Prod.mk.injEq] at H
       obtain ⟨rfl, rfl, rfl⟩ := H
       try go_wp2_with (first | ((with_reducible refine gate_callee (f := 84) rfl ?_); refine gl 31 Tryz.func84 _ ((spec_l1Cut.calls (w := _) (h := A19.out)).mono ?_); rintro e w36 ⟨v103, rfl, ho0, hb⟩; refine ⟨_, rfl, ?_⟩; have HO104 := lS ho0; replace BK101 := kS BK101 hb; replace HB := bS hb; clear hb ho0; obtain ⟨Ao37, co37, eo37⟩ := Kd.R_slice HO104.out; subst eo37))
       have n0_ := Aside0.mk (Kd.R_drew HO104.out)
       have n1_ := Aside0.mk (blk_drew BK101.out)
       have n2_ := Aside0.mk (below_drew1 HB.out)
       clear HO104
       clear BK101
       clear HB
       have HO104 := n0_
       have BK101 := n1_
       have HB := n2_
       clear n0_ n1_ n2_
       have p105 : 0 ≤ (0 : Int) := (by omega)
       have q105 : 0 < (t102.length : Int) := of_decide_eq_true za
       obtain ⟨ad105, e105, hx105_0⟩ := Kd.at_string (Kd.R_reads' HO104.out).2.2 0 p105 q105
       cases e105
       have qi105 : (0 < t102.length) = True := eq_true (by omega)
       (try rw [show ((0 : Int)).toNat = 0 from rfl] at hx105_0)
       (try rw [Addr.add_zero'] at hx105_0)
       replace p105 := eq_true p105
       replace q105 := eq_true q105
       have p106 : 0 ≤ (1 : Int) := (by omega)
       have q106 : 1 < (t102.length : Int) := of_decide_eq_true za
       obtain ⟨ad106, e106, hx106_0⟩ := Kd.at_string (Kd.R_reads' HO104.out).2.2 1 p106 q106
       obtain rfl : ad105 = ad106 := (by injection e106)
       (try simp only [show (1 : Int).toNat = 1 from rfl, Nat.reduceMul, Nat.reduceEqDiff, Go.Addr.add, ↓reduceIte] at hx106_0)
       have qi106 : (1 < t102.length) = True := eq_true (by omega)
       (try rw [show ((1 : Int)).toNat = 1 from rfl] at hx106_0)
       replace p106 := eq_true p106
       replace q106 := eq_true q106
       refine start_ (n := 9) (S := fun w' => w'.cell? ad105 = some (.string (rdOf ByteArray.empty t102 0)) ∧ w'.cell? ⟨ad105.block, ad105.off + 1, none⟩ = some (.string (rdOf ByteArray.empty t102 1))) (ds := []) #[false, false, false, false, false, false, false, false, false] z0_ rfl rfl ⟨hx105_0, hx106_0⟩ (fun hHeld => ?_); refine with_tabW spec_AddrGet.tab8 spec_AddrGet.bits8 (fun HT_ HW_ => ?_)
       generalize w36.drew = w38 at HO104 BK101 HB hx105_0 hx106_0 hHeld ⊢
       refine pure_ (i := 0) (N := some 36) (v := ?_) (a' := ?_) #[true, false, false, false, false, false, false, false, false] rfl rfl (any_of HT_.out z0_) (fun _ _ _ h => h) (Or.inl ⟨by rfl, ?_⟩) ?_ ?_
       rotate_left
       ·intro w'
        go_simp
        with_reducible rfl
       rotate_left
       ·simp only [Act.put, List.setIfInBounds_toArray, List.set_cons_zero, List.set_cons_succ, i64_w, i32_w]
        rfl
       refine pure_ (i := 1) (N := some 37) (v := ?_) (a' := ?_) #[true, true, false, false, false, false, false, false, false] rfl rfl (any_of HT_.out z0_) (fun _ _ _ h => h) (Or.inl ⟨by rfl, ?_⟩) ?_ ?_
       rotate_left
       ·intro w'
        go_simp
        with_reducible rfl
       rotate_left
       ·simp only [Act.put, List.setIfInBounds_toArray, List.set_cons_zero, List.set_cons_succ, i64_w, i32_w]
        rfl
       refine pure_ (i := 3) (N := some 39) (v := ?_) (a' := ?_) #[true, true, false, true, false, false, false, false, false] rfl rfl (any_of HT_.out z0_) (fun _ _ _ h => h) (Or.inl ⟨by rfl, ?_⟩) ?_ ?_
       rotate_left
       ·intro w'
        go_simp
        with_reducible rfl
       rotate_left
       ·simp only [Act.put, List.setIfInBounds_toArray, List.set_cons_zero, List.set_cons_succ, i64_w, i32_w]
        rfl
       refine pure_ (i := 4) (N := some 40) (v := ?_) (a' := ?_) #[true, true, false, true, true, false, false, false, false] rfl rfl (any_of HT_.out z0_) (fun _ _ _ h => h) (Or.inl ⟨by rfl, ?_⟩) ?_ ?_
       rotate_left
       ·intro w'
        go_simp
        with_reducible rfl
       rotate_left
       ·simp only [Act.put, List.setIfInBounds_toArray, List.set_cons_zero, List.set_cons_succ, i64_w, i32_w]
        rfl
       refine take_ (i := 2) (N := some 38) (v := ?_) (a' := ?_) #[true, true, true, true, true, false, false, false, false] rfl rfl (take_ofW HT_.out HW_.out z0_) (fun _ _ _ h => h) (Or.inl ⟨by rfl, ?_⟩) hHeld ?_ ?_
       rotate_left
       ·rintro w' ⟨s0, s1⟩
        go_simp
        with_reducible rfl
       rotate_left
       ·simp only [Act.put, List.setIfInBounds_toArray, List.set_cons_zero, List.set_cons_succ, i64_w, i32_w]
        rfl
       refine take_ (i := 5) (N := some 41) (v := ?_) (a' := ?_) #[true, true, true, true, true, true, false, false, false] rfl rfl (take_ofW HT_.out HW_.out z0_) (fun _ _ _ h => h) (Or.inl ⟨by rfl, ?_⟩) hHeld ?_ ?_
       rotate_left
       ·rintro w' ⟨s0, s1⟩
        go_simp
        with_reducible rfl
       rotate_left
       ·simp only [Act.put, List.setIfInBounds_toArray, List.set_cons_zero, List.set_cons_succ, i64_w, i32_w]
        rfl
       refine pure_ (i := 6) (N := some 42) (v := ?_) (a' := ?_) #[true, true, true, true, true, true, true, false, false] rfl rfl (any_of HT_.out z0_) (fun _ _ _ h => h) (Or.inl ⟨by rfl, ?_⟩) ?_ ?_
       rotate_left
       ·intro w'
        go_simp
        with_reducible rfl
       rotate_left
       ·simp only [Act.put, List.setIfInBounds_toArray, List.set_cons_zero, List.set_cons_succ, i64_w, i32_w]
        rfl
       refine one_ (i := 7) (N := some 5) #[true, true, true, true, true, true, true, true, false] rfl rfl (one_of HT_.out z0_) (by decide) (fun K hK => ?_)
       refine box_step ?hg (N := 5) ?hd (cs := #[.string (⟨#[]⟩ : ByteArray), .string (⟨#[]⟩ : ByteArray)]) (t := 32) ?hr ?_; (case hd => rfl); (case hg => rfl); (case hr => first | (go_simp; done) | (go_simp; rfl))
       intro gb107 hg w39 hbox hb
       have HS0_ := (hb.cell (World.block_lt_of_cell? _ _ (hHeld.1))).trans (hHeld.1)
       have HS1_ := (hb.cell (World.block_lt_of_cell? _ _ (hHeld.2))).trans (hHeld.2)
       have n0_ := rS HO104 hb
       have n1_ := kS BK101 hb
       have n2_ := bS hb
       have n3_ := Aside0.mk (hbox)
       have n4_ := gS hg
       have n5_ := gS hg
       have n6_ := nS hg BK101
       have n7_ := nG hg BK101
       clear HO104
       clear BK101
       clear HB
       have HO104 := n0_
       have BK101 := n1_
       have HB := n2_
       have BK107 := n3_
       have GW107 := n4_
       have GE107 := n5_
       have NB101_107 := n6_
       have NB107_101 := n7_
       clear n0_ n1_ n2_ n3_ n4_ n5_ n6_ n7_
       clear hb hbox hg
       refine hK.out _ _ ⟨HS0_, HS1_⟩ (fun hHeld => ?_)
       clear hK K
       refine norm_ (a' := ?_) ?_ ?_
       rotate_left
       ·show Act.put _ (some 5) _ = _
        simp only [Act.put, List.setIfInBounds_toArray, List.set_cons_zero, List.set_cons_succ, i64_w, i32_w]
        rfl
       refine one_ (i := 8) (N := none) #[true, true, true, true, true, true, true, true, true] rfl rfl (one_of HT_.out z0_) (by decide) (fun K hK => ?_)
       have hs40 : w39.cell? ⟨gb107, 0, none⟩ = some (.string (⟨#[]⟩ : ByteArray)) := (blk_cell BK107.out 0).trans rfl
       have hfs40 := blk_frozen BK107.out 0
       have hns40_0 := NB101_107.out
       have hms40_0 := NB107_101.out
       have hs41 : w39.cell? ⟨gb107, 1, none⟩ = some (.string (⟨#[]⟩ : ByteArray)) := (blk_cell BK107.out 1).trans rfl
       have hfs41 := blk_frozen BK107.out 1
       have hns41_0 := NB101_107.out
       have hms41_0 := NB107_101.out
       refine skip_ (w1 := ?_) (by rfl) rfl ?_ ?_
       rotate_left
       ·go_simp
        rfl
       refine hK.out _ _ ⟨((cell_far (p := ⟨gb107, _, none⟩) z1_ _).trans (((cell_far (p := ⟨gb107, _, none⟩) z1_ _).trans (hHeld.1)))), ((cell_far (p := ⟨gb107, _, none⟩) z1_ _).trans (((cell_far (p := ⟨gb107, _, none⟩) z1_ _).trans (hHeld.2))))⟩ (fun hHeld => ?_)
       clear hK K
       refine done_ (done_of HT_.out z0_) ?_
       have hnb42 := NB107_101.out
       have hnc42 := NB101_107.out
       obtain ⟨hcz43_0, hcz43_1⟩ := cz2 BK107.out
       obtain ⟨hfz43_0, hfz43_1⟩ := fz2 BK107.out
       try go_wp2_with (first | ((with_reducible refine gate_callee (f := 58) rfl ?_); refine gv 44 Tryz.func58 _ (spec_l1AddrOk.calls (w := _) (h := A23.out)) ?_; intro w44 hb; replace HO104 := fS HO104 BK107 hb; replace BK101 := kS BK101 hb; replace BK107 := kP (.cells #[.string (rdOf ByteArray.empty t102 0), .string (rdOf ByteArray.empty t102 1)] 32 (0, 0)) BK107 hb; replace HB := bS hb; clear hb; obtain ⟨hcz45_0, hcz45_1⟩ := cz2 BK101.out; obtain ⟨hfz45_0, hfz45_1⟩ := fz2 BK101.out))
       refine bodyPost_ret (results_ct rfl _ _ gb101 32 #[.string (⟨#[]⟩ : ByteArray), .string (⟨#[]⟩ : ByteArray)] (0, 0) _ rfl (kQ BK101) Tryz.underlying32 rfl z0_) rfl ?_
       exact ⟨zr, zB⟩
     ·simp only [Option.some.injEq, Prod.mk.injEq] at H
      obtain ⟨rfl, rfl, rfl⟩ := H
      go_wp2_with (first | ((with_reducible refine gate_callee (f := 84) rfl ?_); refine gl 31 Tryz.func84 _ ((spec_l1Cut.calls (w := _) (h := A19.out)).mono ?_); rintro e w46 ⟨v103, rfl, ho0, hb⟩; refine ⟨_, rfl, ?_⟩; have HO104 := lS ho0; replace BK101 := kS BK101 hb; replace HB := bS hb; clear hb ho0; obtain ⟨Ao47, co47, eo47⟩ := Kd.R_slice HO104.out; subst eo47; obtain ⟨hcz48_0, hcz48_1⟩ := cz2 BK101.out; obtain ⟨hfz48_0, hfz48_1⟩ := fz2 BK101.out))
      refine bodyPost_ret (results_ct rfl _ _ gb101 32 #[.string (⟨#[]⟩ : ByteArray), .string (⟨#[]⟩ : ByteArray)] (0, 0) _ rfl (kQ BK101) Tryz.underlying32 rfl z0_) rfl ?_
      exact ⟨zr, zB⟩
end Go.Proofs.YtbncnjgflhoneaaGreatDoor.F
