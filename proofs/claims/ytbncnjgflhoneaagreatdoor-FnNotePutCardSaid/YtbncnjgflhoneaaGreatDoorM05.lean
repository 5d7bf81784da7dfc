/- Of this claim, merged by program: F92, QD1, Z4, Z3, F94. -/
import Derived.Laws.BitsAllLaws
import Derived.Test.YtbncnjgflhoneaaGreatDoorM02
import Derived.Test.YtbncnjgflhoneaaGreatDoorM03
import Derived.Test.YtbncnjgflhoneaaGreatDoorM04
namespace Go.Proofs.YtbncnjgflhoneaaGreatDoor.F
open Go.RowKit Go.Proofs.YtbncnjgflhoneaaGreatDoor.Hand Go.Proofs.YtbncnjgflhoneaaGreatDoorW.PrintWords Go.Proofs.YtbncnjgflhoneaaGreatDoorW.PrintLast Go.Proofs.YtbncnjgflhoneaaGreatDoorW.PrintMore
set_option linter.unusedVariables false
set_option linter.unusedSimpArgs false
attribute [local go_sem high] eqA32
mutual
def spec_l20Mail.j0 : Nat → List Int → Int → ByteArray → ByteArray → List ByteArray → Option (ByteArray × ByteArray × (List (S32)) × List ByteArray × Int)
 | 0, _, _, _, _, _ => none
 | k + 1, x1000, x1001, x115000, x115001, x115003 => (spec_l20Rd_pick.f k x1000 x1001 4).bind fun bt117 => (spec_l20Mail.l0 k (wrap64 (1 + bt117.1)) x1000 bt117.2 x115000 x115001 ([] : List (S32)) x115003)
def spec_l20Mail.l0 : Nat → Int → List Int → Int → ByteArray → ByteArray → List (S32) → List ByteArray → Option (ByteArray × ByteArray × (List (S32)) × List ByteArray × Int)
 | 0, _, _, _, _, _, _, _ => none
 | k + 1, x4, x1000, x1001, x115000, x115001, x115002, x115003 => if x4 > 0 then ((spec_l20Addr.f k x1000 x1001).bind fun bt119 => (spec_l20Mail.l1 k x4 false 0 x1000 bt119.2.2 x115000 x115001 x115002 x115003 bt119.1 bt119.2.1)) else (some (x115000, x115001, x115002, x115003, x1001))
def spec_l20Mail.l1 : Nat → Int → Bool → Int → List Int → Int → ByteArray → ByteArray → List (S32) → List ByteArray → ByteArray → ByteArray → Option (ByteArray × ByteArray × (List (S32)) × List ByteArray × Int)
 | 0, _, _, _, _, _, _, _, _, _, _, _ => none
 | k + 1, x4, x6, x7, x1000, x1001, x115000, x115001, x115002, x115003, x123000, x123001 => if x7 < (x115002.length : Int) then (if x6 = true then (spec_l20Mail.l1 k x4 true (wrap64 (x7 + 1)) x1000 x1001 x115000 x115001 x115002 x115003 x123000 x123001) else (if 0 ≤ x7 then (spec_l20Mail.l1 k x4 ((((rd_T32 x115002 x7).f0).toList) == x123000.toList && ((((rd_T32 x115002 x7).f1).toList) == x123001.toList)) (wrap64 (x7 + 1)) x1000 x1001 x115000 x115001 x115002 x115003 x123000 x123001) else (none))) else (if x6 = true then (spec_l20Mail.l0 k (wrap64 (x4 - 1)) x1000 x1001 x115000 x115001 x115002 x115003) else (if x115002.length < 4398046511104 then (spec_l20Mail.l0 k (wrap64 (x4 - 1)) x1000 x1001 x115000 x115001 (x115002 ++ [(⟨x123000, x123001⟩ : S32)]) x115003) else (none)))
end
def spec_l20Mail.f (k : Nat) (s0_0 : List Int) (s0_1 : Int) : Option (ByteArray × ByteArray × (List (S32)) × List ByteArray × Int) := (spec_l20Addr.f k s0_0 s0_1).bind fun bt102 => ((spec_l20Rd_one.f k s0_0 bt102.2.2 (([1, 4, 9] : List Int))).bind fun bt108 => ((spec_l20Body.f k s0_0 bt108.2 bt108.1).bind fun bt110 => ((spec_l20Rd_pick.f k s0_0 bt110.2 5).bind fun bt115 => (if bt115.1 = 0 then (spec_l20Mail.j0 k s0_0 bt115.2 (⟨#[]⟩ : ByteArray) (⟨#[]⟩ : ByteArray) bt110.1) else (spec_l20Mail.j0 k s0_0 bt115.2 bt102.1 bt102.2.1 bt110.1)))))
set_option maxHeartbeats 8000000 in
set_option maxRecDepth 100000 in
theorem spec_l20Mail.calls (k : Nat) (g : Nat) (s0_0 : List Int) (s0_1 : Int) (r1 : ByteArray) (r2 : ByteArray) (r3 : List (S32)) (r4 : List ByteArray) (r5 : Int) (w0 w : World) (hI : IsS109 w0 w g s0_0 s0_1) (hB : Below w0.heap.size w0 w) (h : spec_l20Mail.f k s0_0 s0_1 = some (r1, r2, r3, r4, r5)) :
  Calls Tryz.prog 92 #[.pointer (some ⟨g, 0, none⟩)] w fun e w' => ∃ v2_ v3_ : Value, e = .returned (.agg #[.string r1, .string r2, v2_, v3_]) ∧ Kd.R k32 32 w' w.heap.size (fun _ => True) v2_ r3 ∧ Kd.R Kd.string 9 w' w.heap.size (fun _ => True) v3_ r4 ∧ IsS109 w0 w' g s0_0 r5 ∧ Below w0.heap.size w0 w' ∧ KeepBut w w' g none := by
 have hu35 := Tryz.underlying35
 have hu32 := Tryz.underlying32
 have HI0 := Aside0.mk hI
 have GI0_ := Aside0.mk (IsS109.ge HI0.out)
 have HK := Aside0.mk (KeepBut.refl w g none)
 have HL := Aside0.mk hB.size
 clear hI
 have HW0 := Aside0.mk hB.size
 have HB := Aside0.mk hB
 clear hB
 have H := h
 clear h
 unfold spec_l20Mail.f at H
 replace H := bnd H; obtain ⟨⟨t102, t103, t104⟩, A2, H⟩ := H
 dsimp only at H
 first | (with_reducible replace H := bns H; obtain ⟨y105, Ny105, H⟩ := H) | (generalize hy_ : (([1, 4, 9] : List Int) : List Int) = y105 at H; have Ny105 := Aside0.mk hy_.symm; clear hy_)
 replace H := bnd H; obtain ⟨⟨t108, t109⟩, A3, H⟩ := H
 dsimp only at H
 replace H := bnd H; obtain ⟨⟨t110, t113⟩, A4, H⟩ := H
 dsimp only at H
 replace H := bnd H; obtain ⟨⟨t115, t116⟩, A5, H⟩ := H
 dsimp only at H
 have HC6 := Aside0.mk H
 clear H
 go_enter Tryz.func92, Tryz.ntmps92
 go_upto_if 18 with (first | ((with_reducible refine gate_dst (N := 2) rfl ?_); refine bx (cs := #[.string ⟨#[]⟩, .string ⟨#[]⟩, .slice none 0 0, .slice none 0 0]) (t := 35) ?_; intro gb101 hg w7 hbox hb; have BK101 := Aside0.mk (hbox); have GW101 := GK HK hg; have GE101 := GT HK hg HW0; have NB0_101 := IL HI0 hg; have NB101_0 := IG HI0 hg; replace HI0 := IS HI0 hb; replace HK := KT HK hb; replace HB := bF HB hb; clear hb hbox hg) | (go_at_call 130; refine (spec_l20Addr.calls (w := _) (w0 := w0) (hI := zI) (hB := zB) (h := A2.out)).mono ?_; rintro e w8 ⟨rfl, hi, hb, hk⟩; replace BK101 := KB hk BK101 NB101_0; replace HK := KS HK hk; replace HI0 := Aside0.mk (hi); replace HB := Aside0.mk (hb); clear hb hk hi) | ((with_reducible refine gate_dst (N := 12) rfl ?_); refine Kd.R_lit (Kd.int .i64) _ 3 ?hg (N := 12) ?hd (xs := ([1, 4, 9] : List Int)) (inner := [.int .i64 1, .int .i64 4, .int .i64 9]) (ok := fun _ => True) (okp := fun _ => True) ?hr ?hp (fun _ hk => hk) trivial (Below.refl _ _) (Nat.le_refl _) (by simp) ?_; (case hd => rfl); (case hg => rfl); (case hr => first | (go_simp; done) | (go_simp; rfl)); (case hp => exact (Reps.one (show Kd.M (Kd.int .i64) _ _ _ 1 [.int .i64 1] from rfl) (Reps.one (show Kd.M (Kd.int .i64) _ _ _ 4 [.int .i64 4] from rfl) (Reps.one (show Kd.M (Kd.int .i64) _ _ _ 9 [.int .i64 9] from rfl) (Reps.none _ _))))); intro v106 w9 ho10 hb hg_ hnew_; clear hg_ hnew_; (first | rw [← Ny105.out] at ho10 | (simp only [Int.reduceToNat] at ho10; rw [← Ny105.out] at ho10)); have HO107 := lK HK ho10; replace BK101 := kS BK101 hb; replace HI0 := IS HI0 hb; replace HK := KT HK hb; replace HB := bF HB hb; clear hb ho10; obtain ⟨Ao11, co11, eo11⟩ := Kd.R_slice HO107.out; subst eo11) | (go_at_call 109; refine (spec_l20Rd_one.calls (w := _) (w0 := w0) (hI := zI) (hB := zB) (hr1 := rC HO107) (hc1 := cL HO107) (hf1 := far_slice (IsS109.own_ne HI0.out HO107.out z0_)) (h := A3.out)).mono ?_; rintro e w12 ⟨rfl, hi, hb, hk⟩; replace BK101 := KB hk BK101 NB101_0; replace HO107 := RK hk HO107 HI0; replace HK := KS HK hk; replace HI0 := Aside0.mk (hi); replace HB := Aside0.mk (hb); clear hb hk hi) | (go_at_call 131; refine (spec_l20Body.calls (w := _) (w0 := w0) (hI := zI) (hB := zB) (h := A4.out)).mono ?_; rintro e w13 ⟨v111, rfl, ho0, hi, hb, hk⟩; replace BK101 := KB hk BK101 NB101_0; replace HO107 := RK hk HO107 HI0; have HO112 := lK HK ho0; replace HK := KS HK hk; replace HI0 := Aside0.mk (hi); replace HB := Aside0.mk (hb); clear hb hk hi ho0; obtain ⟨Ao14, co14, eo14⟩ := Kd.R_slice HO112.out; subst eo14) | ((with_reducible refine gate_dst (N := 3) rfl ?_); refine bx (cs := #[.string ⟨#[]⟩, .string ⟨#[]⟩, .slice none 0 0, .slice none 0 0]) (t := 35) ?_; intro gb114 hg w15 hbox hb; replace HO107 := rS HO107 hb; replace HO112 := rS HO112 hb; have BK114 := Aside0.mk (hbox); have GW114 := GK HK hg; have GE114 := GT HK hg HW0; have NB101_114 := nS hg BK101; have NB114_101 := nG hg BK101; replace BK101 := kS BK101 hb; have NB0_114 := IL HI0 hg; have NB114_0 := IG HI0 hg; replace HI0 := IS HI0 hb; replace HK := KT HK hb; replace HB := bF HB hb; clear hb hbox hg; have hnb16 := NB114_101.out; have hnc16 := NB101_114.out; have hnb17 := NB114_0.out; have hnc17 := NB0_114.out; obtain ⟨hcz18_0, hcz18_1, hcz18_2, hcz18_3⟩ := cz4 BK114.out; obtain ⟨hfz18_0, hfz18_1, hfz18_2, hfz18_3⟩ := fz4 BK114.out) | (go_at_call 51; refine (spec_l20Rd_pick.calls (w := _) (w0 := w0) (hI := zI) (hB := zB) (h := A5.out)).mono ?_; rintro e w19 ⟨rfl, hi, hb, hk⟩; replace BK101 := KB hk BK101 NB101_0; replace HO107 := RG hk HO107 BK114 HI0; replace HO112 := RG hk HO112 BK114 HI0; replace BK114 := KP (.cells #[.string t102, .string t103, .slice none 0 0, .slice Ao14 t110.length co14] 35 (0, 0)) hk BK114 NB114_0; replace HK := KS HK hk; replace HI0 := Aside0.mk (hi); replace HB := Aside0.mk (hb); clear hb hk hi))
 repeat (go_quiet (first | ((with_reducible refine gate_dst (N := 2) rfl ?_); refine bx (cs := #[.string ⟨#[]⟩, .string ⟨#[]⟩, .slice none 0 0, .slice none 0 0]) (t := 35) ?_; intro gb101 hg w7 hbox hb; have BK101 := Aside0.mk (hbox); have GW101 := GK HK hg; have GE101 := GT HK hg HW0; have NB0_101 := IL HI0 hg; have NB101_0 := IG HI0 hg; replace HI0 := IS HI0 hb; replace HK := KT HK hb; replace HB := bF HB hb; clear hb hbox hg) | (go_at_call 130; refine (spec_l20Addr.calls (w := _) (w0 := w0) (hI := zI) (hB := zB) (h := A2.out)).mono ?_; rintro e w8 ⟨rfl, hi, hb, hk⟩; replace BK101 := KB hk BK101 NB101_0; replace HK := KS HK hk; replace HI0 := Aside0.mk (hi); replace HB := Aside0.mk (hb); clear hb hk hi) | ((with_reducible refine gate_dst (N := 12) rfl ?_); refine Kd.R_lit (Kd.int .i64) _ 3 ?hg (N := 12) ?hd (xs := ([1, 4, 9] : List Int)) (inner := [.int .i64 1, .int .i64 4, .int .i64 9]) (ok := fun _ => True) (okp := fun _ => True) ?hr ?hp (fun _ hk => hk) trivial (Below.refl _ _) (Nat.le_refl _) (by simp) ?_; (case hd => rfl); (case hg => rfl); (case hr => first | (go_simp; done) | (go_simp; rfl)); (case hp => exact (Reps.one (show Kd.M (Kd.int .i64) _ _ _ 1 [.int .i64 1] from rfl) (Reps.one (show Kd.M (Kd.int .i64) _ _ _ 4 [.int .i64 4] from rfl) (Reps.one (show Kd.M (Kd.int .i64) _ _ _ 9 [.int .i64 9] from rfl) (Reps.none _ _))))); intro v106 w9 ho10 hb hg_ hnew_; clear hg_ hnew_; (first | rw [← Ny105.out] at ho10 | (simp only [Int.reduceToNat] at ho10; rw [← Ny105.out] at ho10)); have HO107 := lK HK ho10; replace BK101 := kS BK101 hb; replace HI0 := IS HI0 hb; replace HK := KT HK hb; replace HB := bF HB hb; clear hb ho10; obtain ⟨Ao11, co11, eo11⟩ := Kd.R_slice HO107.out; subst eo11) | (go_at_call 109; refine (spec_l20Rd_one.calls (w := _) (w0 := w0) (hI := zI) (hB := zB) (hr1 := rC HO107) (hc1 := cL HO107) (hf1 := far_slice (IsS109.own_ne HI0.out HO107.out z0_)) (h := A3.out)).mono ?_; rintro e w12 ⟨rfl, hi, hb, hk⟩; replace BK101 := KB hk BK101 NB101_0; replace HO107 := RK hk HO107 HI0; replace HK := KS HK hk; replace HI0 := Aside0.mk (hi); replace HB := Aside0.mk (hb); clear hb hk hi) | (go_at_call 131; refine (spec_l20Body.calls (w := _) (w0 := w0) (hI := zI) (hB := zB) (h := A4.out)).mono ?_; rintro e w13 ⟨v111, rfl, ho0, hi, hb, hk⟩; replace BK101 := KB hk BK101 NB101_0; replace HO107 := RK hk HO107 HI0; have HO112 := lK HK ho0; replace HK := KS HK hk; replace HI0 := Aside0.mk (hi); replace HB := Aside0.mk (hb); clear hb hk hi ho0; obtain ⟨Ao14, co14, eo14⟩ := Kd.R_slice HO112.out; subst eo14) | ((with_reducible refine gate_dst (N := 3) rfl ?_); refine bx (cs := #[.string ⟨#[]⟩, .string ⟨#[]⟩, .slice none 0 0, .slice none 0 0]) (t := 35) ?_; intro gb114 hg w15 hbox hb; replace HO107 := rS HO107 hb; replace HO112 := rS HO112 hb; have BK114 := Aside0.mk (hbox); have GW114 := GK HK hg; have GE114 := GT HK hg HW0; have NB101_114 := nS hg BK101; have NB114_101 := nG hg BK101; replace BK101 := kS BK101 hb; have NB0_114 := IL HI0 hg; have NB114_0 := IG HI0 hg; replace HI0 := IS HI0 hb; replace HK := KT HK hb; replace HB := bF HB hb; clear hb hbox hg; have hnb16 := NB114_101.out; have hnc16 := NB101_114.out; have hnb17 := NB114_0.out; have hnc17 := NB0_114.out; obtain ⟨hcz18_0, hcz18_1, hcz18_2, hcz18_3⟩ := cz4 BK114.out; obtain ⟨hfz18_0, hfz18_1, hfz18_2, hfz18_3⟩ := fz4 BK114.out) | (go_at_call 51; refine (spec_l20Rd_pick.calls (w := _) (w0 := w0) (hI := zI) (hB := zB) (h := A5.out)).mono ?_; rintro e w19 ⟨rfl, hi, hb, hk⟩; replace BK101 := KB hk BK101 NB101_0; replace HO107 := RG hk HO107 BK114 HI0; replace HO112 := RG hk HO112 BK114 HI0; replace BK114 := KP (.cells #[.string t102, .string t103, .slice none 0 0, .slice Ao14 t110.length co14] 35 (0, 0)) hk BK114 NB114_0; replace HK := KS HK hk; replace HI0 := Aside0.mk (hi); replace HB := Aside0.mk (hb); clear hb hk hi)); go_upto_if 18 with (first | ((with_reducible refine gate_dst (N := 2) rfl ?_); refine box_event ?hg (N := 2) ?hd (cs := #[.string ⟨#[]⟩, .string ⟨#[]⟩, .slice none 0 0, .slice none 0 0]) (t := 35) ?hr ?_; (case hd => rfl); (case hg => rfl); (case hr => first | (go_simp; done) | (go_simp; rfl)); intro gb101 hg w7 hbox hb; have n0_ := IS HI0 hb; have n1_ := KT HK hb; have n2_ := bF HB hb; have n3_ := Aside0.mk (hbox); have n4_ := GK HK hg; have n5_ := GT HK hg HW0; have n6_ := IL HI0 hg; have n7_ := IG HI0 hg; clear HI0; clear HK; clear HB; have HI0 := n0_; have HK := n1_; have HB := n2_; have BK101 := n3_; have GW101 := n4_; have GE101 := n5_; have NB0_101 := n6_; have NB101_0 := n7_; clear n0_ n1_ n2_ n3_ n4_ n5_ n6_ n7_; clear hb hbox hg) | (go_at_call 130; (with_reducible refine (spec_l20Addr.calls k g s0_0 s0_1 t102 t103 t104 w0 _ ?side1 ?side2 A2.out).mono ?_); (case side1 => repeat (first | (with_reducible first | exact HI0.out | apply IsS109.alloc | apply IsS109.drewN | apply IsS109.drew | apply IsS109.set_1 | refine IsS109.far ?_ NB0_101.out _) | exact HI0.out)); (case side2 => repeat (first | (with_reducible first | exact HB.out | apply below_alloc | apply pw_below_drewN | apply below_drew1 | refine below_set ?_ (IsS109.ge HI0.out) | refine below_set ?_ GE101.out) | exact HB.out)); rintro e w8 ⟨rfl, hi, hb, hk⟩; have n0_ := KB hk BK101 NB101_0; have n1_ := KS HK hk; have n2_ := Aside0.mk (hb); have n3_ := Aside0.mk (hi); clear BK101; clear HK; clear HB; clear HI0; have BK101 := n0_; have HK := n1_; have HB := n2_; have HI0 := n3_; clear n0_ n1_ n2_ n3_; (try clear hb); (try clear hb2); (try clear hk); (try clear hi)) | ((with_reducible refine gate_dst (N := 12) rfl ?_); refine Kd.R_lit (Kd.int .i64) _ 3 ?hg (N := 12) ?hd (xs := ([1, 4, 9] : List Int)) (inner := [.int .i64 1, .int .i64 4, .int .i64 9]) (ok := fun _ => True) (okp := fun _ => True) ?hr ?hp (fun _ hk => hk) trivial (Below.refl _ _) (Nat.le_refl _) (by simp) ?_; (case hd => rfl); (case hg => rfl); (case hr => first | (go_simp; done) | (go_simp; rfl)); (case hp => exact (Reps.one (show Kd.M (Kd.int .i64) _ _ _ 1 [.int .i64 1] from rfl) (Reps.one (show Kd.M (Kd.int .i64) _ _ _ 4 [.int .i64 4] from rfl) (Reps.one (show Kd.M (Kd.int .i64) _ _ _ 9 [.int .i64 9] from rfl) (Reps.none _ _))))); intro v106 w9 ho10 hb hg_ hnew_; clear hg_ hnew_; (first | rw [← Ny105.out] at ho10 | (simp only [Int.reduceToNat] at ho10; rw [← Ny105.out] at ho10)); have n0_ := lK HK ho10; have n1_ := IS HI0 hb; have n2_ := kS BK101 hb; have n3_ := KT HK hb; have n4_ := bF HB hb; clear HI0; clear BK101; clear HK; clear HB; have HO107 := n0_; have HI0 := n1_; have BK101 := n2_; have HK := n3_; have HB := n4_; clear n0_ n1_ n2_ n3_ n4_; clear hb ho10; obtain ⟨Ao11, co11, eo11⟩ := Kd.R_slice HO107.out; subst eo11) | (go_at_call 109; (with_reducible refine (spec_l20Rd_one.calls k g s0_0 t104 _ _ y105 t108 t109 w0 _ ?side1 ?side2 ?side3 ?side4 ?side5 A3.out).mono ?_); (case side1 => repeat (first | (with_reducible first | exact HI0.out | apply IsS109.alloc | apply IsS109.drewN | apply IsS109.drew | apply IsS109.set_1 | refine IsS109.far ?_ NB0_101.out _) | exact HI0.out)); (case side2 => repeat (first | (with_reducible first | exact HB.out | apply below_alloc | apply pw_below_drewN | apply below_drew1 | refine below_set ?_ (IsS109.ge HI0.out) | refine below_set ?_ GE101.out) | exact HB.out)); (case side3 => repeat (first | exact (Kd.R_reads' HO107.out).2.2 | (with_reducible refine Kd.C_alloc ?_ _) | (with_reducible refine Kd.C_drewN ?_ _) | (with_reducible refine Kd.C_drew ?_))); (case side4 => exact (Kd.R_reads' HO107.out).2.1); (case side5 => exact far_slice (IsS109.own_ne HI0.out HO107.out z0_)); rintro e w12 ⟨rfl, hi, hb, hk⟩; have n0_ := KB hk BK101 NB101_0; have n1_ := RK hk HO107 HI0; have n2_ := KS HK hk; have n3_ := Aside0.mk (hb); have n4_ := Aside0.mk (hi); clear BK101; clear HO107; clear HK; clear HB; clear HI0; have BK101 := n0_; have HO107 := n1_; have HK := n2_; have HB := n3_; have HI0 := n4_; clear n0_ n1_ n2_ n3_ n4_; (try clear hb); (try clear hb2); (try clear hk); (try clear hi)) | (go_at_call 131; (with_reducible refine (spec_l20Body.calls k g s0_0 t109 t108 t110 t113 w0 _ ?side1 ?side2 A4.out).mono ?_); (case side1 => repeat (first | (with_reducible first | exact HI0.out | apply IsS109.alloc | apply IsS109.drewN | apply IsS109.drew | apply IsS109.set_1 | refine IsS109.far ?_ NB0_101.out _) | exact HI0.out)); (case side2 => repeat (first | (with_reducible first | exact HB.out | apply below_alloc | apply pw_below_drewN | apply below_drew1 | refine below_set ?_ (IsS109.ge HI0.out) | refine below_set ?_ GE101.out) | exact HB.out)); rintro e w13 ⟨v111, rfl, ho0, hi, hb, hk⟩; have n0_ := KB hk BK101 NB101_0; have n1_ := RK hk HO107 HI0; have n2_ := lK HK ho0; have n3_ := KS HK hk; have n4_ := Aside0.mk (hb); have n5_ := Aside0.mk (hi); clear BK101; clear HO107; clear HK; clear HB; clear HI0; have BK101 := n0_; have HO107 := n1_; have HO112 := n2_; have HK := n3_; have HB := n4_; have HI0 := n5_; clear n0_ n1_ n2_ n3_ n4_ n5_; (try clear hb); (try clear hb2); (try clear hk); (try clear hi); (try clear ho0); obtain ⟨Ao14, co14, eo14⟩ := Kd.R_slice HO112.out; subst eo14) | ((with_reducible refine gate_dst (N := 3) rfl ?_); refine box_event ?hg (N := 3) ?hd (cs := #[.string ⟨#[]⟩, .string ⟨#[]⟩, .slice none 0 0, .slice none 0 0]) (t := 35) ?hr ?_; (case hd => rfl); (case hg => rfl); (case hr => first | (go_simp; done) | (go_simp; rfl)); intro gb114 hg w15 hbox hb; have n0_ := rS HO107 hb; have n1_ := rS HO112 hb; have n2_ := IS HI0 hb; have n3_ := kS BK101 hb; have n4_ := KT HK hb; have n5_ := bF HB hb; have n6_ := Aside0.mk (hbox); have n7_ := GK HK hg; have n8_ := GT HK hg HW0; have n9_ := nS hg BK101; have n10_ := nG hg BK101; have n11_ := IL HI0 hg; have n12_ := IG HI0 hg; clear HO107; clear HO112; clear HI0; clear BK101; clear HK; clear HB; have HO107 := n0_; have HO112 := n1_; have HI0 := n2_; have BK101 := n3_; have HK := n4_; have HB := n5_; have BK114 := n6_; have GW114 := n7_; have GE114 := n8_; have NB101_114 := n9_; have NB114_101 := n10_; have NB0_114 := n11_; have NB114_0 := n12_; clear n0_ n1_ n2_ n3_ n4_ n5_ n6_ n7_ n8_ n9_ n10_ n11_ n12_; clear hb hbox hg; have hnb16 := NB114_101.out; have hnc16 := NB101_114.out; have hnb17 := NB114_0.out; have hnc17 := NB0_114.out; have hcz18_0 : w15.cell? ⟨gb114, 0, none⟩ = some (.string ⟨#[]⟩) := (blk_cell BK114.out 0).trans rfl; have hcz18_1 : w15.cell? ⟨gb114, 1, none⟩ = some (.string ⟨#[]⟩) := (blk_cell BK114.out 1).trans rfl; have hcz18_2 : w15.cell? ⟨gb114, 2, none⟩ = some (.slice none 0 0) := (blk_cell BK114.out 2).trans rfl; have hcz18_3 : w15.cell? ⟨gb114, 3, none⟩ = some (.slice none 0 0) := (blk_cell BK114.out 3).trans rfl; have hfz18_0 := blk_frozen BK114.out 0; have hfz18_1 := blk_frozen BK114.out 1; have hfz18_2 := blk_frozen BK114.out 2; have hfz18_3 := blk_frozen BK114.out 3) | (go_at_call 51; (with_reducible refine (spec_l20Rd_pick.calls k g s0_0 t113 5 t115 t116 w0 _ ?side1 ?side2 A5.out).mono ?_); (case side1 => repeat (first | (with_reducible first | exact HI0.out | apply IsS109.alloc | apply IsS109.drewN | apply IsS109.drew | apply IsS109.set_1 | refine IsS109.far ?_ NB0_101.out _ | refine IsS109.far ?_ NB0_114.out _) | exact HI0.out)); (case side2 => repeat (first | (with_reducible first | exact HB.out | apply below_alloc | apply pw_below_drewN | apply below_drew1 | refine below_set ?_ (IsS109.ge HI0.out) | refine below_set ?_ GE101.out | refine below_set ?_ GE114.out) | exact HB.out)); rintro e w19 ⟨rfl, hi, hb, hk⟩; have n0_ := KB hk BK101 NB101_0; have n1_ := RG hk HO107 BK114 HI0; have n2_ := RG hk HO112 BK114 HI0; have n3_ := KP (.cells #[.string t102, .string t103, .slice none 0 0, .slice Ao14 t110.length co14] 35 (0, 0)) hk BK114 NB114_0; have n4_ := KS HK hk; have n5_ := Aside0.mk (hb); have n6_ := Aside0.mk (hi); clear BK101; clear HO107; clear HO112; clear BK114; clear HK; clear HB; clear HI0; have BK101 := n0_; have HO107 := n1_; have HO112 := n2_; have BK114 := n3_; have HK := n4_; have HB := n5_; have HI0 := n6_; clear n0_ n1_ n2_ n3_ n4_ n5_ n6_; (try clear hb); (try clear hb2); (try clear hk); (try clear hi))))
 (try simp only [Act.put, List.setIfInBounds_toArray, List.set_cons_zero, List.set_cons_succ])
 go_cut [] (fun wc => ∃ (kq : Nat) (x115000_5 : ByteArray) (x115001_5 : ByteArray), Aside0 (spec_l20Mail.j0 kq s0_0 t116 x115000_5 x115001_5 t110 = some (r1, r2, r3, r4, r5)) ∧ Aside0 (kq ≤ k) ∧ Aside0 (Kd.R Kd.string 9 wc w.heap.size (fun _ => True) (.slice Ao14 t110.length co14) t110) ∧ Aside0 (wc.heap[gb101]? = some (.cells #[.string (⟨#[]⟩ : ByteArray), .string (⟨#[]⟩ : ByteArray), (.slice none 0 0), (.slice none 0 0)] 35 (0, 0))) ∧ Aside0 (wc.heap[gb114]? = some (.cells #[.string x115000_5, .string x115001_5, (.slice none 0 0), (.slice Ao14 t110.length co14)] 35 (0, 0))) ∧ Aside0 (IsS109 w0 wc g s0_0 t116) ∧ Aside0 (KeepBut w wc g none) ∧ Aside0 (Below w0.heap.size w0 wc))
 case first =>
  have H := HC6.out
  clear HC6
  replace H := its_qn_cqn H; rcases H with ⟨c20b0, c20b1, H⟩ | ⟨c20, c20b0, c20b1, H⟩
  ·(first | rw [c20b0] | (simp only [i64_w, i32_w]; rw [c20b0]) | skip)
   have H' := Aside0.mk H
   clear H
   have hnb21 := NB114_101.out
   have hnc21 := NB101_114.out
   have hnb22 := NB114_0.out
   have hnc22 := NB0_114.out
   have hcz23 := cz4 BK114.out
   have hfz23 := fz4 BK114.out
   go_wp2
   repeat (go_quiet (fail); try go_wp2)
   go_meet
   case rel => exact ⟨_, ((⟨#[]⟩ : ByteArray)), ((⟨#[]⟩ : ByteArray)), H', ⟨by first | omega | exact Nat.le_refl _⟩, ⟨fM HO112 BK114 (fun _ hk => trivial)⟩, ⟨kQ BK101⟩, ⟨kQ BK114⟩, ⟨zI⟩, ⟨zK⟩, ⟨zB⟩⟩
  ·(first | rw [c20b0] | (simp only [i64_w, i32_w]; rw [c20b0]) | skip)
   have H' := Aside0.mk H
   clear H
   go_wp2
   repeat (go_quiet (fail); try go_wp2)
   go_meet
   case rel => exact ⟨_, (t102), (t103), H', ⟨by first | omega | exact Nat.le_refl _⟩, ⟨rO HO112⟩, ⟨kQ BK101⟩, ⟨kQ BK114⟩, ⟨zI⟩, ⟨zK⟩, ⟨zB⟩⟩
 case rest =>
  clear HC6
  obtain ⟨kq, x115000_5, x115001_5, HA, HJ5, HO_115003, BK101, BK114, HI0, HK, HB⟩ := hcut
  cases kq with
  | zero => exact absurd HA.out (by simp [spec_l20Mail.j0])
  | succ kj5 =>
   have H := HA.out
   clear HA
   simp only [spec_l20Mail.j0] at H
   replace H := bnd H; obtain ⟨⟨t117, t118⟩, A24, H⟩ := H
   dsimp only at H
   have H' := Aside0.mk H
   clear H
   go_wp2_with (first | (go_at_call 51; refine (spec_l20Rd_pick.calls (w := _) (w0 := w0) (hI := zI) (hB := zB) (h := A24.out)).mono ?_; rintro e w25 ⟨rfl, hi, hb, hk⟩; replace HO_115003 := RK hk HO_115003 HI0; replace BK101 := KB hk BK101 NB101_0; replace BK114 := KB hk BK114 NB114_0; replace HK := KS HK hk; replace HI0 := Aside0.mk (hi); replace HB := Aside0.mk (hb); clear hb hk hi))
   repeat (go_quiet (first | (go_at_call 51; refine (spec_l20Rd_pick.calls (w := _) (w0 := w0) (hI := zI) (hB := zB) (h := A24.out)).mono ?_; rintro e w25 ⟨rfl, hi, hb, hk⟩; replace HO_115003 := RK hk HO_115003 HI0; replace BK101 := KB hk BK101 NB101_0; replace BK114 := KB hk BK114 NB114_0; replace HK := KS HK hk; replace HI0 := Aside0.mk (hi); replace HB := Aside0.mk (hb); clear hb hk hi)); try go_wp2_with (first | (go_at_call 51; (with_reducible refine (spec_l20Rd_pick.calls kj5 g s0_0 t116 4 t117 t118 w0 _ ?side1 ?side2 A24.out).mono ?_); (case side1 => repeat (first | (with_reducible first | exact HI0.out | apply IsS109.alloc | apply IsS109.drewN | apply IsS109.drew | apply IsS109.set_1 | refine IsS109.far ?_ NB0_101.out _ | refine IsS109.far ?_ NB0_114.out _) | exact HI0.out)); (case side2 => repeat (first | (with_reducible first | exact HB.out | apply below_alloc | apply pw_below_drewN | apply below_drew1 | refine below_set ?_ (IsS109.ge HI0.out) | refine below_set ?_ GE101.out | refine below_set ?_ GE114.out) | exact HB.out)); rintro e w25 ⟨rfl, hi, hb, hk⟩; have n0_ := RK hk HO_115003 HI0; have n1_ := KB hk BK101 NB101_0; have n2_ := KB hk BK114 NB114_0; have n3_ := KS HK hk; have n4_ := Aside0.mk (hb); have n5_ := Aside0.mk (hi); clear HO_115003; clear BK101; clear BK114; clear HK; clear HB; clear HI0; have HO_115003 := n0_; have BK101 := n1_; have BK114 := n2_; have HK := n3_; have HB := n4_; have HI0 := n5_; clear n0_ n1_ n2_ n3_ n4_ n5_; (try clear hb); (try clear hb2); (try clear hk); (try clear hi))))
   go_loopg [4] kj5 (fun kq v4 w' => ∃ (x4_2 : Int) (x1001_2 : Int) (x115002_2 : List (S32)) (u115002 : Value), v4 = .int .i64 x4_2 ∧ Aside0 (spec_l20Mail.l0 kq x4_2 s0_0 x1001_2 x115000_5 x115001_5 x115002_2 t110 = some (r1, r2, r3, r4, r5)) ∧ Aside0 (kq ≤ kj5) ∧ Aside0 (Kd.R k32 32 w' w.heap.size (fun _ => True) u115002 x115002_2) ∧ Aside0 (Kd.R Kd.string 9 w' w.heap.size (fun _ => True) (.slice Ao14 t110.length co14) t110) ∧ Aside0 (w'.heap[gb101]? = some (.cells #[.string (⟨#[]⟩ : ByteArray), .string (⟨#[]⟩ : ByteArray), (.slice none 0 0), (.slice none 0 0)] 35 (0, 0))) ∧ Aside0 (w'.heap[gb114]? = some (.cells #[.string x115000_5, .string x115001_5, u115002, (.slice Ao14 t110.length co14)] 35 (0, 0))) ∧ Aside0 (IsS109 w0 w' g s0_0 x1001_2) ∧ Aside0 (KeepBut w w' g none) ∧ Aside0 (Below w0.heap.size w0 w'))
   case atStart => exact ⟨(wrap64 (1 + t117)), (t118), (([] : List (S32))), (.slice none 0 0), zs, H', ⟨Nat.le_refl _⟩, ⟨zn⟩, ⟨rO HO_115003⟩, ⟨kQ BK101⟩, ⟨kQ BK114⟩, ⟨zI⟩, ⟨zK⟩, ⟨zB⟩⟩
   case round =>
    clear H'
    obtain ⟨x4_2, x1001_2, x115002_2, u115002, rfl, HA, HK2, HO_115002, HO_115003, BK101, BK114, HI0, HK, HB⟩ := hrel
    cases gk with
    | zero => exact absurd HA.out (by simp [spec_l20Mail.l0])
    | succ k2 =>
     have H := HA.out
     clear HA
     simp only [spec_l20Mail.l0] at H
     replace H := its_d_d H; rcases H with ⟨c26b0, H⟩ | ⟨c26b0, H⟩
     ·replace H := bnd H; obtain ⟨⟨t119, t120, t121⟩, A27, H⟩ := H
      dsimp only at H
      have H' := Aside0.mk H
      clear H
      go_wp2_with (first | (go_at_call 130; refine (spec_l20Addr.calls (w := _) (w0 := w0) (hI := zI) (hB := zB) (h := A27.out)).mono ?_; rintro e w28 ⟨rfl, hi, hb, hk⟩; replace HO_115002 := RK hk HO_115002 HI0; replace HO_115003 := RK hk HO_115003 HI0; replace BK101 := KB hk BK101 NB101_0; replace BK114 := KB hk BK114 NB114_0; replace HK := KS HK hk; replace HI0 := Aside0.mk (hi); replace HB := Aside0.mk (hb); clear hb hk hi) | ((with_reducible refine gate_dst (N := 5) rfl ?_); refine bx (cs := #[.string ⟨#[]⟩, .string ⟨#[]⟩]) (t := 32) ?_; intro gb122 hg w29 hbox hb; replace HO_115002 := Aside0.mk (Kd.R_below (Kd.R_elderB (rO HO_115002) gb122 (Nat.le_of_eq hg.symm)) hb); replace HO_115003 := rS HO_115003 hb; have BK122 := Aside0.mk (hbox); have GW122 := GK HK hg; have GE122 := GT HK hg HW0; have NB101_122 := nS hg BK101; have NB122_101 := nG hg BK101; replace BK101 := kS BK101 hb; have NB114_122 := nS hg BK114; have NB122_114 := nG hg BK114; replace BK114 := kS BK114 hb; have NB0_122 := IL HI0 hg; have NB122_0 := IG HI0 hg; replace HI0 := IS HI0 hb; replace HK := KT HK hb; replace HB := bF HB hb; clear hb hbox hg; have hnb30 := NB122_101.out; have hnc30 := NB101_122.out; have hnb31 := NB122_114.out; have hnc31 := NB114_122.out; have hnb32 := NB122_0.out; have hnc32 := NB0_122.out; obtain ⟨hcz33_0, hcz33_1⟩ := cz2 BK122.out; obtain ⟨hfz33_0, hfz33_1⟩ := fz2 BK122.out))
      repeat (go_quiet (first | (go_at_call 130; refine (spec_l20Addr.calls (w := _) (w0 := w0) (hI := zI) (hB := zB) (h := A27.out)).mono ?_; rintro e w28 ⟨rfl, hi, hb, hk⟩; replace HO_115002 := RK hk HO_115002 HI0; replace HO_115003 := RK hk HO_115003 HI0; replace BK101 := KB hk BK101 NB101_0; replace BK114 := KB hk BK114 NB114_0; replace HK := KS HK hk; replace HI0 := Aside0.mk (hi); replace HB := Aside0.mk (hb); clear hb hk hi) | ((with_reducible refine gate_dst (N := 5) rfl ?_); refine bx (cs := #[.string ⟨#[]⟩, .string ⟨#[]⟩]) (t := 32) ?_; intro gb122 hg w29 hbox hb; replace HO_115002 := Aside0.mk (Kd.R_below (Kd.R_elderB (rO HO_115002) gb122 (Nat.le_of_eq hg.symm)) hb); replace HO_115003 := rS HO_115003 hb; have BK122 := Aside0.mk (hbox); have GW122 := GK HK hg; have GE122 := GT HK hg HW0; have NB101_122 := nS hg BK101; have NB122_101 := nG hg BK101; replace BK101 := kS BK101 hb; have NB114_122 := nS hg BK114; have NB122_114 := nG hg BK114; replace BK114 := kS BK114 hb; have NB0_122 := IL HI0 hg; have NB122_0 := IG HI0 hg; replace HI0 := IS HI0 hb; replace HK := KT HK hb; replace HB := bF HB hb; clear hb hbox hg; have hnb30 := NB122_101.out; have hnc30 := NB101_122.out; have hnb31 := NB122_114.out; have hnc31 := NB114_122.out; have hnb32 := NB122_0.out; have hnc32 := NB0_122.out; obtain ⟨hcz33_0, hcz33_1⟩ := cz2 BK122.out; obtain ⟨hfz33_0, hfz33_1⟩ := fz2 BK122.out)); try go_wp2_with (first | (go_at_call 130; (with_reducible refine (spec_l20Addr.calls k2 g s0_0 x1001_2 t119 t120 t121 w0 _ ?side1 ?side2 A27.out).mono ?_); (case side1 => repeat (first | (with_reducible first | exact HI0.out | apply IsS109.alloc | apply IsS109.drewN | apply IsS109.drew | apply IsS109.set_1 | refine IsS109.far ?_ NB0_101.out _ | refine IsS109.far ?_ NB0_114.out _) | exact HI0.out)); (case side2 => repeat (first | (with_reducible first | exact HB.out | apply below_alloc | apply pw_below_drewN | apply below_drew1 | refine below_set ?_ (IsS109.ge HI0.out) | refine below_set ?_ GE101.out | refine below_set ?_ GE114.out) | exact HB.out)); rintro e w28 ⟨rfl, hi, hb, hk⟩; have n0_ := RK hk HO_115002 HI0; have n1_ := RK hk HO_115003 HI0; have n2_ := KB hk BK101 NB101_0; have n3_ := KB hk BK114 NB114_0; have n4_ := KS HK hk; have n5_ := Aside0.mk (hb); have n6_ := Aside0.mk (hi); clear HO_115002; clear HO_115003; clear BK101; clear BK114; clear HK; clear HB; clear HI0; have HO_115002 := n0_; have HO_115003 := n1_; have BK101 := n2_; have BK114 := n3_; have HK := n4_; have HB := n5_; have HI0 := n6_; clear n0_ n1_ n2_ n3_ n4_ n5_ n6_; (try clear hb); (try clear hb2); (try clear hk); (try clear hi)) | ((with_reducible refine gate_dst (N := 5) rfl ?_); refine box_event ?hg (N := 5) ?hd (cs := #[.string ⟨#[]⟩, .string ⟨#[]⟩]) (t := 32) ?hr ?_; (case hd => rfl); (case hg => rfl); (case hr => first | (go_simp; done) | (go_simp; rfl)); intro gb122 hg w29 hbox hb; have n0_ := Aside0.mk (Kd.R_below (Kd.R_elderB (rO HO_115002) gb122 (Nat.le_of_eq hg.symm)) hb); have n1_ := rS HO_115003 hb; have n2_ := kS BK101 hb; have n3_ := kS BK114 hb; have n4_ := IS HI0 hb; have n5_ := KT HK hb; have n6_ := bF HB hb; have n7_ := Aside0.mk (hbox); have n8_ := GK HK hg; have n9_ := GT HK hg HW0; have n10_ := nS hg BK101; have n11_ := nG hg BK101; have n12_ := nS hg BK114; have n13_ := nG hg BK114; have n14_ := IL HI0 hg; have n15_ := IG HI0 hg; clear HO_115002; clear HO_115003; clear BK101; clear BK114; clear HI0; clear HK; clear HB; have HO_115002 := n0_; have HO_115003 := n1_; have BK101 := n2_; have BK114 := n3_; have HI0 := n4_; have HK := n5_; have HB := n6_; have BK122 := n7_; have GW122 := n8_; have GE122 := n9_; have NB101_122 := n10_; have NB122_101 := n11_; have NB114_122 := n12_; have NB122_114 := n13_; have NB0_122 := n14_; have NB122_0 := n15_; clear n0_ n1_ n2_ n3_ n4_ n5_ n6_ n7_ n8_ n9_ n10_ n11_ n12_ n13_ n14_ n15_; clear hb hbox hg; have hnb30 := NB122_101.out; have hnc30 := NB101_122.out; have hnb31 := NB122_114.out; have hnc31 := NB114_122.out; have hnb32 := NB122_0.out; have hnc32 := NB0_122.out; have hcz33_0 : w29.cell? ⟨gb122, 0, none⟩ = some (.string ⟨#[]⟩) := (blk_cell BK122.out 0).trans rfl; have hcz33_1 : w29.cell? ⟨gb122, 1, none⟩ = some (.string ⟨#[]⟩) := (blk_cell BK122.out 1).trans rfl; have hfz33_0 := blk_frozen BK122.out 0; have hfz33_1 := blk_frozen BK122.out 1)))
      go_loopg [6, 7] k2 (fun kq v6 v7 w' => ∃ (x6_3 : Bool) (x7_3 : Int), v6 = .bool x6_3 ∧ v7 = .int .i64 x7_3 ∧ Aside0 (spec_l20Mail.l1 kq x4_2 x6_3 x7_3 s0_0 t121 x115000_5 x115001_5 x115002_2 t110 t119 t120 = some (r1, r2, r3, r4, r5)) ∧ Aside0 (kq ≤ k2) ∧ Aside0 (Kd.R k32 32 w' w.heap.size (fun k_ => k_ ≠ gb122) u115002 x115002_2) ∧ Aside0 (Kd.R Kd.string 9 w' w.heap.size (fun _ => True) (.slice Ao14 t110.length co14) t110) ∧ Aside0 (w'.heap[gb101]? = some (.cells #[.string (⟨#[]⟩ : ByteArray), .string (⟨#[]⟩ : ByteArray), (.slice none 0 0), (.slice none 0 0)] 35 (0, 0))) ∧ Aside0 (w'.heap[gb114]? = some (.cells #[.string x115000_5, .string x115001_5, u115002, (.slice Ao14 t110.length co14)] 35 (0, 0))) ∧ Aside0 (w'.heap[gb122]? = some (.cells #[.string t119, .string t120] 32 (0, 0))) ∧ Aside0 (IsS109 w0 w' g s0_0 t121) ∧ Aside0 (KeepBut w w' g none) ∧ Aside0 (Below w0.heap.size w0 w'))
      case atStart => exact ⟨(false), (0), zs, zs, H', ⟨Nat.le_refl _⟩, ⟨by (with_reducible repeat (first | apply Kd.R_alloc | apply Kd.R_drewN | apply Kd.R_drew)); exact Kd.R_mono (Kd.R_far (p := ⟨gb122, 1, none⟩) (Kd.R_far (p := ⟨gb122, 0, none⟩) (Kd.R_mono HO_115002.out (fun k_ hk => (⟨hk, hk.2⟩ : _ ∧ k_ ≠ gb122))) (fun _ hk => hk.2) (.string t119)) (fun _ hk => hk.2) (.string t120)) (fun _ hk => hk.1.2)⟩, ⟨fM HO_115003 BK122 (fun _ hk => trivial)⟩, ⟨kQ BK101⟩, ⟨kQ BK114⟩, ⟨kQ BK122⟩, ⟨zI⟩, ⟨zK⟩, ⟨zB⟩⟩
      case round =>
       clear H'
       obtain ⟨x6_3, x7_3, rfl, rfl, HA, HK3, HO_115002, HO_115003, BK101, BK114, BK122, HI0, HK, HB⟩ := hrel
       cases gk with
       | zero => exact absurd HA.out (by simp [spec_l20Mail.l1])
       | succ k3 =>
        have H := HA.out
        clear HA
        simp only [spec_l20Mail.l1] at H
        replace H := its_d_d H; rcases H with ⟨c34b0, H⟩ | ⟨c34b0, H⟩
        ·replace H := itb H; rcases H with ⟨rfl, H⟩ | ⟨rfl, H⟩
         ·have H' := Aside0.mk H
          clear H
          have hnb36 := NB114_101.out
          have hnc36 := NB101_114.out
          have hnb37 := NB114_122.out
          have hnc37 := NB122_114.out
          have hnb38 := NB114_0.out
          have hnc38 := NB0_114.out
          have hcz39 := cz4 BK114.out
          have hfz39 := fz4 BK114.out
          obtain ⟨Ao40, co40, eo40⟩ := Kd.R_slice HO_115002.out
          subst eo40
          go_wp2
          repeat (go_quiet (fail); try go_wp2)
          go_roundg k3
          case measure => have := HJ5.out; have := HK2.out; have := HK3.out; omega
          case rel => exact ⟨(true), (wrap64 (x7_3 + 1)), zs, zs, H', ⟨by have := HJ5.out; have := HK2.out; have := HK3.out; omega⟩, ⟨rO HO_115002⟩, ⟨rO HO_115003⟩, ⟨kQ BK101⟩, ⟨kQ BK114⟩, ⟨kQ BK122⟩, ⟨zI⟩, ⟨zK⟩, ⟨zB⟩⟩
         ·replace H := itn_d H; obtain ⟨c41b0, H⟩ := H
          have H' := Aside0.mk H
          clear H
          have hnb42 := NB114_101.out
          have hnc42 := NB101_114.out
          have hnb43 := NB114_122.out
          have hnc43 := NB122_114.out
          have hnb44 := NB114_0.out
          have hnc44 := NB0_114.out
          have hcz45 := cz4 BK114.out
          have hfz45 := fz4 BK114.out
          obtain ⟨Ao46, co46, eo46⟩ := Kd.R_slice HO_115002.out
          subst eo46
          have p123 : 0 ≤ (x7_3 : Int) := of_decide_eq_true za
          have q123 : x7_3 < (x115002_2.length : Int) := of_decide_eq_true za
          obtain ⟨ad123, e123, hx123_0, hx123_1⟩ := at_T32 (Kd.R_reads' HO_115002.out).2.2 x7_3 p123 q123
          cases e123
          replace p123 := eq_true p123
          replace q123 := eq_true q123
          have hnb47 := NB122_101.out
          have hnc47 := NB101_122.out
          have hnb48 := NB122_0.out
          have hnc48 := NB0_122.out
          have hcz49 := cz2 BK122.out
          have hfz49 := fz2 BK122.out
          go_wp2
          repeat (go_quiet (fail); try go_wp2)
          go_roundg k3
          case measure => have := HJ5.out; have := HK2.out; have := HK3.out; omega
          case rel => exact ⟨(((((rd_T32 x115002_2 x7_3).f0).toList) == t119.toList && ((((rd_T32 x115002_2 x7_3).f1).toList) == t120.toList))), (wrap64 (x7_3 + 1)), zs, zs, H', ⟨by have := HJ5.out; have := HK2.out; have := HK3.out; omega⟩, ⟨rO HO_115002⟩, ⟨rO HO_115003⟩, ⟨kQ BK101⟩, ⟨kQ BK114⟩, ⟨kQ BK122⟩, ⟨zI⟩, ⟨zK⟩, ⟨zB⟩⟩
        ·replace H := itb H; rcases H with ⟨rfl, H⟩ | ⟨rfl, H⟩
         ·have H' := Aside0.mk H
          clear H
          have hnb51 := NB114_101.out
          have hnc51 := NB101_114.out
          have hnb52 := NB114_122.out
          have hnc52 := NB122_114.out
          have hnb53 := NB114_0.out
          have hnc53 := NB0_114.out
          have hcz54 := cz4 BK114.out
          have hfz54 := fz4 BK114.out
          obtain ⟨Ao55, co55, eo55⟩ := Kd.R_slice HO_115002.out
          subst eo55
          go_wp2
          repeat (go_quiet (fail); try go_wp2)
          go_roundg k3
          case measure => have := HJ5.out; have := HK2.out; have := HK3.out; omega
          case rel => exact ⟨(wrap64 (x4_2 - 1)), (t121), (x115002_2), (.slice Ao55 x115002_2.length co55), zs, H', ⟨by have := HJ5.out; have := HK2.out; have := HK3.out; omega⟩, ⟨by (with_reducible repeat (first | apply Kd.R_alloc | apply Kd.R_drewN | apply Kd.R_drew)); exact Kd.R_mono HO_115002.out (fun _ hk => trivial)⟩, ⟨rO HO_115003⟩, ⟨kQ BK101⟩, ⟨kQ BK114⟩, ⟨zI⟩, ⟨zK⟩, ⟨zB⟩⟩
         ·replace H := itn_L H; obtain ⟨LMc56, H⟩ := H
          first | (with_reducible replace H := bns H; obtain ⟨y124, Ny124, H⟩ := H) | (generalize hy_ : (x115002_2 ++ [(⟨t119, t120⟩ : S32)] : List (S32)) = y124 at H; have Ny124 := Aside0.mk hy_.symm; clear hy_)
          have H' := Aside0.mk H
          clear H
          have hnb57 := NB114_101.out
          have hnc57 := NB101_114.out
          have hnb58 := NB114_122.out
          have hnc58 := NB122_114.out
          have hnb59 := NB114_0.out
          have hnc59 := NB0_114.out
          have hcz60 := cz4 BK114.out
          have hfz60 := fz4 BK114.out
          obtain ⟨Ao61, co61, eo61⟩ := Kd.R_slice HO_115002.out
          subst eo61
          have hnb62 := NB122_101.out
          have hnc62 := NB101_122.out
          have hnb63 := NB122_0.out
          have hnc63 := NB0_122.out
          have hcz64 := cz2 BK122.out
          have hfz64 := fz2 BK122.out
          go_wp2_with (first | ((with_reducible refine gate_builtin (b := .append) (xs := #[.tmp 50, .tmp 52]) rfl ?_); at_builtin; refine Kd.R_append k32 w.heap.size rfl (.tmp 50) (.tmp 52) 33 32 (.agg #[(.string ⟨#[]⟩), (.string ⟨#[]⟩)]) 32 rfl Tryz.underlying33 info32 rfl z0_ (by omega) (.slice Ao61 x115002_2.length co61) x115002_2 (⟨t119, t120⟩ : S32) [.string t119, .string t120] (fun k_ => k_ ≠ gb122) (fun _ => False) rfl rfl ?aP (fun _ hk => hk.elim) ?aF ?aO (Below.refl _ _) ?aS ?aL ?_; (case aP => exact k32_mkM _ _ _ (⟨t119, t120⟩ : S32)); (case aF => exact (fun k_ hk => (kG BK122) k_ hk)); (case aO => exact (rO HO_115002)); (case aS => exact (kZ HK)); (case aL => have := LMc56.out; omega); intro v125 w65 ho hb hg hat; rw [← Ny124.out] at ho; have n0_ := Aside0.mk (Kd.R_over' (rO HO_115003) (Kd.R_typed (rO HO_115002)) z0_ hg); have n1_ := Aside0.mk (blk_grown (g := gb101) (o := .cells #[.string ⟨#[]⟩, .string ⟨#[]⟩, .slice none 0 0, .slice none 0 0] 35 (0, 0)) (kQ BK101) hg (Kd.R_ne HO_115002.out BK101.out z0_)); have n2_ := Aside0.mk (blk_grown (g := gb114) (o := .cells #[.string x115000_5, .string x115001_5, .slice Ao61 x115002_2.length co61, .slice Ao14 t110.length co14] 35 (0, 0)) (kQ BK114) hg (Kd.R_ne HO_115002.out BK114.out z0_)); have n3_ := Aside0.mk (blk_grown (g := gb122) (o := .cells #[.string t119, .string t120] 32 (0, 0)) (kQ BK122) hg (Kd.R_away HO_115002.out (fun _ hk => hk))); have n4_ := Aside0.mk (IsS109.grown zI hg (IsS109.own_ne HI0.out HO_115002.out z0_)); have n5_ := Aside0.mk (below_weaken zB HL.out hb); have n6_ := Aside0.mk (KeepBut.trans zK (KeepBut.of_grown hg g) (Kd.R_base2 HO_115002.out)); have n7_ := Aside0.mk (ho); clear HO_115003 BK101 BK114 BK122 HI0 HB HK HO_115002; have HO_115003 := n0_; have BK101 := n1_; have BK114 := n2_; have BK122 := n3_; have HI0 := n4_; have HB := n5_; have HK := n6_; have HO126 := n7_; clear n0_ n1_ n2_ n3_ n4_ n5_ n6_ n7_ ho hb hg hat; obtain ⟨Ao66, co66, eo66⟩ := Kd.R_slice HO126.out; subst eo66; obtain ⟨hcz67_0, hcz67_1, hcz67_2, hcz67_3⟩ := cz4 BK114.out; obtain ⟨hfz67_0, hfz67_1, hfz67_2, hfz67_3⟩ := fz4 BK114.out))
          repeat (go_quiet (first | ((with_reducible refine gate_builtin (b := .append) (xs := #[.tmp 50, .tmp 52]) rfl ?_); at_builtin; refine Kd.R_append k32 w.heap.size rfl (.tmp 50) (.tmp 52) 33 32 (.agg #[(.string ⟨#[]⟩), (.string ⟨#[]⟩)]) 32 rfl Tryz.underlying33 info32 rfl z0_ (by omega) (.slice Ao61 x115002_2.length co61) x115002_2 (⟨t119, t120⟩ : S32) [.string t119, .string t120] (fun k_ => k_ ≠ gb122) (fun _ => False) rfl rfl ?aP (fun _ hk => hk.elim) ?aF ?aO (Below.refl _ _) ?aS ?aL ?_; (case aP => exact k32_mkM _ _ _ (⟨t119, t120⟩ : S32)); (case aF => exact (fun k_ hk => (kG BK122) k_ hk)); (case aO => exact (rO HO_115002)); (case aS => exact (kZ HK)); (case aL => have := LMc56.out; omega); intro v125 w65 ho hb hg hat; rw [← Ny124.out] at ho; have n0_ := Aside0.mk (Kd.R_over' (rO HO_115003) (Kd.R_typed (rO HO_115002)) z0_ hg); have n1_ := Aside0.mk (blk_grown (g := gb101) (o := .cells #[.string ⟨#[]⟩, .string ⟨#[]⟩, .slice none 0 0, .slice none 0 0] 35 (0, 0)) (kQ BK101) hg (Kd.R_ne HO_115002.out BK101.out z0_)); have n2_ := Aside0.mk (blk_grown (g := gb114) (o := .cells #[.string x115000_5, .string x115001_5, .slice Ao61 x115002_2.length co61, .slice Ao14 t110.length co14] 35 (0, 0)) (kQ BK114) hg (Kd.R_ne HO_115002.out BK114.out z0_)); have n3_ := Aside0.mk (blk_grown (g := gb122) (o := .cells #[.string t119, .string t120] 32 (0, 0)) (kQ BK122) hg (Kd.R_away HO_115002.out (fun _ hk => hk))); have n4_ := Aside0.mk (IsS109.grown zI hg (IsS109.own_ne HI0.out HO_115002.out z0_)); have n5_ := Aside0.mk (below_weaken zB HL.out hb); have n6_ := Aside0.mk (KeepBut.trans zK (KeepBut.of_grown hg g) (Kd.R_base2 HO_115002.out)); have n7_ := Aside0.mk (ho); clear HO_115003 BK101 BK114 BK122 HI0 HB HK HO_115002; have HO_115003 := n0_; have BK101 := n1_; have BK114 := n2_; have BK122 := n3_; have HI0 := n4_; have HB := n5_; have HK := n6_; have HO126 := n7_; clear n0_ n1_ n2_ n3_ n4_ n5_ n6_ n7_ ho hb hg hat; obtain ⟨Ao66, co66, eo66⟩ := Kd.R_slice HO126.out; subst eo66; obtain ⟨hcz67_0, hcz67_1, hcz67_2, hcz67_3⟩ := cz4 BK114.out; obtain ⟨hfz67_0, hfz67_1, hfz67_2, hfz67_3⟩ := fz4 BK114.out)); try go_wp2_with (first | ((with_reducible refine gate_builtin (b := .append) (xs := #[.tmp 50, .tmp 52]) rfl ?_); at_builtin; refine Kd.R_append k32 w.heap.size rfl (.tmp 50) (.tmp 52) 33 32 (.agg #[(.string ⟨#[]⟩), (.string ⟨#[]⟩)]) 32 rfl Tryz.underlying33 info32 rfl z0_ (by omega) (.slice Ao61 x115002_2.length co61) x115002_2 (⟨t119, t120⟩ : S32) [.string t119, .string t120] (fun k_ => k_ ≠ gb122) (fun _ => False) rfl rfl ?aP (fun _ hk => hk.elim) ?aF ?aO (Below.refl _ _) ?aS ?aL ?_; (case aP => exact k32_mkM _ _ _ (⟨t119, t120⟩ : S32)); (case aF => exact (fun k_ hk => (kG BK122) k_ hk)); (case aO => exact (rO HO_115002)); (case aS => exact (kZ HK)); (case aL => have := LMc56.out; omega); intro v125 w65 ho hb hg hat; rw [← Ny124.out] at ho; have n0_ := Aside0.mk (Kd.R_over' (rO HO_115003) (Kd.R_typed (rO HO_115002)) z0_ hg); have n1_ := Aside0.mk (blk_grown (g := gb101) (o := .cells #[.string ⟨#[]⟩, .string ⟨#[]⟩, .slice none 0 0, .slice none 0 0] 35 (0, 0)) (kQ BK101) hg (Kd.R_ne HO_115002.out BK101.out z0_)); have n2_ := Aside0.mk (blk_grown (g := gb114) (o := .cells #[.string x115000_5, .string x115001_5, .slice Ao61 x115002_2.length co61, .slice Ao14 t110.length co14] 35 (0, 0)) (kQ BK114) hg (Kd.R_ne HO_115002.out BK114.out z0_)); have n3_ := Aside0.mk (blk_grown (g := gb122) (o := .cells #[.string t119, .string t120] 32 (0, 0)) (kQ BK122) hg (Kd.R_away HO_115002.out (fun _ hk => hk))); have n4_ := Aside0.mk (IsS109.grown zI hg (IsS109.own_ne HI0.out HO_115002.out z0_)); have n5_ := Aside0.mk (below_weaken zB HL.out hb); have n6_ := Aside0.mk (KeepBut.trans zK (KeepBut.of_grown hg g) (Kd.R_base2 HO_115002.out)); have n7_ := Aside0.mk (ho); clear HO_115003; clear BK101; clear BK114; clear BK122; clear HI0; clear HB; clear HK; clear HO_115002; have HO_115003 := n0_; have BK101 := n1_; have BK114 := n2_; have BK122 := n3_; have HI0 := n4_; have HB := n5_; have HK := n6_; have HO126 := n7_; clear n0_ n1_ n2_ n3_ n4_ n5_ n6_ n7_; clear ho hb hg hat; obtain ⟨Ao66, co66, eo66⟩ := Kd.R_slice HO126.out; subst eo66; have hcz67_0 : w65.cell? ⟨gb114, 0, none⟩ = some (.string x115000_5) := (blk_cell BK114.out 0).trans rfl; have hcz67_1 : w65.cell? ⟨gb114, 1, none⟩ = some (.string x115001_5) := (blk_cell BK114.out 1).trans rfl; have hcz67_2 : w65.cell? ⟨gb114, 2, none⟩ = some (.slice Ao61 x115002_2.length co61) := (blk_cell BK114.out 2).trans rfl; have hcz67_3 : w65.cell? ⟨gb114, 3, none⟩ = some (.slice Ao14 t110.length co14) := (blk_cell BK114.out 3).trans rfl; have hfz67_0 := blk_frozen BK114.out 0; have hfz67_1 := blk_frozen BK114.out 1; have hfz67_2 := blk_frozen BK114.out 2; have hfz67_3 := blk_frozen BK114.out 3)))
          go_roundg k3
          case measure => have := HJ5.out; have := HK2.out; have := HK3.out; omega
          case rel => exact ⟨(wrap64 (x4_2 - 1)), (t121), (y124), (.slice Ao66 y124.length co66), zs, H', ⟨by have := HJ5.out; have := HK2.out; have := HK3.out; omega⟩, ⟨fM HO126 BK114 (fun _ hk => trivial)⟩, ⟨fM HO_115003 BK114 (fun _ hk => trivial)⟩, ⟨kQ BK101⟩, ⟨kQ BK114⟩, ⟨zI⟩, ⟨zK⟩, ⟨zB⟩⟩
     ·simp only [Option.some.injEq, Prod.mk.injEq] at H
      obtain ⟨rfl, rfl, rfl, rfl, rfl⟩ := H
      have hnb68 := NB114_101.out
      have hnc68 := NB101_114.out
      have hnb69 := NB114_0.out
      have hnc69 := NB0_114.out
      have hcz70 := cz4 BK114.out
      have hfz70 := fz4 BK114.out
      have hnb71 := NB101_0.out
      have hnc71 := NB0_101.out
      have hcz72 := cz4 BK101.out
      have hfz72 := fz4 BK101.out
      obtain ⟨Ao73, co73, eo73⟩ := Kd.R_slice HO_115002.out
      subst eo73
      go_wp2
      repeat (go_quiet (fail); try go_wp2)
      refine bodyPost_ret (results_cell_row rfl _ _ gb101 35 #[.string x115000_5, .string x115001_5, .slice Ao73 x115002_2.length co73, .slice Ao14 t110.length co14] (0, 0) _ rfl (kQ BK101) Tryz.underlying35 rfl (by kernel_rfl)) rfl ?_
      exact ⟨_, _, zr, fM HO_115002 BK101 (fun _ hk => trivial), fM HO_115003 BK101 (fun _ hk => trivial), zI, zB, zK⟩
end Go.Proofs.YtbncnjgflhoneaaGreatDoor.F
namespace Go.Proofs.YtbncnjgflhoneaaGreatDoor.Hand
open Go.RowKit Go.Proofs.YtbncnjgflhoneaaGreatDoor.F Go.Proofs.YtbncnjgflhoneaaGreatDoorW.PrintWords Go.Proofs.YtbncnjgflhoneaaGreatDoorW.PrintLast Go.Proofs.YtbncnjgflhoneaaGreatDoorW.PrintMore
def Byt (s : List Int) : Prop := s.length ≤ 1000000 ∧ ∀ x ∈ s, 0 ≤ x ∧ x ≤ 255
theorem Byt.at_ {s : List Int} (h : Byt s) (i : Int) : 0 ≤ rd s i ∧ rd s i ≤ 255 := by
 unfold rd
 rw [List.getD_eq_getElem?_getD]
 cases he : s[i.toNat]? with
 | none => decide
 | some x => exact h.2 x (List.mem_of_getElem? he)
theorem xor_i64 (a b : Int) (h0 : 0 ≤ a) (h1 : a < 9223372036854775808) (h2 : 0 ≤ b) (h3 : b < 9223372036854775808) : 0 ≤ bits .xor .i64 a b ∧ bits .xor .i64 a b < 9223372036854775808 := by
 obtain ⟨m, rfl⟩ := Int.eq_ofNat_of_zero_le h0
 obtain ⟨n, rfl⟩ := Int.eq_ofNat_of_zero_le h2
 have hx : m ^^^ n < 2 ^ 63 := Nat.xor_lt_two_pow (by omega) (by omega)
 have e : bits .xor .i64 (m : Int) (n : Int) = ((m ^^^ n : Nat) : Int) := by
  show IntKind.i64.wrap ((BitVec.ofInt 64 (m : Int) ^^^ BitVec.ofInt 64 (n : Int)).toNat : Int) = _
  rw [BitVec.toNat_xor, ofInt_u64 m (by omega), ofInt_u64 n (by omega)]
  simp [IntKind.wrap, IntKind.bits, IntKind.signed]
  omega
 rw [e]
 omega
theorem tmod_in (a n : Int) (h0 : 0 ≤ a) (hn : 1 ≤ n) : 0 ≤ Int.tmod a n ∧ Int.tmod a n < n := ⟨Int.tmod_nonneg _ h0, Int.tmod_lt_of_pos _ (by omega)⟩
theorem pick_ev {s : List Int} (hs : Byt s) {p : Int} (h0 : 0 ≤ p) (h1 : p ≤ 1000000) {n : Int} (hn : 1 ≤ n) : ∃ v, Ev (fun k => spec_l20Rd_pick.f k s p n) (v, p + 1) ∧ 0 ≤ v ∧ v < n := by
 have hl := hs.1
 have w1 : wrap64 (p + 1) = p + 1 := by unfold wrap64; omega
 have w2 : wrap64 (p + 1 - 1) = p := by unfold wrap64; omega
 have w3 : wrap64 (wrap64 (p * 7) + 3) = p * 7 + 3 := by unfold wrap64; omega
 unfold spec_l20Rd_pick.f
 simp only [w1]
 by_cases c : (s.length : Int) = 0
 ·refine ⟨0, Ev.exact 1 fun k hk => ?_, by omega, by omega⟩
  obtain ⟨k, rfl⟩ : ∃ m, k = m + 1 := ⟨k - 1, by omega⟩
  rw [if_neg (by omega), beq_iff_eq.2 c, spec_l20Rd_pick.j0, if_pos rfl]
 ·have e : ((s.length : Int) == 0) = false := beq_eq_false_iff_ne.2 c
  by_cases q : p < (s.length : Int)
  ·have hb := hs.at_ p
   have w4 : wrap64 (rd s p) = rd s p := by unfold wrap64; omega
   obtain ⟨t0, t1⟩ := tmod_in (rd s p) n hb.1 hn
   refine ⟨_, Ev.exact 1 fun k hk => ?_, t0, t1⟩
   obtain ⟨k, rfl⟩ : ∃ m, k = m + 1 := ⟨k - 1, by omega⟩
   rw [if_neg (by omega), e, spec_l20Rd_pick.j0, if_neg (by decide), w2, if_pos q, if_pos h0, if_neg (by omega), w4]
  ·obtain ⟨a0, a1⟩ := tmod_in p (s.length : Int) h0 (by omega)
   obtain ⟨b0, b1⟩ := tmod_in (p * 7 + 3) (s.length : Int) (by omega) (by omega)
   have hx := hs.at_ (Int.tmod p (s.length : Int))
   have hy := hs.at_ (Int.tmod (p * 7 + 3) (s.length : Int))
   have d0 : 0 ≤ Int.tdiv p (s.length : Int) := Int.tdiv_nonneg h0 (by omega)
   have d1 : Int.tdiv p (s.length : Int) ≤ p := Int.tdiv_le_self _ h0
   obtain ⟨X, hX⟩ : ∃ X, X = wrap64 (wrap64 (wrap64 (wrap64 (wrap64 (rd s (Int.tmod p (s.length : Int))) * 131) + wrap64 (wrap64 (rd s (Int.tmod (p * 7 + 3) (s.length : Int))) * 1117)) + wrap64 (p * 29)) + wrap64 (wrap64 (Int.tdiv p (s.length : Int)) * 53)) := ⟨_, rfl⟩
   have x0 : 0 ≤ X ∧ X ≤ 1000000000000 := by
    rw [hX]
    generalize rd s (Int.tmod p (s.length : Int)) = x at *
    generalize rd s (Int.tmod (p * 7 + 3) (s.length : Int)) = y at *
    generalize Int.tdiv p (s.length : Int) = t at *
    have e1 : wrap64 x = x := by unfold wrap64; omega
    have e2 : wrap64 y = y := by unfold wrap64; omega
    have e3 : wrap64 (x * 131) = x * 131 := by unfold wrap64; omega
    have e4 : wrap64 (y * 1117) = y * 1117 := by unfold wrap64; omega
    have e5 : wrap64 (x * 131 + y * 1117) = x * 131 + y * 1117 := by unfold wrap64; omega
    have e6 : wrap64 (p * 29) = p * 29 := by unfold wrap64; omega
    have e7 : wrap64 t = t := by unfold wrap64; omega
    have e8 : wrap64 (t * 53) = t * 53 := by unfold wrap64; omega
    have e9 : wrap64 (x * 131 + y * 1117 + p * 29) = x * 131 + y * 1117 + p * 29 := by unfold wrap64; omega
    rw [e1, e2, e3, e4, e5, e6, e7, e8, e9, show wrap64 (x * 131 + y * 1117 + p * 29 + t * 53) = x * 131 + y * 1117 + p * 29 + t * 53 by unfold wrap64; omega]
    omega
   have z0 : 0 ≤ Int.tdiv X 64 := Int.tdiv_nonneg x0.1 (by omega)
   have z1 : Int.tdiv X 64 ≤ X := Int.tdiv_le_self _ x0.1
   have w5 : wrap64 (Int.tdiv X 64) = Int.tdiv X 64 := by unfold wrap64; omega
   have hxo := xor_i64 X (Int.tdiv X 64) x0.1 (by omega) z0 (by omega)
   obtain ⟨t0, t1⟩ := tmod_in _ n hxo.1 hn
   refine ⟨_, Ev.exact 1 fun k hk => ?_, t0, t1⟩
   obtain ⟨k, rfl⟩ : ∃ m, k = m + 1 := ⟨k - 1, by omega⟩
   rw [if_neg (by omega), e, spec_l20Rd_pick.j0, if_neg (by decide), w2, if_neg q, if_neg c, if_pos a0, if_pos a1, w3, if_pos b0, if_pos b1, if_neg (by omega), ← hX, w5]
theorem of_ev {s : List Int} (hs : Byt s) {p : Int} (h0 : 0 ≤ p) (h1 : p ≤ 1000000) (l : List ByteArray) (hl : 1 ≤ l.length) : ∃ v, Ev (fun k => spec_l20Rd_of.f k s p l) (v, p + 1) ∧ v ∈ l := by
 obtain ⟨v, hv, v0, v1⟩ := pick_ev hs h0 h1 (n := (l.length : Int)) (by omega)
 obtain ⟨i, rfl⟩ := Int.eq_ofNat_of_zero_le v0
 have hi : i < l.length := by omega
 refine ⟨l[i], ?_, List.getElem_mem hi⟩
 unfold spec_l20Rd_of.f
 refine Ev.bind hv (Ev.congr (fun k => ?_) (Ev.now _))
 dsimp only
 rw [if_pos v0, if_pos v1]
 unfold rdOf
 rw [Int.toNat_natCast, List.getD_eq_getElem?_getD, List.getElem?_eq_getElem hi]
 rfl
theorem one_ev {s : List Int} (hs : Byt s) {p : Int} (h0 : 0 ≤ p) (h1 : p ≤ 1000000) (l : List Int) (hl : 1 ≤ l.length) : ∃ v, Ev (fun k => spec_l20Rd_one.f k s p l) (v, p + 1) ∧ v ∈ l := by
 obtain ⟨v, hv, v0, v1⟩ := pick_ev hs h0 h1 (n := (l.length : Int)) (by omega)
 obtain ⟨i, rfl⟩ := Int.eq_ofNat_of_zero_le v0
 have hi : i < l.length := by omega
 refine ⟨l[i], ?_, List.getElem_mem hi⟩
 unfold spec_l20Rd_one.f
 refine Ev.bind hv (Ev.congr (fun k => ?_) (Ev.now _))
 dsimp only
 rw [if_pos v0, if_pos v1]
 unfold rd
 rw [Int.toNat_natCast, List.getD_eq_getElem?_getD, List.getElem?_eq_getElem hi]
 rfl
def Sm (x : ByteArray) : Prop := x.size ≤ 40
theorem small_of {v : ByteArray} {l : List ByteArray} (h : v ∈ l) (hl : (l.all fun x => decide (x.size ≤ 40)) = true) : Sm v := show v.size ≤ 40 from of_decide_eq_true (List.all_eq_true.1 hl v h)
theorem addr_ev {s : List Int} (hs : Byt s) {p : Int} (h0 : 0 ≤ p) (h1 : p ≤ 900000) : ∃ u d, Ev (fun k => spec_l20Addr.f k s p) (u, d, p + 2) ∧ Sm u ∧ Sm d := by
 unfold spec_l20Addr.f spec_l20Domain.f
 obtain ⟨u, hu, mu⟩ := of_ev hs h0 (by omega) [(⟨#[97]⟩ : ByteArray), (⟨#[98]⟩ : ByteArray), (⟨#[97, 110, 110]⟩ : ByteArray), (⟨#[98, 111, 98, 55]⟩ : ByteArray)] (by decide)
 obtain ⟨d, hd, md⟩ := of_ev hs (p := p + 1) (by omega) (by omega) [(⟨#[111, 110, 101, 46, 111, 114, 103]⟩ : ByteArray), (⟨#[116, 119, 111, 46, 111, 114, 103]⟩ : ByteArray), (⟨#[104, 117, 98, 46, 110, 101, 116]⟩ : ByteArray), (⟨#[120, 46, 99, 111, 109]⟩ : ByteArray), (⟨#[102, 97, 114, 46, 99, 111, 109]⟩ : ByteArray), (⟨#[111, 116, 104, 101, 114, 46, 99, 111, 109]⟩ : ByteArray), (⟨#[97, 46, 111, 110, 101, 46, 111, 114, 103]⟩ : ByteArray)] (by decide)
 refine ⟨u, d, Ev.bind hu (Ev.bind (Ev.bind hd (Ev.now _)) ?_), small_of mu (by decide), small_of md (by decide)⟩
 rw [show p + 2 = p + 1 + 1 by omega]
 exact Ev.now _
theorem line_ev {s : List Int} (hs : Byt s) {p : Int} (h0 : 0 ≤ p) (h1 : p ≤ 900000) : ∃ x, Ev (fun k => spec_l20Line.f k s p) (x, p + 1) ∧ Sm x := by
 unfold spec_l20Line.f
 obtain ⟨u, hu, mu⟩ := of_ev hs h0 (by omega) [(⟨#[104, 101, 108, 108, 111]⟩ : ByteArray), (⟨#[]⟩ : ByteArray), (⟨#[46]⟩ : ByteArray), (⟨#[46, 46]⟩ : ByteArray), (⟨#[46, 100, 111, 116]⟩ : ByteArray), (⟨#[97, 32, 108, 111, 110, 103, 101, 114, 32, 108, 105, 110, 101, 32, 111, 102, 32, 116, 101, 120, 116]⟩ : ByteArray), (⟨#[72, 111, 112, 58, 32, 111, 110, 101, 46, 111, 114, 103]⟩ : ByteArray), (⟨#[72, 111, 112, 58, 32]⟩ : ByteArray), (⟨#[73, 100, 58, 32, 55]⟩ : ByteArray), (⟨#[110, 111, 116, 32, 100, 101, 108, 105, 118, 101, 114, 101, 100, 58]⟩ : ByteArray), (⟨#[60, 97, 64, 111, 110, 101, 46, 111, 114, 103, 62]⟩ : ByteArray), (⟨#[108, 105, 110, 101, 32, 116, 104, 97, 116, 32, 105, 115, 32, 101, 120, 97, 99, 116, 108, 121, 32, 102, 111, 114, 116, 121, 32, 98, 121, 116, 101, 115, 32, 108, 111, 110, 103, 46, 46, 33]⟩ : ByteArray)] (by decide)
 exact ⟨u, Ev.bind hu (Ev.now _), small_of mu (by decide)⟩
def Few (l : List ByteArray) : Prop := l.length ≤ 9 ∧ ∀ x ∈ l, Sm x
theorem body_from {s : List Int} (hs : Byt s) : ∀ (n : Nat) (l : List ByteArray) (p : Int), l.length + n ≤ 9 → (∀ x ∈ l, Sm x) → 0 ≤ p → p + n ≤ 800000 → ∃ r, Ev (fun k => spec_l20Body.l0 k l (n : Int) s p) (r, p + n) ∧ Few r
 | 0, l, p, hl, hm, h0, h1 => ⟨l, Ev.step (f := fun _ => some (l, p + 0)) (fun k => by rw [spec_l20Body.l0, if_neg (by omega), Int.add_zero]) (Ev.now _), by omega, hm⟩
 | n + 1, l, p, hl, hm, h0, h1 => by
  obtain ⟨x, hx, sx⟩ := line_ev hs h0 (by omega)
  obtain ⟨r, hr, fr⟩ := body_from hs n (l ++ [x]) (p + 1) (by rw [List.length_append, List.length_singleton]; omega) (fun y hy => by
   rcases List.mem_append.1 hy with hy | hy
   ·exact hm y hy
   ·rw [List.mem_singleton.1 hy]; exact sx) (by omega) (by omega)
  rw [show p + 1 + (n : Int) = p + ((n + 1 : Nat) : Int) by omega] at hr
  refine ⟨r, Ev.step (f := fun k => (spec_l20Line.f k s p).bind fun t => (if l.length < 8796093022208 then (spec_l20Body.l0 k (l ++ [t.1]) (wrap64 (((n + 1 : Nat) : Int) - 1)) s t.2) else none)) (fun k => by rw [spec_l20Body.l0, if_pos (by omega)]) (Ev.bind hx (Ev.congr (fun k => ?_) hr)), fr⟩
  dsimp only
  rw [if_pos (by omega), show wrap64 (((n + 1 : Nat) : Int) - 1) = (n : Int) by unfold wrap64; omega]
theorem body_ev {s : List Int} (hs : Byt s) {p : Int} (h0 : 0 ≤ p) (h1 : p ≤ 700000) {m : Int} (hm : 0 ≤ m) (hm9 : m ≤ 9) : ∃ r q, Ev (fun k => spec_l20Body.f k s p m) (r, q) ∧ Few r ∧ p ≤ q ∧ q ≤ p + 10 := by
 have w : wrap64 (m + 1) = m + 1 := by unfold wrap64; omega
 unfold spec_l20Body.f
 rw [w]
 obtain ⟨v, hv, v0, v1⟩ := pick_ev hs h0 (by omega) (n := m + 1) (by omega)
 obtain ⟨n, rfl⟩ := Int.eq_ofNat_of_zero_le v0
 obtain ⟨r, hr, fr⟩ := body_from hs n [] (p + 1) (by simp; omega) (fun _ h => by cases h) (by omega) (by omega)
 exact ⟨r, _, Ev.bind hv hr, fr, by omega, by omega⟩
def Sa (a : S32) : Prop := Sm a.f0 ∧ Sm a.f1
theorem mail_in {s : List Int} (n : Nat) (p : Int) (u d : ByteArray) (ts : List S32) (body : List ByteArray) (a b : ByteArray) (hl : ts.length ≤ 1000) (hn4 : n ≤ 1000) : ∀ (e i : Nat) (is : Bool), ts.length = i + e → (is = true → ts ≠ []) → ∃ ts' : List S32, (ts' = ts ∧ ts ≠ [] ∨ ts' = ts ++ [⟨a, b⟩]) ∧
  ∀ r, Ev (fun k => spec_l20Mail.l0 k (n : Int) s p u d ts' body) r → Ev (fun k => spec_l20Mail.l1 k ((n + 1 : Nat) : Int) is (i : Int) s p u d ts body a b) r
 | 0, i, is, hi, hn => by
  have w : wrap64 (((n + 1 : Nat) : Int) - 1) = (n : Int) := by unfold wrap64; omega
  cases is with
  | true =>
   refine ⟨ts, .inl ⟨rfl, hn rfl⟩, fun r hr => Ev.step (f := fun k => spec_l20Mail.l0 k (wrap64 (((n + 1 : Nat) : Int) - 1)) s p u d ts body) (fun k => by rw [spec_l20Mail.l1, if_neg (by omega), if_pos rfl]) ?_⟩
   rw [w]
   exact hr
  | false =>
   refine ⟨ts ++ [⟨a, b⟩], .inr rfl, fun r hr => Ev.step (f := fun k => spec_l20Mail.l0 k (wrap64 (((n + 1 : Nat) : Int) - 1)) s p u d (ts ++ [⟨a, b⟩]) body) (fun k => by rw [spec_l20Mail.l1, if_neg (by omega), if_neg (by decide), if_pos (by omega)]) ?_⟩
   rw [w]
   exact hr
 | e + 1, i, is, hi, hn => by
  have hne : ts ≠ [] := fun h => by rw [h] at hi; simp at hi
  have w : wrap64 ((i : Int) + 1) = ((i + 1 : Nat) : Int) := by unfold wrap64; omega
  cases is with
  | true =>
   obtain ⟨t', ht, hr⟩ := mail_in (s := s) n p u d ts body a b hl hn4 e (i + 1) true (by omega) (fun _ => hne)
   exact ⟨t', ht, fun r h => Ev.step (f := fun k => spec_l20Mail.l1 k ((n + 1 : Nat) : Int) true ((i + 1 : Nat) : Int) s p u d ts body a b) (fun k => by rw [spec_l20Mail.l1, if_pos (by omega), if_pos rfl, w]) (hr r h)⟩
  | false =>
   obtain ⟨t', ht, hr⟩ := mail_in (s := s) n p u d ts body a b hl hn4 e (i + 1) (((rd_T32 ts (i : Int)).f0).toList == a.toList && (((rd_T32 ts (i : Int)).f1).toList == b.toList)) (by omega) (fun _ => hne)
   exact ⟨t', ht, fun r h => Ev.step (f := fun k => spec_l20Mail.l1 k ((n + 1 : Nat) : Int) (((rd_T32 ts (i : Int)).f0).toList == a.toList && (((rd_T32 ts (i : Int)).f1).toList == b.toList)) ((i + 1 : Nat) : Int) s p u d ts body a b) (fun k => by rw [spec_l20Mail.l1, if_pos (by omega), if_neg (by decide), if_pos (by omega), w]) (hr r h)⟩
theorem mail_from {s : List Int} (hs : Byt s) (u d : ByteArray) (body : List ByteArray) : ∀ (n : Nat) (ts : List S32) (p : Int), ts.length + n ≤ 4 → (∀ a ∈ ts, Sa a) → 1 ≤ ts.length + n → 0 ≤ p → p + 2 * n ≤ 800000 → ∃ ts', Ev (fun k => spec_l20Mail.l0 k (n : Int) s p u d ts body) (u, d, ts', body, p + 2 * n) ∧ 1 ≤ ts'.length ∧ ts'.length ≤ 4 ∧ ∀ a ∈ ts', Sa a
 | 0, ts, p, hl, hm, h1, h0, hp => ⟨ts, Ev.step (f := fun _ => some (u, d, ts, body, p + 2 * ((0 : Nat) : Int))) (fun k => by rw [spec_l20Mail.l0, if_neg (by omega), show p + 2 * ((0 : Nat) : Int) = p by omega]) (Ev.now _), by omega, by omega, hm⟩
 | n + 1, ts, p, hl, hm, h1, h0, hp => by
  obtain ⟨a, b, hab, sa, sb⟩ := addr_ev hs h0 (by omega)
  obtain ⟨t', ht, hr⟩ := mail_in (s := s) n (p + 2) u d ts body a b (by omega) (by omega) ts.length 0 false (by omega) (fun h => by cases h)
  have h4 : t'.length + n ≤ 4 ∧ 1 ≤ t'.length ∧ ∀ x ∈ t', Sa x := by
   rcases ht with ⟨rfl, hne⟩ | rfl
   ·exact ⟨by omega, List.length_pos_iff.2 hne, hm⟩
   ·refine ⟨by rw [List.length_append, List.length_singleton]; omega, by rw [List.length_append, List.length_singleton]; omega, fun x hx => ?_⟩
    rcases List.mem_append.1 hx with hx | hx
    ·exact hm x hx
    ·rw [List.mem_singleton.1 hx]; exact ⟨sa, sb⟩
  obtain ⟨q, hq, q1, q4, qs⟩ := mail_from hs u d body n t' (p + 2) h4.1 h4.2.2 (by omega) (by omega) (by omega)
  rw [show p + 2 + 2 * (n : Int) = p + 2 * ((n + 1 : Nat) : Int) by omega] at hq
  exact ⟨q, Ev.step (f := fun k => (spec_l20Addr.f k s p).bind fun t => spec_l20Mail.l1 k ((n + 1 : Nat) : Int) false 0 s t.2.2 u d ts body t.1 t.2.1) (fun k => by rw [spec_l20Mail.l0, if_pos (by omega)]) (Ev.bind hab (hr _ hq)), q1, q4, qs⟩
structure Mailed (u d : ByteArray) (ts : List S32) (body : List ByteArray) : Prop where
 u : Sm u
 d : Sm d
 t1 : 1 ≤ ts.length
 t4 : ts.length ≤ 4
 ts : ∀ a ∈ ts, Sa a
 body : Few body
theorem mail_ev {s : List Int} (hs : Byt s) {p : Int} (h0 : 0 ≤ p) (h1 : p ≤ 600000) : ∃ u d ts body q, Ev (fun k => spec_l20Mail.f k s p) (u, d, ts, body, q) ∧ Mailed u d ts body ∧ p ≤ q ∧ q ≤ p + 30 := by
 obtain ⟨u, d, ha, su, sd⟩ := addr_ev hs h0 (by omega)
 obtain ⟨m, hm, mm⟩ := one_ev hs (p := p + 2) (by omega) (by omega) [1, 4, 9] (by decide)
 have hm9 : 0 ≤ m ∧ m ≤ 9 := by
  simp only [List.mem_cons, List.not_mem_nil, or_false] at mm
  omega
 obtain ⟨body, q, hb, fb, q0, q1⟩ := body_ev hs (p := p + 2 + 1) (by omega) (by omega) hm9.1 hm9.2
 obtain ⟨c, hc, c0, c1⟩ := pick_ev hs (p := q) (by omega) (by omega) (n := 5) (by omega)
 obtain ⟨t, ht, t0, t1⟩ := pick_ev hs (p := q + 1) (by omega) (by omega) (n := 4) (by omega)
 obtain ⟨n, rfl⟩ := Int.eq_ofNat_of_zero_le t0
 have w : wrap64 (1 + (n : Int)) = ((n + 1 : Nat) : Int) := by unfold wrap64; omega
 have go : ∀ u d, Sm u → Sm d → ∃ ts q', Ev (fun k => spec_l20Mail.j0 k s (q + 1) u d body) (u, d, ts, body, q') ∧ Mailed u d ts body ∧ p ≤ q' ∧ q' ≤ p + 30 := by
  intro u d su sd
  obtain ⟨ts, hts, k1, k4, ks⟩ := mail_from hs u d body (n + 1) [] (q + 1 + 1) (by simp; omega) (fun _ h => by cases h) (by simp) (by omega) (by omega)
  refine ⟨ts, _, Ev.step (f := fun k => (spec_l20Rd_pick.f k s (q + 1) 4).bind fun x => spec_l20Mail.l0 k (wrap64 (1 + x.1)) s x.2 u d [] body) (fun k => by rw [spec_l20Mail.j0]) (Ev.bind ht (Ev.congr (fun k => ?_) hts)), ⟨su, sd, k1, k4, ks, fb⟩, by omega, by omega⟩
  dsimp only
  rw [w]
 unfold spec_l20Mail.f
 by_cases hz : c = 0
 ·obtain ⟨ts, q', he, hM, l0, l1⟩ := go (⟨#[]⟩ : ByteArray) (⟨#[]⟩ : ByteArray) (show (⟨#[]⟩ : ByteArray).size ≤ 40 by decide) (show (⟨#[]⟩ : ByteArray).size ≤ 40 by decide)
  refine ⟨_, _, ts, body, q', Ev.bind ha (Ev.bind hm (Ev.bind hb (Ev.bind hc (Ev.congr (fun k => ?_) he)))), hM, l0, l1⟩
  dsimp only
  rw [if_pos hz]
 ·obtain ⟨ts, q', he, hM, l0, l1⟩ := go u d su sd
  refine ⟨_, _, ts, body, q', Ev.bind ha (Ev.bind hm (Ev.bind hb (Ev.bind hc (Ev.congr (fun k => ?_) he)))), hM, l0, l1⟩
  dsimp only
  rw [if_neg hz]
end Go.Proofs.YtbncnjgflhoneaaGreatDoor.Hand
namespace Go.Proofs.YtbncnjgflhoneaaGreatDoor.F
open Go.RowKit Go.Proofs.YtbncnjgflhoneaaGreatDoor.Hand Go.Proofs.YtbncnjgflhoneaaGreatDoorW.PrintWords Go.Proofs.YtbncnjgflhoneaaGreatDoorW.PrintLast Go.Proofs.YtbncnjgflhoneaaGreatDoorW.PrintMore
set_option linter.unusedVariables false
set_option linter.unusedSimpArgs false
section
variable {P : Program} {md : Region.Mode} {ops : Array Oper} {Q : Exit → Act → World → Prop} {S : World → Prop} {ds : List Nat} {oi oj : Oper} {v : Value} {fuel : Nat} {l l' lj : Array Bool} {a a' a1 : Act} {w w1 : World} {K : Act → World → Prop} {N : Option Tmp}
theorem zH {p : Prop} (h : p := by repeat' (first | apply And.intro | exact (blk_cell (Aside0.out (by assumption)) _).trans rfl)) : p := h
theorem zF {p : Prop} (h : p := by repeat' (first | apply And.intro | refine (cell_far (Aside0.out (by assumption)) _).trans ?_ | (with_reducible first | exact hHeld | exact hHeld.1 | exact hHeld.2 | exact hHeld.2.1 | exact hHeld.2.2 | exact hHeld.2.2.1 | exact hHeld.2.2.2 | exact hHeld.2.2.2.1 | exact hHeld.2.2.2.2 | exact hHeld.2.2.2.2.1 | exact hHeld.2.2.2.2.2 | exact hHeld.2.2.2.2.2.1 | exact hHeld.2.2.2.2.2.2 | exact hHeld.2.2.2.2.2.2.1 | exact hHeld.2.2.2.2.2.2.2 | exact hHeld.2.2.2.2.2.2.2.1 | exact hHeld.2.2.2.2.2.2.2.2 | exact hHeld.2.2.2.2.2.2.2.2.1 | exact hHeld.2.2.2.2.2.2.2.2.2 | exact hHeld.2.2.2.2.2.2.2.2.2.1 | exact hHeld.2.2.2.2.2.2.2.2.2.2 | exact hHeld.2.2.2.2.2.2.2.2.2.2.1 | exact hHeld.2.2.2.2.2.2.2.2.2.2.2 | exact hHeld.2.2.2.2.2.2.2.2.2.2.2.1 | exact hHeld.2.2.2.2.2.2.2.2.2.2.2.2 | exact hHeld.2.2.2.2.2.2.2.2.2.2.2.2.1 | exact hHeld.2.2.2.2.2.2.2.2.2.2.2.2.2 | exact hHeld.2.2.2.2.2.2.2.2.2.2.2.2.2.1 | exact hHeld.2.2.2.2.2.2.2.2.2.2.2.2.2.2))) : p := h
theorem pu (i n : Nat) (h : wpAnyLast P md ops Q S ds fuel l' a' w) (hi : ops[i]? = some oi := by rfl) (hN : oi.dst = some n := by rfl)
  (hl : l.setIfInBounds i true = l' := by simp only [List.setIfInBounds_toArray, List.set_cons_zero, List.set_cons_succ]; rfl)
  (hc : anyB md ops l l' i = true := by first | exact any_of HT_.out (by kernel_rfl) | kernel_rfl) (hQ : ∀ c a w, Q (.panic c) (a.put oi.dst v) w → Q (.panic c) a w := by exact fun _ _ _ h => h)
  (hw : Region.wanted oi (yielded ops a.tmps) = true := by rfl) (hy : ∀ w, (execOp a.eval oi).run P w = .ok (.value v) w := by intro w'; go_simp; with_reducible rfl)
  (ha : a.put (some n) v = a' := by simp only [Act.put, List.setIfInBounds_toArray, List.set_cons_zero, List.set_cons_succ, i64_w, i32_w]; rfl) : wpAnyLast P md ops Q S ds (fuel + 1) l a w := pure_ l' hi hN hc hQ (.inl ⟨hw, hy⟩) ha h
theorem ta (i n : Nat) (h : wpAnyLast P md ops Q S ds fuel l' a' w) (hi : ops[i]? = some oi := by rfl) (hN : oi.dst = some n := by rfl)
  (hl : l.setIfInBounds i true = l' := by simp only [List.setIfInBounds_toArray, List.set_cons_zero, List.set_cons_succ]; rfl)
  (hc : takeB md ops ds l l' i = true := by first | exact take_ofW HT_.out HW_.out (by kernel_rfl) | kernel_rfl) (hQ : ∀ c a w, Q (.panic c) (a.put oi.dst v) w → Q (.panic c) a w := by exact fun _ _ _ h => h)
  (hw : Region.wanted oi (yielded ops a.tmps) = true := by rfl) (hy : ∀ w, S w → (execOp a.eval oi).run P w = .ok (.value v) w := by intro w' s_; go_simp; with_reducible rfl) (hS : S w := by exact hHeld)
  (ha : a.put (some n) v = a' := by simp only [Act.put, List.setIfInBounds_toArray, List.set_cons_zero, List.set_cons_succ, i64_w, i32_w]; rfl) : wpAnyLast P md ops Q S ds (fuel + 1) l a w := take_ l' hi hN hc hQ (.inl ⟨hw, hy⟩) hS ha h
theorem on (i : Nat) (N : Option Tmp) (h : ∀ K : Act → World → Prop, Shut (∀ a' w', S w' → (S w' → wpAnyLast P md ops Q S ds fuel l' a' w') → K a' w') → if Region.wanted oi (yielded ops a.tmps) = true then Oper.wp P oi a w K Q else K (a.put N undef) w)
  (hi : ops[i]? = some oi := by rfl) (hN : oi.dst = N := by rfl)
  (hl : l.setIfInBounds i true = l' := by simp only [List.setIfInBounds_toArray, List.set_cons_zero, List.set_cons_succ]; rfl)
  (hc : readyB md ops l l' i = true := by first | exact one_of HT_.out (by kernel_rfl) | kernel_rfl) (hd : i ∉ ds := by decide) : wpAnyLast P md ops Q S ds (fuel + 1) l a w := one_ l' hi hN hc hd h
theorem tw (i j : Nat) (N N' : Option Tmp) (h : ∀ K : Act → World → Prop, Shut (∀ a' w', S w' → (S w' → wpAnyLast P md ops Q S ds fuel l' a' w') → K a' w') → if Region.wanted oi (yielded ops a.tmps) = true then Oper.wp P oi a w K Q else K (a.put N undef) w)
  (h2 : ∀ K : Act → World → Prop, Shut (∀ a' w', S w' → (S w' → wpAnyLast P md ops Q S ds fuel lj a' w') → K a' w') → if Region.wanted oj (yielded ops a.tmps) = true then Oper.wp P oj a w K Q else K (a.put N' undef) w)
  (hi : ops[i]? = some oi := by rfl) (hj : ops[j]? = some oj := by rfl) (hN : oi.dst = N := by rfl) (hN' : oj.dst = N' := by rfl)
  (hl : l.setIfInBounds i true = l' := by simp only [List.setIfInBounds_toArray, List.set_cons_zero, List.set_cons_succ]; rfl) (hl' : l.setIfInBounds j true = lj := by simp only [List.setIfInBounds_toArray, List.set_cons_zero, List.set_cons_succ]; rfl)
  (hc : (Region.ready md ops l == [i, j] && l.setIfInBounds i true == l' && l.setIfInBounds j true == lj) = true := by first | exact two_of HT_.out (by kernel_rfl) | kernel_rfl) (hd : i ∉ ds := by decide) (hd' : j ∉ ds := by decide) : wpAnyLast P md ops Q S ds (fuel + 1) l a w := two_ l' lj hi hj hN hN' hc hd hd' h h2
theorem rL {α : Type} (d : Kd α) (e n : Nat) {xs : List α} (hx : Aside0 (xs = [])) (h : ∀ v1 w1, d.R e w1 w.heap.size (fun _ => True) v1 xs → Below w.heap.size w w1 → K (a.put (some n) v1) w1) (hd : oi.dst = some n := by rfl)
  (hw : Region.wanted oi (yielded ops a.tmps) = true := by rfl) (hr : (execOp a.eval oi).run P w = .ok (.value (.slice (some ⟨w.heap.size, 0, none⟩) 0 0)) (w.alloc (.cells #[] e)) := by first | (go_simp; done) | (go_simp; rfl)) : if Region.wanted oi (yielded ops a.tmps) = true then Oper.wp P oi a w K Q else K (a.put (some n) undef) w := by
 have hz := hx.out
 subst hz
 rw [← hd]
 exact Kd.R_lit_step d w.heap.size e hw hd (xs := []) (inner := []) (ok := fun _ => True) (okp := fun _ => True) hr (Reps.none _ _) (fun _ hk => hk) trivial (Below.refl _ _) (Nat.le_refl _) (by simp) (fun v1 w1 ho hb _ _ => by rw [hd]; exact h v1 w1 ho hb)
theorem kO (n : Nat) {v : Value} (hK : Shut (∀ a' w', S w' → (S w' → wpAnyLast P md ops Q S ds fuel l a' w') → K a' w')) (h : S w → wpAnyLast P md ops Q S ds fuel l a' w) (hS : S w := by exact zH)
  (ha : a.put (some n) v = a' := by simp only [Act.put, List.setIfInBounds_toArray, List.set_cons_zero, List.set_cons_succ, i64_w, i32_w]; rfl) : K (a.put (some n) v) w := hK.out _ _ hS (fun s => by subst ha; exact h s)
theorem sk (h : K a w1) (hw : Region.wanted oi (yielded ops a.tmps) = true := by rfl) (hN : oi.dst = none := by rfl) (hrun : (execOp a.eval oi).run P w = .ok .skip w1 := by go_simp; rfl) : if Region.wanted oi (yielded ops a.tmps) = true then Oper.wp P oi a w K Q else K (a.put none undef) w := skip_ hw hN hrun h
theorem skW (h : ∀ w2, w2 = w1 → K a w2) (hw : Region.wanted oi (yielded ops a.tmps) = true := by rfl) (hN : oi.dst = none := by rfl) (hrun : (execOp a.eval oi).run P w = .ok .skip w1 := by go_simp; rfl) : if Region.wanted oi (yielded ops a.tmps) = true then Oper.wp P oi a w K Q else K (a.put none undef) w := skip_ hw hN hrun (h _ rfl)
end
section
variable {α : Type} {d : Kd α} {e t g base : Nat} {ok : Nat → Prop} {w w0 W w1 : World} {v : Value} {xs : List α} {cs cs' : Array Value}
theorem bG (b : Aside0 (w.heap[g]? = some (.cells cs t (0, 0)))) (ho : Aside0 (d.R e w base ok v xs)) (hg : W.grownBy w1 v.ownBlock) (ht : e ≠ t := by decide)
  (k : w.heap[g]? = some (.cells cs t (0, 0)) → W.heap[g]? = some (.cells cs t (0, 0)) := by intro h_; (repeat (first | (with_reducible first | exact h_ | apply blk_drewN | apply blk_drew | apply blk_alloc) | refine kF ?_ (Aside0.out (by assumption)) _)); first | done | exact h_) : Aside0 (w1.heap[g]? = some (.cells cs t (0, 0))) := ⟨blk_grown (k b.out) hg (Kd.R_ne ho.out b.out ht)⟩
theorem bN (b : Aside0 (w.heap[g]? = some (.cells cs t (0, 0)))) (ho : Aside0 (Kd.N d e w base ok v xs)) (hg : W.grownBy w1 v.ownBlock) (ht : e ≠ t := by decide)
  (k : w.heap[g]? = some (.cells cs t (0, 0)) → W.heap[g]? = some (.cells cs t (0, 0)) := by intro h_; (repeat (first | (with_reducible first | exact h_ | apply blk_drewN | apply blk_drew | apply blk_alloc) | refine kF ?_ (Aside0.out (by assumption)) _)); first | done | exact h_) : Aside0 (w1.heap[g]? = some (.cells cs t (0, 0))) := ⟨blk_grown (k b.out) hg (Kd.N_ne ho.out b.out ht)⟩
end
end Go.Proofs.YtbncnjgflhoneaaGreatDoor.F
namespace Go.Proofs.YtbncnjgflhoneaaGreatDoor.F
open Go.RowKit Go.Proofs.YtbncnjgflhoneaaGreatDoor.Hand Go.Proofs.YtbncnjgflhoneaaGreatDoorW.PrintWords Go.Proofs.YtbncnjgflhoneaaGreatDoorW.PrintLast Go.Proofs.YtbncnjgflhoneaaGreatDoorW.PrintMore
set_option linter.unusedVariables false
set_option linter.unusedSimpArgs false
section
variable {w W w1 : World} {g : Nat} {α : Type} {d : Kd α} {e base : Nat} {ok ok' : Nat → Prop} {v : Value} {xs : List α}
theorem vO (h : Aside0 (Kd.V d e w base ok v xs)) (k : Kd.V d e w base ok v xs → Kd.V d e W base ok v xs := by intro h_; (with_reducible repeat (first | apply Kd.V_alloc | apply Kd.V_drewN | apply Kd.V_drew)); exact h_) : Kd.V d e W base ok v xs := k h.out
theorem nO (h : Aside0 (Kd.N d e w base ok v xs)) (k : Kd.N d e w base ok v xs → Kd.N d e W base ok v xs := by intro h_; (with_reducible repeat (first | apply Kd.N_alloc | apply Kd.N_drewN | apply Kd.N_drew)); exact h_) : Kd.N d e W base ok v xs := k h.out
theorem cR {A : Option Addr} {n : Nat} (h : Aside0 (d.C w A n xs)) (hb : Below W.heap.size W w1) (k : d.C w A n xs → d.C W A n xs := by intro h_; repeat (first | (with_reducible exact h_) | (with_reducible refine Kd.C_alloc ?_ _) | (with_reducible refine Kd.C_drewN ?_ _) | (with_reducible refine Kd.C_drew ?_) | exact h_)) : Aside0 (d.C w1 A n xs) := ⟨Kd.C_below (k h.out) hb⟩
theorem sV (p : Addr) (u : Value) (h : Aside0 (Kd.V d e w base ok v xs)) (m : ∀ k, ok k → k ≠ p.block := by intro k_ hk_; grind) : Aside0 (Kd.V d e (w.setCell p u) base ok v xs) := ⟨Kd.V_far h.out m u⟩
theorem sR {t : Nat} {cs : Array Value} (p : Addr) (u : Value) (h : Aside0 (d.R e w base ok v xs)) (b : Aside0 (w.heap[p.block]? = some (.cells cs t (0, 0)))) (ht : ∀ q, q ∈ e :: d.E → q ≠ t := by decide) : Aside0 (d.R e (w.setCell p u) base ok v xs) := ⟨Kd.R_mono (Kd.R_far (Kd.R_types h.out b.out ht) (fun _ hk => hk.2) u) (fun _ hk => hk.1)⟩
theorem sB {o : Obj} (p : Addr) (u : Value) (h : Aside0 (w.heap[g]? = some o)) (n : g ≠ p.block := by exact Aside0.out (by assumption)) : Aside0 ((w.setCell p u).heap[g]? = some o) := ⟨kF h.out n u⟩
theorem fV {ok' : Nat → Prop} (h : Aside0 (Kd.V d e w base ok v xs)) (k : Kd.V d e w base ok v xs → Kd.V d e W base ok v xs := by intro h_; (repeat (first | (with_reducible first | exact h_ | apply Kd.V_alloc | apply Kd.V_drewN | apply Kd.V_drew) | refine Kd.V_far ?_ (fun k_ hk_ => by grind) _)); first | done | exact h_) (m : ∀ k, ok k → ok' k := by intro k_ hk_; first | exact hk_ | grind | (simp [Value.ownBlock]; grind) | grind [Value.ownBlock]) : Kd.V d e W base ok' v xs := Kd.V_mono (k h.out) m
theorem fN {ok' : Nat → Prop} (h : Aside0 (Kd.N d e w base ok v xs)) (k : Kd.N d e w base ok v xs → Kd.N d e W base ok v xs := by intro h_; (repeat (first | (with_reducible first | exact h_ | apply Kd.N_alloc | apply Kd.N_drewN | apply Kd.N_drew) | refine Kd.N_far ?_ (fun k_ hk_ => by grind) _)); first | done | exact h_) (m : ∀ k, ok k → ok' k := by intro k_ hk_; first | exact hk_ | grind | (simp [Value.ownBlock]; grind) | grind [Value.ownBlock]) : Kd.N d e W base ok' v xs := Kd.N_mono (k h.out) m
theorem vE {g : Nat} (hg : g = W.heap.size) (h : Aside0 (Kd.V d e w base ok v xs)) (hb : Below W.heap.size W w1) (k : Kd.V d e w base ok v xs → Kd.V d e W base ok v xs := by intro h_; (with_reducible repeat (first | apply Kd.V_alloc | apply Kd.V_drewN | apply Kd.V_drew)); exact h_) : Aside0 (Kd.V d e w1 base (fun k => ok k ∧ k ≠ g) v xs) := ⟨Kd.V_below (Kd.V_elderB (k h.out) g (Nat.le_of_eq hg.symm)) hb⟩
end
end Go.Proofs.YtbncnjgflhoneaaGreatDoor.F
namespace Go.Proofs.YtbncnjgflhoneaaGreatDoor.F
open Go.RowKit Go.Proofs.YtbncnjgflhoneaaGreatDoor.Hand Go.Proofs.YtbncnjgflhoneaaGreatDoorW.PrintWords Go.Proofs.YtbncnjgflhoneaaGreatDoorW.PrintLast Go.Proofs.YtbncnjgflhoneaaGreatDoorW.PrintMore
set_option linter.unusedVariables false
set_option linter.unusedSimpArgs false
def spec_l5Room.f (a0_0 : Int) (l0_1 : List (S117)) : Option (Bool) := if (l0_1.length : Int) < 10 then (some (decide (a0_0 < 999))) else (some false)
set_option maxHeartbeats 8000000 in
set_option maxRecDepth 100000 in
theorem spec_l5Room.calls (a0_0 : Int) (A0_1 : Option Addr) (c0_1 : Nat) (l0_1 : List (S117)) (r : Bool) (w : World) (hr0_1 : Kd.C k117 w A0_1 l0_1.length l0_1) (hc0_1 : l0_1.length ≤ c0_1) (h : spec_l5Room.f a0_0 l0_1 = some r) :
  Calls Tryz.prog 94 #[.agg #[.int .i64 a0_0, .slice A0_1 l0_1.length c0_1]] w fun e w' => e = .returned (.bool r) ∧ Below w.heap.size w w' := by
 have hu80 := Tryz.underlying80
 have HR0_1 := Aside0.mk hr0_1
 have HC0_1 := Aside0.mk hc0_1
 clear hr0_1 hc0_1
 have HB := Aside0.mk (Below.refl w.heap.size w)
 have H := h
 clear h
 unfold spec_l5Room.f at H
 replace H := its_cd_cd H; rcases H with ⟨c2, c2b0, H⟩ | ⟨c2, c2b0, H⟩
 ·have c2b1 : decide (l0_1.length < 10) = true := decide_eq_true (by omega)
  clear c2
  obtain rfl := Option.some.inj H
  go_enter Tryz.func94, Tryz.ntmps94
  go_wp2_with (first | ((with_reducible refine gate_dst (N := 1) rfl ?_); refine bx (cs := #[.int .i64 a0_0, .slice A0_1 l0_1.length c0_1]) (t := 80) ?_; intro gb101 hg w3 hbox hb; have BK101 := Aside0.mk (hbox); have GW101 := gS hg; have GE101 := gS hg; replace HB := bS hb; clear hb hbox hg; have hcz4 := cz2 BK101.out; have hfz4 := fz2 BK101.out))
  go_ret
  exact ⟨zr, zB⟩
 ·have c2b1 : decide (l0_1.length < 10) = false := decide_eq_false (by omega)
  clear c2
  obtain rfl := Option.some.inj H
  go_enter Tryz.func94, Tryz.ntmps94
  go_wp2_with (first | ((with_reducible refine gate_dst (N := 1) rfl ?_); refine bx (cs := #[.int .i64 a0_0, .slice A0_1 l0_1.length c0_1]) (t := 80) ?_; intro gb101 hg w5 hbox hb; have BK101 := Aside0.mk (hbox); have GW101 := gS hg; have GE101 := gS hg; replace HB := bS hb; clear hb hbox hg; have hcz6 := cz2 BK101.out; have hfz6 := fz2 BK101.out))
  go_ret
  exact ⟨zr, zB⟩
end Go.Proofs.YtbncnjgflhoneaaGreatDoor.F
