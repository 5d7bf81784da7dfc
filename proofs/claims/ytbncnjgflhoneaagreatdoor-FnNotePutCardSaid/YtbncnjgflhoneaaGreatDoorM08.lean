/- Of this claim, merged by program: F96. -/
import Derived.Test.YtbncnjgflhoneaaGreatDoorM02
import Derived.Test.YtbncnjgflhoneaaGreatDoorM05
import Derived.Test.YtbncnjgflhoneaaGreatDoorM07
namespace Go.Proofs.YtbncnjgflhoneaaGreatDoor.F
open Go.RowKit Go.Proofs.YtbncnjgflhoneaaGreatDoor.Hand Go.Proofs.YtbncnjgflhoneaaGreatDoorW.PrintWords Go.Proofs.YtbncnjgflhoneaaGreatDoorW.PrintLast Go.Proofs.YtbncnjgflhoneaaGreatDoorW.PrintMore
set_option linter.unusedVariables false
set_option linter.unusedSimpArgs false
def spec_l5Done.f (a0_0 : Int) (l0_1 : List (S117)) (a1 : Int) (a2 : Int) : Option (Int × (List (S117))) := if 0 ≤ a1 then (if a1 < (l0_1.length : Int) then ((spec_l5CopyItem.f ((rd_T117 l0_1 a1).f0) ((rd_T117 l0_1 a1).f1.f0) ((rd_T117 l0_1 a1).f1.f1) ((rd_T117 l0_1 a1).f2) ((rd_T117 l0_1 a1).f3)).bind fun bt104 => ((some (([] : List (S143)) : List (S143))).bind fun y114 => (if 0 ≤ a2 then (if a2 ≤ (bt104.2.2.2.1.length : Int) then ((some (bt104.2.2.2.1.take (a2 : Int).toNat : List (S143))).bind fun y117 => (if y114.length + y117.length < 2932031007402 then ((some (y114 ++ y117 : List (S143))).bind fun y122 => (if 0 ≤ (wrap64 (a2 + 1)) then (if (wrap64 (a2 + 1)) ≤ (bt104.2.2.2.1.length : Int) then ((some (bt104.2.2.2.1.drop ((wrap64 (a2 + 1)) : Int).toNat : List (S143))).bind fun y125 => (if y122.length + y125.length < 2932031007402 then ((some (y122 ++ y125 : List (S143))).bind fun y130 => ((some (([] : List (S117)) : List (S117))).bind fun y133 => (if a1 ≤ (l0_1.length : Int) then ((some (l0_1.take (a1 : Int).toNat : List (S117))).bind fun y136 => (if y133.length + y136.length < 1599289640401 then ((some (y133 ++ y136 : List (S117))).bind fun y141 => (if (y130.length : Int) > 0 then (if y141.length < 1599289640401 then ((some (y141 ++ [(⟨bt104.1, (⟨bt104.2.1, bt104.2.2.1⟩ : S32), y130, bt104.2.2.2.2⟩ : S117)] : List (S117))).bind fun y144 => (if 0 ≤ (wrap64 (a1 + 1)) then (if (wrap64 (a1 + 1)) ≤ (l0_1.length : Int) then ((some (l0_1.drop ((wrap64 (a1 + 1)) : Int).toNat : List (S117))).bind fun y147 => (if y144.length + y147.length < 1599289640401 then (some (a0_0, (y144 ++ y147))) else (none))) else (none)) else (none))) else (none)) else (if 0 ≤ (wrap64 (a1 + 1)) then (if (wrap64 (a1 + 1)) ≤ (l0_1.length : Int) then ((some (l0_1.drop ((wrap64 (a1 + 1)) : Int).toNat : List (S117))).bind fun y155 => (if y141.length + y155.length < 1599289640401 then (some (a0_0, (y141 ++ y155))) else (none))) else (none)) else (none)))) else (none))) else (none)))) else (none))) else (none)) else (none))) else (none))) else (none)) else (none)))) else (none)) else (none)
def spec_l5Done.T2 : Bool × List (List Nat × List Nat) := (true, [([], []), ([], []), ([1], [1]), ([], []), ([2, 3], [2, 3]), ([0, 4], [0, 4]), ([], []), ([6], [6]), ([], []), ([8], [8]), ([7, 9], [7, 9]), ([5, 10, 5], [5, 10]), ([0, 1, 2, 3, 4, 5, 6, 7, 8, 9, 10, 11], []), ([12, 11, 11, 0, 1, 2, 3, 4, 5, 6, 7, 8, 9, 10, 11], [11, 12])])
def spec_l5Done.B2 : List Nat := [0, 0, 2, 0, 14, 31, 0, 64, 0, 256, 960, 2047, 4095, 8191]
theorem spec_l5Done.tab2 : rtab .any (opsOf Tryz.f96 2) = spec_l5Done.T2 := by kernel_rfl
theorem spec_l5Done.bits2 : waitsOk spec_l5Done.T2.2 spec_l5Done.B2 = true := by kernel_rfl
set_option maxHeartbeats 8000000 in
set_option maxRecDepth 100000 in
theorem spec_l5Done.calls (a0_0 : Int) (P0_1_ : Nat → Prop) (A0_1 : Option Addr) (c0_1 : Nat) (l0_1 : List (S117)) (a1 : Int) (a2 : Int) (r1 : Int) (r2 : List (S117)) (w : World) (hs0_1 : Kd.V k117 117 w w.heap.size (fun k_ => P0_1_ k_) (.slice A0_1 l0_1.length c0_1) l0_1) (h : spec_l5Done.f a0_0 l0_1 a1 a2 = some (r1, r2)) :
  Calls Tryz.prog 96 #[.agg #[.int .i64 a0_0, .slice A0_1 l0_1.length c0_1], .int .i64 a1, .int .i64 a2] w fun e w' => ∃ v1_ : Value, e = .returned (.agg #[.int .i64 r1, v1_]) ∧ Kd.N k117 117 w' w.heap.size (fun k_ => (P0_1_ k_ ∨ w.heap.size ≤ k_)) v1_ r2 ∧ Below w.heap.size w w' := by
 have hu80 := Tryz.underlying80
 have hu117 := Tryz.underlying117
 have HO0_1 := Aside0.mk (show Kd.V k117 117 w w.heap.size (fun k_ => (P0_1_ k_ ∨ w.heap.size ≤ k_)) (.slice A0_1 l0_1.length c0_1) l0_1 from Kd.V_mono hs0_1 (fun k_ hk => .inl hk))
 have HB := Aside0.mk (Below.refl w.heap.size w)
 have H := h
 clear h
 unfold spec_l5Done.f at H
 replace H := itn_d H; obtain ⟨c4b0, H⟩ := H
 replace H := itn_d H; obtain ⟨c5b0, H⟩ := H
 replace H := bnd H; obtain ⟨⟨t104, t105, t106, t107, t110⟩, A6, H⟩ := H
 dsimp only at H
 first | (with_reducible replace H := bne (([] : List (S143)) : List (S143)) H; obtain ⟨y114, Ny114, H⟩ := H) | (generalize hy_ : (([] : List (S143)) : List (S143)) = y114 at H; have Ny114 := Aside0.mk hy_.symm; clear hy_)
 replace H := itn_ed H; obtain ⟨c7b0, c7b1, H⟩ := H
 replace H := itn_ed H; obtain ⟨c8b0, c8b1, H⟩ := H
 first | (with_reducible replace H := bne (t107.take (a2 : Int).toNat : List (S143)) H; obtain ⟨y117, Ny117, H⟩ := H) | (generalize hy_ : (t107.take (a2 : Int).toNat : List (S143)) = y117 at H; have Ny117 := Aside0.mk hy_.symm; clear hy_)
 replace H := itn_L H; obtain ⟨LMc9, H⟩ := H
 first | (with_reducible replace H := bne (y114 ++ y117 : List (S143)) H; obtain ⟨y122, Ny122, H⟩ := H) | (generalize hy_ : (y114 ++ y117 : List (S143)) = y122 at H; have Ny122 := Aside0.mk hy_.symm; clear hy_)
 obtain ⟨ji10, hji10⟩ : ∃ j_ : Int, (wrap64 (a2 + 1)) = j_ := ⟨_, rfl⟩
 first | rw [hji10] at H | simp only [hji10] at H
 (try rw [hji10] at A6)
 have hji10w : (IntKind.i64.wrap (a2 + 1)) = ji10 := (i64_w _).trans hji10
 replace H := itn_ed H; obtain ⟨c11b0, c11b1, H⟩ := H
 replace H := itn_ed H; obtain ⟨c12b0, c12b1, H⟩ := H
 first | (with_reducible replace H := bne (t107.drop ((ji10) : Int).toNat : List (S143)) H; obtain ⟨y125, Ny125, H⟩ := H) | (generalize hy_ : (t107.drop ((ji10) : Int).toNat : List (S143)) = y125 at H; have Ny125 := Aside0.mk hy_.symm; clear hy_)
 replace H := itn_L H; obtain ⟨LMc13, H⟩ := H
 first | (with_reducible replace H := bne (y122 ++ y125 : List (S143)) H; obtain ⟨y130, Ny130, H⟩ := H) | (generalize hy_ : (y122 ++ y125 : List (S143)) = y130 at H; have Ny130 := Aside0.mk hy_.symm; clear hy_)
 first | (with_reducible replace H := bne (([] : List (S117)) : List (S117)) H; obtain ⟨y133, Ny133, H⟩ := H) | (generalize hy_ : (([] : List (S117)) : List (S117)) = y133 at H; have Ny133 := Aside0.mk hy_.symm; clear hy_)
 have c14b0 := eq_true (of_decide_eq_true za : 0 ≤ a1)
 replace H := itn_ed H; obtain ⟨c15b0, c15b1, H⟩ := H
 first | (with_reducible replace H := bne (l0_1.take (a1 : Int).toNat : List (S117)) H; obtain ⟨y136, Ny136, H⟩ := H) | (generalize hy_ : (l0_1.take (a1 : Int).toNat : List (S117)) = y136 at H; have Ny136 := Aside0.mk hy_.symm; clear hy_)
 replace H := itn_L H; obtain ⟨LMc16, H⟩ := H
 first | (with_reducible replace H := bne (y133 ++ y136 : List (S117)) H; obtain ⟨y141, Ny141, H⟩ := H) | (generalize hy_ : (y133 ++ y136 : List (S117)) = y141 at H; have Ny141 := Aside0.mk hy_.symm; clear hy_)
 replace H := its_cd_cd H; rcases H with ⟨c17, c17b0, H⟩ | ⟨c17, c17b0, H⟩
 ·have c17b1 : decide (0 < y130.length) = true := decide_eq_true (by omega)
  clear c17
  replace H := itn_L H; obtain ⟨LMc18, H⟩ := H
  first | (with_reducible replace H := bne (y141 ++ [(⟨t104, (⟨t105, t106⟩ : S32), y130, t110⟩ : S117)] : List (S117)) H; obtain ⟨y144, Ny144, H⟩ := H) | (generalize hy_ : (y141 ++ [(⟨t104, (⟨t105, t106⟩ : S32), y130, t110⟩ : S117)] : List (S117)) = y144 at H; have Ny144 := Aside0.mk hy_.symm; clear hy_)
  obtain ⟨ji19, hji19⟩ : ∃ j_ : Int, (wrap64 (a1 + 1)) = j_ := ⟨_, rfl⟩
  first | rw [hji19] at H | simp only [hji19] at H
  (try rw [hji19] at A6)
  have hji19w : (IntKind.i64.wrap (a1 + 1)) = ji19 := (i64_w _).trans hji19
  replace H := itn_ed H; obtain ⟨c20b0, c20b1, H⟩ := H
  replace H := itn_ed H; obtain ⟨c21b0, c21b1, H⟩ := H
  first | (with_reducible replace H := bne (l0_1.drop ((ji19) : Int).toNat : List (S117)) H; obtain ⟨y147, Ny147, H⟩ := H) | (generalize hy_ : (l0_1.drop ((ji19) : Int).toNat : List (S117)) = y147 at H; have Ny147 := Aside0.mk hy_.symm; clear hy_)
  replace H := itn_L H; obtain ⟨LMc22, H⟩ := H
  first | (with_reducible replace H := bne (y144 ++ y147 : List (S117)) H; obtain ⟨y152, Ny152, H⟩ := H) | (generalize hy_ : (y144 ++ y147 : List (S117)) = y152 at H; have Ny152 := Aside0.mk hy_.symm; clear hy_)
  simp only [Option.some.injEq, Prod.mk.injEq] at H
  obtain ⟨rfl, rfl⟩ := H
  go_enter Tryz.func96, Tryz.ntmps96
  try go_wp2_with (first | ((with_reducible refine gate_dst (N := 3) rfl ?_); refine bx (cs := #[.int .i64 a0_0, .slice A0_1 l0_1.length c0_1]) (t := 80) ?_; intro gb101 hg w23 hbox hb; replace HO0_1 := vE hg HO0_1 hb; have BK101 := Aside0.mk (hbox); have GW101 := gS hg; have GE101 := gS hg; replace HB := bS hb; clear hb hbox hg) | ((with_reducible refine gate_dst (N := 6) rfl ?_); refine bx (cs := #[.int .i64 0, .slice none 0 0]) (t := 80) ?_; intro gb102 hg w24 hbox hb; replace HO0_1 := vE hg HO0_1 hb; have BK102 := Aside0.mk (hbox); have GW102 := gS hg; have GE102 := gS hg; have NB101_102 := nS hg BK101; have NB102_101 := nG hg BK101; replace BK101 := kS BK101 hb; replace HB := bS hb; clear hb hbox hg; have hnb25 := NB101_102.out; have hnc25 := NB102_101.out; have hcz26 := cz2 BK101.out; have hfz26 := fz2 BK101.out; have p103 : 0 ≤ (a1 : Int) := of_decide_eq_true za; have q103 : a1 < (l0_1.length : Int) := of_decide_eq_true za; obtain ⟨ad103, A103_3, c103_3, A103_4, c103_4, e103, hx103_0, hx103_1, hx103_2, hx103_3, hx103_4, hl103_3, hi103_3, hl103_4, hi103_4⟩ := at_T117 (Kd.V_reads' HO0_1.out).2.2 a1 p103 q103; cases e103; obtain ⟨ce103, hce103, hMe103, hcc103⟩ := Kd.V_get HO0_1.out z117 a1 p103 (by first | exact q103 | exact of_decide_eq_true za | (have e_ := (Kd.V_reads' HO0_1.out).1; omega)); obtain ⟨ua103_3, uc103_3, ua103_4, uc103_4, rfl, ul103_3, ge103_3, ul103_4, ge103_4⟩ := k117_openF hMe103; have hv103_3 := hcc103 3 _ rfl; rw [add_field _ _ 3 (by omega)] at hv103_3; replace hv103_3 := Option.some.inj (hv103_3.symm.trans hx103_3); injection hv103_3 with hva_ hvn_ hvc_; rw [hva_] at ge103_3; rw [hvc_] at ul103_3; have HL103_3 := Aside0.mk (show Kd.V k143 143 _ w.heap.size _ _ ((rd_T117 l0_1 a1).f2) from Kd.V_mk ul103_3 ge103_3); clear hva_ hvn_ hvc_ ge103_3 ul103_3; have hv103_4 := hcc103 4 _ rfl; rw [add_field _ _ 4 (by omega)] at hv103_4; replace hv103_4 := Option.some.inj (hv103_4.symm.trans hx103_4); injection hv103_4 with hva_ hvn_ hvc_; rw [hva_] at ge103_4; rw [hvc_] at ul103_4; have HL103_4 := Aside0.mk (show Kd.V Kd.string 9 _ w.heap.size _ _ ((rd_T117 l0_1 a1).f3) from Kd.V_mk ul103_4 ge103_4); clear hva_ hvn_ hvc_ ge103_4 ul103_4 hcc103 hce103; have HR103_3 := Aside0.mk hi103_3; have HC103_3 := Aside0.mk hl103_3; clear hi103_3 hl103_3; have HR103_4 := Aside0.mk hi103_4; have HC103_4 := Aside0.mk hl103_4; clear hi103_4 hl103_4; replace p103 := eq_true p103; replace q103 := eq_true q103) | ((with_reducible refine gate_callee (f := 132) rfl ?_); refine gl 14 Tryz.func132 #[.agg #[.int .i64 ((rd_T117 l0_1 a1).f0), .string ((rd_T117 l0_1 a1).f1.f0), .string ((rd_T117 l0_1 a1).f1.f1), .slice A103_3 ((rd_T117 l0_1 a1).f2).length c103_3, .slice A103_4 ((rd_T117 l0_1 a1).f3).length c103_4]] ((spec_l5CopyItem.calls (w := _) (hr0_3 := by repeat (first | exact (by repeat (first | (with_reducible exact HR103_3.out) | (with_reducible refine Kd.C_alloc ?_ _) | (with_reducible refine Kd.C_drewN ?_ _) | (with_reducible refine Kd.C_drew ?_) | exact HR103_3.out)) | (with_reducible refine Kd.C_alloc ?_ _) | (with_reducible refine Kd.C_drewN ?_ _) | (with_reducible refine Kd.C_drew ?_))) (hc0_3 := HC103_3.out) (hr0_4 := by repeat (first | exact (by repeat (first | (with_reducible exact HR103_4.out) | (with_reducible refine Kd.C_alloc ?_ _) | (with_reducible refine Kd.C_drewN ?_ _) | (with_reducible refine Kd.C_drew ?_) | exact HR103_4.out)) | (with_reducible refine Kd.C_alloc ?_ _) | (with_reducible refine Kd.C_drewN ?_ _) | (with_reducible refine Kd.C_drew ?_))) (hc0_4 := HC103_4.out) (h := A6.out)).mono ?_); rintro e w27 ⟨v108, v111, rfl, ho0, ho1, hb⟩; refine ⟨_, rfl, ?_⟩; replace HO0_1 := Aside0.mk (Kd.V_mono (Kd.V_told (Kd.V_told (Kd.V_old (vO HO0_1) hb) (Kd.R_base ho0)) (Kd.R_base ho1)) (fun _ h_ => h_.1)); replace HL103_3 := Aside0.mk (Kd.V_mono (Kd.V_told (Kd.V_told (Kd.V_old (vO HL103_3) hb) (Kd.R_base ho0)) (Kd.R_base ho1)) (fun _ h_ => h_.1)); replace HL103_4 := Aside0.mk (Kd.V_mono (Kd.V_told (Kd.V_told (Kd.V_old (vO HL103_4) hb) (Kd.R_base ho0)) (Kd.R_base ho1)) (fun _ h_ => h_.1)); have HO109 := Aside0.mk (Kd.R_lower (Kd.R_newM (M := fun k_ => (w.heap.size ≤ k_)) ho0 (bZ) (fun k_ h_ => h_)) (bZ)); have HO112 := Aside0.mk (Kd.R_lower (Kd.R_newM (M := fun k_ => (w.heap.size ≤ k_)) ho1 (bZ) (fun k_ h_ => h_)) (bZ)); replace BK101 := kS BK101 hb; replace BK102 := kS BK102 hb; replace HR103_3 := cR HR103_3 hb; replace HR103_4 := cR HR103_4 hb; replace HB := bS hb; clear hb ho0; (try clear ho1)) | ((with_reducible refine gate_dst (N := 7) rfl ?_); refine bx (cs := #[.int .i64 0, .string ⟨#[]⟩, .string ⟨#[]⟩, .slice none 0 0, .slice none 0 0]) (t := 117) ?_; intro gb113 hg w28 hbox hb; replace HO0_1 := vE hg HO0_1 hb; replace HL103_3 := vE hg HL103_3 hb; replace HL103_4 := vE hg HL103_4 hb; replace HO109 := rS HO109 hb; replace HO112 := rS HO112 hb; replace HR103_3 := cR HR103_3 hb; replace HR103_4 := cR HR103_4 hb; have BK113 := Aside0.mk (hbox); have GW113 := gS hg; have GE113 := gS hg; have NB101_113 := nS hg BK101; have NB113_101 := nG hg BK101; replace BK101 := kS BK101 hb; have NB102_113 := nS hg BK102; have NB113_102 := nG hg BK102; replace BK102 := kS BK102 hb; replace HB := bS hb; clear hb hbox hg; have hnb29 := NB113_101.out; have hnc29 := NB101_113.out; have hnb30 := NB113_102.out; have hnc30 := NB102_113.out; have hcz31 := cz5 BK113.out; have hfz31 := fz5 BK113.out; obtain ⟨Ao32, co32, eo32⟩ := Kd.R_slice HO109.out; subst eo32; obtain ⟨Ao33, co33, eo33⟩ := Kd.R_slice HO112.out; subst eo33))
  have n0_ : Aside0 (Kd.V k117 117 (((((w28.setCell ⟨gb113, 0, none⟩ (.int .i64 t104)).setCell ⟨gb113, 1, none⟩ (.string t105)).setCell ⟨gb113, 2, none⟩ (.string t106)).setCell ⟨gb113, 3, none⟩ (.slice Ao32 t107.length co32)).setCell ⟨gb113, 4, none⟩ (.slice Ao33 t110.length co33)) w.heap.size (fun k_ => (P0_1_ k_ ∨ w.heap.size ≤ k_) ∧ some k_ ≠ (.slice Ao32 t107.length co32 : Value).ownBlock ∧ some k_ ≠ (.slice Ao33 t110.length co33 : Value).ownBlock ∧ k_ ≠ gb101 ∧ k_ ≠ gb102 ∧ k_ ≠ gb113) (.slice (some ad103) l0_1.length c0_1) l0_1) := ⟨fV HO0_1⟩
  have n1_ : Aside0 (Kd.V k143 143 (((((w28.setCell ⟨gb113, 0, none⟩ (.int .i64 t104)).setCell ⟨gb113, 1, none⟩ (.string t105)).setCell ⟨gb113, 2, none⟩ (.string t106)).setCell ⟨gb113, 3, none⟩ (.slice Ao32 t107.length co32)).setCell ⟨gb113, 4, none⟩ (.slice Ao33 t110.length co33)) w.heap.size (fun k_ => (P0_1_ k_ ∨ w.heap.size ≤ k_) ∧ some k_ ≠ (.slice Ao32 t107.length co32 : Value).ownBlock ∧ some k_ ≠ (.slice Ao33 t110.length co33 : Value).ownBlock ∧ k_ ≠ gb101 ∧ k_ ≠ gb102 ∧ k_ ≠ gb113) (.slice A103_3 ((rd_T117 l0_1 a1).f2).length c103_3) ((rd_T117 l0_1 a1).f2)) := ⟨fV HL103_3⟩
  have n2_ : Aside0 (Kd.V Kd.string 9 (((((w28.setCell ⟨gb113, 0, none⟩ (.int .i64 t104)).setCell ⟨gb113, 1, none⟩ (.string t105)).setCell ⟨gb113, 2, none⟩ (.string t106)).setCell ⟨gb113, 3, none⟩ (.slice Ao32 t107.length co32)).setCell ⟨gb113, 4, none⟩ (.slice Ao33 t110.length co33)) w.heap.size (fun k_ => (P0_1_ k_ ∨ w.heap.size ≤ k_) ∧ some k_ ≠ (.slice Ao32 t107.length co32 : Value).ownBlock ∧ some k_ ≠ (.slice Ao33 t110.length co33 : Value).ownBlock ∧ k_ ≠ gb101 ∧ k_ ≠ gb102 ∧ k_ ≠ gb113) (.slice A103_4 ((rd_T117 l0_1 a1).f3).length c103_4) ((rd_T117 l0_1 a1).f3)) := ⟨fV HL103_4⟩
  have n3_ : Aside0 (Kd.R k143 143 (((((w28.setCell ⟨gb113, 0, none⟩ (.int .i64 t104)).setCell ⟨gb113, 1, none⟩ (.string t105)).setCell ⟨gb113, 2, none⟩ (.string t106)).setCell ⟨gb113, 3, none⟩ (.slice Ao32 t107.length co32)).setCell ⟨gb113, 4, none⟩ (.slice Ao33 t110.length co33)) w.heap.size (fun k_ => (w.heap.size ≤ k_)) (.slice Ao32 t107.length co32) t107) := ⟨fM HO109 BK113 (fun _ hk => hk.1.1)⟩
  have n4_ : Aside0 (Kd.R Kd.string 9 (((((w28.setCell ⟨gb113, 0, none⟩ (.int .i64 t104)).setCell ⟨gb113, 1, none⟩ (.string t105)).setCell ⟨gb113, 2, none⟩ (.string t106)).setCell ⟨gb113, 3, none⟩ (.slice Ao32 t107.length co32)).setCell ⟨gb113, 4, none⟩ (.slice Ao33 t110.length co33)) w.heap.size (fun k_ => (w.heap.size ≤ k_)) (.slice Ao33 t110.length co33) t110) := ⟨fM HO112 BK113 (fun _ hk => hk.1.1)⟩
  have n5_ : Aside0 ((((((w28.setCell ⟨gb113, 0, none⟩ (.int .i64 t104)).setCell ⟨gb113, 1, none⟩ (.string t105)).setCell ⟨gb113, 2, none⟩ (.string t106)).setCell ⟨gb113, 3, none⟩ (.slice Ao32 t107.length co32)).setCell ⟨gb113, 4, none⟩ (.slice Ao33 t110.length co33)).heap[gb101]? = some (.cells #[.int .i64 a0_0, .slice (some ad103) l0_1.length c0_1] 80 (0, 0))) := ⟨kQ BK101⟩
  have n6_ : Aside0 ((((((w28.setCell ⟨gb113, 0, none⟩ (.int .i64 t104)).setCell ⟨gb113, 1, none⟩ (.string t105)).setCell ⟨gb113, 2, none⟩ (.string t106)).setCell ⟨gb113, 3, none⟩ (.slice Ao32 t107.length co32)).setCell ⟨gb113, 4, none⟩ (.slice Ao33 t110.length co33)).heap[gb102]? = some (.cells #[.int .i64 0, .slice none 0 0] 80 (0, 0))) := ⟨kQ BK102⟩
  have n7_ : Aside0 ((((((w28.setCell ⟨gb113, 0, none⟩ (.int .i64 t104)).setCell ⟨gb113, 1, none⟩ (.string t105)).setCell ⟨gb113, 2, none⟩ (.string t106)).setCell ⟨gb113, 3, none⟩ (.slice Ao32 t107.length co32)).setCell ⟨gb113, 4, none⟩ (.slice Ao33 t110.length co33)).heap[gb113]? = some (.cells #[.int .i64 t104, .string t105, .string t106, .slice Ao32 t107.length co32, .slice Ao33 t110.length co33] 117 (0, 0))) := ⟨kQ BK113⟩
  have n8_ : Aside0 (Below w.heap.size w (((((w28.setCell ⟨gb113, 0, none⟩ (.int .i64 t104)).setCell ⟨gb113, 1, none⟩ (.string t105)).setCell ⟨gb113, 2, none⟩ (.string t106)).setCell ⟨gb113, 3, none⟩ (.slice Ao32 t107.length co32)).setCell ⟨gb113, 4, none⟩ (.slice Ao33 t110.length co33))) := ⟨zB⟩
  (try clear HO0_1)
  (try clear HL103_3)
  (try clear HL103_4)
  (try clear HO109)
  (try clear HO112)
  (try clear BK101)
  (try clear BK102)
  (try clear BK113)
  (try clear HB)
  generalize (((((w28.setCell ⟨gb113, 0, none⟩ (.int .i64 t104)).setCell ⟨gb113, 1, none⟩ (.string t105)).setCell ⟨gb113, 2, none⟩ (.string t106)).setCell ⟨gb113, 3, none⟩ (.slice Ao32 t107.length co32)).setCell ⟨gb113, 4, none⟩ (.slice Ao33 t110.length co33)) = w34 at n0_ n1_ n2_ n3_ n4_ n5_ n6_ n7_ n8_ ⊢
  have HO0_1 := n0_
  have HL103_3 := n1_
  have HL103_4 := n2_
  have HO109 := n3_
  have HO112 := n4_
  have BK101 := n5_
  have BK102 := n6_
  have BK113 := n7_
  have HB := n8_
  clear n0_ n1_ n2_ n3_ n4_ n5_ n6_ n7_ n8_
  replace HO0_1 := Aside0.mk (Kd.V_drew HO0_1.out)
  replace HL103_3 := Aside0.mk (Kd.V_drew HL103_3.out)
  replace HL103_4 := Aside0.mk (Kd.V_drew HL103_4.out)
  replace HO109 := Aside0.mk (Kd.R_drew HO109.out)
  replace HO112 := Aside0.mk (Kd.R_drew HO112.out)
  replace BK101 := Aside0.mk (blk_drew BK101.out)
  replace BK102 := Aside0.mk (blk_drew BK102.out)
  replace BK113 := Aside0.mk (blk_drew BK113.out)
  replace HB := Aside0.mk (below_drew1 HB.out)
  have q36 : (a2 : Int) ≤ ((t107.length : Int) : Int) := of_decide_eq_true za
  obtain ⟨i036, hi036, _, hsz36, _⟩ := info_parts info143
  have hroom36 : t107.length ≤ co32 := (Kd.R_reads' HO109.out).2.1
  have hC36 : Kd.F k143 _ _ Ao32 t107.length t107 := (Kd.V_at (base := w.heap.size) (Kd.V_mono (ok' := (fun k_ => (((((P0_1_ k_ ∨ w.heap.size ≤ k_) ∧ some k_ ≠ (.slice Ao33 t110.length co33 : Value).ownBlock) ∧ k_ ≠ gb101) ∧ k_ ≠ gb102) ∧ k_ ≠ gb113))) (Kd.R_V (Kd.R_types (Kd.R_types (Kd.R_types (Kd.R_apart' (HO109.out) (Kd.R_typed HO112.out) z0_) BK101.out z0_) BK102.out z0_) BK113.out z0_)) (fun k_ hk => ⟨⟨⟨⟨(.inr (hk.1.1.1.1)), hk.1.1.1.2⟩, hk.1.1.2⟩, hk.1.2⟩, hk.2⟩))).2.2
  have hcut36 := cut_to (P := Tryz.prog) 115 143 .i64 Tryz.underlying115 hi036 Ao32 t107.length co32 a2 (of_decide_eq_true za) q36 hroom36
  have hr36 := Kd.F_take (m := (a2 : Int).toNat) hC36 (by omega)
  have hy36 : y117.length = (a2 : Int).toNat := (by rw [Ny117.out, List.length_take]; omega)
  rw [← Ny117.out] at hr36
  rw [← hy36] at hcut36
  have HO121 := Aside0.mk (show Kd.V k143 143 _ w.heap.size _ (.slice Ao32 y117.length co32) y117 from Kd.V_mk (by omega) hr36)
  have HC121 := Aside0.mk (show y117.length ≤ co32 from by omega)
  clear hr36 hC36 hroom36 hi036 hsz36
  have KY36 := Aside0.mk hy36
  clear hy36
  replace q36 := eq_true q36
  have q37 : ((ji10) : Int) ≤ ((t107.length : Int) : Int) := of_decide_eq_true za
  obtain ⟨i037, hi037, _, hsz37, _⟩ := info_parts info143
  have hroom37 : t107.length ≤ co32 := (Kd.R_reads' HO109.out).2.1
  have hC37 : Kd.F k143 _ _ Ao32 t107.length t107 := (Kd.V_at (base := w.heap.size) (Kd.V_mono (ok' := (fun k_ => (((((P0_1_ k_ ∨ w.heap.size ≤ k_) ∧ some k_ ≠ (.slice Ao33 t110.length co33 : Value).ownBlock) ∧ k_ ≠ gb101) ∧ k_ ≠ gb102) ∧ k_ ≠ gb113))) (Kd.R_V (Kd.R_types (Kd.R_types (Kd.R_types (Kd.R_apart' (HO109.out) (Kd.R_typed HO112.out) z0_) BK101.out z0_) BK102.out z0_) BK113.out z0_)) (fun k_ hk => ⟨⟨⟨⟨(.inr (hk.1.1.1.1)), hk.1.1.1.2⟩, hk.1.1.2⟩, hk.1.2⟩, hk.2⟩))).2.2
  have q037 : (0 : Int) ≤ ((ji10) : Int) := of_decide_eq_true za
  have hcut37 := cut_from (P := Tryz.prog) 115 143 .i64 Tryz.underlying115 hi037 4 hsz37 Ao32 t107.length co32 (ji10) q037 q37
  have hr37 := Kd.F_cut (m := ((ji10) : Int).toNat) (c := co32) hC37 (by omega) hroom37
  obtain ⟨A37, hA37⟩ : ∃ A1, A1 = (if co32 = ((ji10) : Int).toNat then Ao32 else (Ao32 : Option Addr).map (·.add (((ji10) : Int).toNat * 4))) := ⟨_, rfl⟩
  obtain ⟨c37, hc37⟩ : ∃ c1, c1 = co32 - ((ji10) : Int).toNat := ⟨_, rfl⟩
  have hy37 : y125.length = t107.length - ((ji10) : Int).toNat := (by rw [Ny125.out, List.length_drop] <;> omega)
  rw [show (t107).drop ((ji10) : Int).toNat = y125 from Ny125.out.symm] at hr37
  replace hr37 : Kd.F k143 _ _ A37 y125.length y125 := (by rw [hA37]; exact hr37)
  rw [← hy37, ← hA37, ← hc37] at hcut37
  have HO129 := Aside0.mk (show Kd.V k143 143 _ w.heap.size _ (.slice A37 y125.length c37) y125 from Kd.V_mk (by rw [hy37, hc37]; exact Nat.sub_le_sub_right hroom37 _) hr37)
  have HC129 := Aside0.mk (show y125.length ≤ c37 from by rw [hy37, hc37]; exact Nat.sub_le_sub_right hroom37 _)
  clear hr37 hC37 hroom37 hi037 hsz37 hc37
  have KY37 := Aside0.mk hy37
  have KA37 := Aside0.mk hA37
  clear hy37 hA37
  replace q37 := eq_true q37
  refine start_ (n := 14) (S := fun w' => w'.cell? ⟨gb113, 0, none⟩ = some (.int .i64 t104) ∧ w'.cell? ⟨gb113, 1, none⟩ = some (.string t105) ∧ w'.cell? ⟨gb113, 2, none⟩ = some (.string t106) ∧ w'.cell? ⟨gb113, 3, none⟩ = some (.slice Ao32 t107.length co32) ∧ w'.cell? ⟨gb113, 4, none⟩ = some (.slice Ao33 t110.length co33)) (ds := [13]) #[false, false, false, false, false, false, false, false, false, false, false, false, false, false] (by kernel_rfl) rfl rfl ⟨(blk_cell BK113.out 0).trans rfl, (blk_cell BK113.out 1).trans rfl, (blk_cell BK113.out 2).trans rfl, (blk_cell BK113.out 3).trans rfl, (blk_cell BK113.out 4).trans rfl⟩ (fun hHeld => ?_); refine with_tabW spec_l5Done.tab2 spec_l5Done.bits2 (fun HT_ HW_ => ?_)
  generalize w34.drew = w35 at HO0_1 HL103_3 HL103_4 HO109 HO112 BK101 BK102 BK113 HB HO121 HO129 hHeld ⊢
  refine pu 1 16 ?_
  refine pu 3 18 ?_
  refine pu 6 21 ?_
  refine pu 8 23 ?_
  refine pu 9 24 ?_
  refine ta 2 17 ?_
  refine pu 4 19 ?_
  refine ta 7 22 ?_
  refine pu 10 25 ?_
  refine on 0 (some 15) (fun K hK => ?_)
  refine rL k143 143 15 Ny114 (fun v115 w38 ho39 hb => ?_)
  replace HO0_1 := Aside0.mk (Kd.V_elder' (vO HO0_1) (Kd.R_base ho39) hb)
  replace HL103_3 := Aside0.mk (Kd.V_elder' (vO HL103_3) (Kd.R_base ho39) hb)
  replace HL103_4 := Aside0.mk (Kd.V_elder' (vO HL103_4) (Kd.R_base ho39) hb)
  replace HO112 := rS HO112 hb
  replace HO121 := Aside0.mk (Kd.V_elder' (vO HO121) (Kd.R_base ho39) hb)
  replace HO129 := Aside0.mk (Kd.V_elder' (vO HO129) (Kd.R_base ho39) hb)
  have HO116 := Aside0.mk (Kd.R_lower (Kd.R_new' (Kd.R_newM (M := fun k_ => (w.heap.size ≤ k_)) ho39 (bZ) (fun k_ h_ => h_)) (Kd.R_lt (rO HO109))) (bZ))
  replace HO109 := Aside0.mk (Kd.R_elder' (rO HO109) (Kd.R_base ho39) hb)
  replace BK101 := kS BK101 hb
  replace BK102 := kS BK102 hb
  replace BK113 := kS BK113 hb
  replace HB := bS hb
  clear hb ho39
  refine kO 15 hK (fun hHeld => ?_)
  clear hK K
  refine on 5 (some 20) (fun K hK => ?_)
  refine Kd.R_append_rows_step k143 (w0 := w) w.heap.size (by rfl) (.tmp 15) (.tmp 19) 115 143 (.agg #[(.string ⟨#[]⟩), (.string ⟨#[]⟩), (.int .i64 0), (.int .i64 0)]) 48 rfl Tryz.underlying115 info143 rfl z0_ (by omega) v115 y114 y117 _ _ _ (fun k_ => (w.heap.size ≤ k_) ∧ some k_ ≠ (.slice Ao32 t107.length co32 : Value).ownBlock) (fun _ => False) rfl rfl ?aO ?aR (fun _ _ h => h) (fun _ h => h.elim) ?aF ?aB ?aS ?aL ?_
  (case aR => repeat (first | exact (Kd.V_reads' HO121.out).2.2 | (with_reducible refine Kd.C_alloc ?_ _) | (with_reducible refine Kd.C_drewN ?_ _) | (with_reducible refine Kd.C_drew ?_)))
  (case aB => exact zB)
  (case aF => exact (fun k_ hk => ⟨(Nat.le_trans (bZ) hk), Kd.fresh' (Kd.R_lt (rO HO109)) k_ hk⟩))
  (case aO => exact (by (with_reducible repeat (first | apply Kd.R_alloc | apply Kd.R_drewN | apply Kd.R_drew)); exact Kd.R_mono HO116.out (fun _ hk => ⟨hk.1.1, hk.2⟩)))
  (case aS => exact (bZ))
  (case aL => have := LMc9.out; omega)
  intro v123 w40 ho hb hg hat
  rw [← Ny122.out] at ho
  replace HO0_1 := Aside0.mk (Kd.V_afterv (ok := (fun k_ => (P0_1_ k_ ∨ w.heap.size ≤ k_) ∧ some k_ ≠ (.slice Ao32 t107.length co32 : Value).ownBlock ∧ some k_ ≠ (.slice Ao33 t110.length co33 : Value).ownBlock ∧ k_ ≠ gb101 ∧ k_ ≠ gb102 ∧ k_ ≠ gb113)) (vO HO0_1) hg hat)
  replace BK101 := bG BK101 HO116 hg
  replace BK102 := bG BK102 HO116 hg
  replace HL103_3 := Aside0.mk (Kd.V_afterv (ok := (fun k_ => (P0_1_ k_ ∨ w.heap.size ≤ k_) ∧ some k_ ≠ (.slice Ao32 t107.length co32 : Value).ownBlock ∧ some k_ ≠ (.slice Ao33 t110.length co33 : Value).ownBlock ∧ k_ ≠ gb101 ∧ k_ ≠ gb102 ∧ k_ ≠ gb113)) (vO HL103_3) hg hat)
  replace HL103_4 := Aside0.mk (Kd.V_afterv (ok := (fun k_ => (P0_1_ k_ ∨ w.heap.size ≤ k_) ∧ some k_ ≠ (.slice Ao32 t107.length co32 : Value).ownBlock ∧ some k_ ≠ (.slice Ao33 t110.length co33 : Value).ownBlock ∧ k_ ≠ gb101 ∧ k_ ≠ gb102 ∧ k_ ≠ gb113)) (vO HL103_4) hg hat)
  replace HO109 := Aside0.mk (Kd.R_after (ok := (fun k_ => (w.heap.size ≤ k_))) (rO HO109) hg hat)
  replace HO112 := Aside0.mk (Kd.R_over' (rO HO112) (Kd.R_typed (rO HO116)) z0_ hg)
  replace BK113 := bG BK113 HO116 hg
  replace HO121 := Aside0.mk (Kd.V_afterv (ok := (fun k_ => (P0_1_ k_ ∨ w.heap.size ≤ k_) ∧ some k_ ≠ (.slice Ao33 t110.length co33 : Value).ownBlock ∧ k_ ≠ gb101 ∧ k_ ≠ gb102 ∧ k_ ≠ gb113)) (fV HO121) hg hat)
  replace HO129 := Aside0.mk (Kd.V_afterv (ok := (fun k_ => (P0_1_ k_ ∨ w.heap.size ≤ k_) ∧ some k_ ≠ (.slice Ao33 t110.length co33 : Value).ownBlock ∧ k_ ≠ gb101 ∧ k_ ≠ gb102 ∧ k_ ≠ gb113)) (fV HO129) hg hat)
  replace HB := Aside0.mk (hb)
  have HO124 := Aside0.mk (ho)
  clear HO116 ho hb hg hat
  refine kO 20 hK (fun hHeld => ?_)
  clear hK K
  refine on 11 (some 26) (fun K hK => ?_)
  refine Kd.R_append_rows_step k143 (w0 := w) w.heap.size (by rfl) (.tmp 20) (.tmp 25) 115 143 (.agg #[(.string ⟨#[]⟩), (.string ⟨#[]⟩), (.int .i64 0), (.int .i64 0)]) 48 rfl Tryz.underlying115 info143 rfl z0_ (by omega) v123 y122 y125 _ _ _ (fun k_ => (w.heap.size ≤ k_) ∧ some k_ ≠ (.slice Ao32 t107.length co32 : Value).ownBlock) (fun _ => False) rfl rfl ?aO ?aR (fun _ _ h => h) (fun _ h => h.elim) ?aF ?aB ?aS ?aL ?_
  (case aR => repeat (first | exact (Kd.V_reads' HO129.out).2.2 | (with_reducible refine Kd.C_alloc ?_ _) | (with_reducible refine Kd.C_drewN ?_ _) | (with_reducible refine Kd.C_drew ?_)))
  (case aB => exact zB)
  (case aF => exact (fun k_ hk => ⟨(Nat.le_trans (bZ) hk), Kd.fresh' (Kd.R_lt (rO HO109)) k_ hk⟩))
  (case aO => exact (rO HO124))
  (case aS => exact (bZ))
  (case aL => have := LMc13.out; omega)
  intro v131 w41 ho hb hg hat
  rw [← Ny130.out] at ho
  replace HO0_1 := Aside0.mk (Kd.V_afterv (ok := (fun k_ => (P0_1_ k_ ∨ w.heap.size ≤ k_) ∧ some k_ ≠ (.slice Ao32 t107.length co32 : Value).ownBlock ∧ some k_ ≠ (.slice Ao33 t110.length co33 : Value).ownBlock ∧ k_ ≠ gb101 ∧ k_ ≠ gb102 ∧ k_ ≠ gb113)) (vO HO0_1) hg hat)
  replace BK101 := bG BK101 HO124 hg
  replace BK102 := bG BK102 HO124 hg
  replace HL103_3 := Aside0.mk (Kd.V_afterv (ok := (fun k_ => (P0_1_ k_ ∨ w.heap.size ≤ k_) ∧ some k_ ≠ (.slice Ao32 t107.length co32 : Value).ownBlock ∧ some k_ ≠ (.slice Ao33 t110.length co33 : Value).ownBlock ∧ k_ ≠ gb101 ∧ k_ ≠ gb102 ∧ k_ ≠ gb113)) (vO HL103_3) hg hat)
  replace HL103_4 := Aside0.mk (Kd.V_afterv (ok := (fun k_ => (P0_1_ k_ ∨ w.heap.size ≤ k_) ∧ some k_ ≠ (.slice Ao32 t107.length co32 : Value).ownBlock ∧ some k_ ≠ (.slice Ao33 t110.length co33 : Value).ownBlock ∧ k_ ≠ gb101 ∧ k_ ≠ gb102 ∧ k_ ≠ gb113)) (vO HL103_4) hg hat)
  replace HO109 := Aside0.mk (Kd.R_after (ok := (fun k_ => (w.heap.size ≤ k_))) (rO HO109) hg hat)
  replace HO112 := Aside0.mk (Kd.R_over' (rO HO112) (Kd.R_typed (rO HO124)) z0_ hg)
  replace BK113 := bG BK113 HO124 hg
  replace HO121 := Aside0.mk (Kd.V_afterv (ok := (fun k_ => (P0_1_ k_ ∨ w.heap.size ≤ k_) ∧ some k_ ≠ (.slice Ao33 t110.length co33 : Value).ownBlock ∧ k_ ≠ gb101 ∧ k_ ≠ gb102 ∧ k_ ≠ gb113)) (vO HO121) hg hat)
  replace HO129 := Aside0.mk (Kd.V_afterv (ok := (fun k_ => (P0_1_ k_ ∨ w.heap.size ≤ k_) ∧ some k_ ≠ (.slice Ao33 t110.length co33 : Value).ownBlock ∧ k_ ≠ gb101 ∧ k_ ≠ gb102 ∧ k_ ≠ gb113)) (vO HO129) hg hat)
  replace HB := Aside0.mk (hb)
  have HO132 := Aside0.mk (ho)
  clear HO124 ho hb hg hat
  obtain ⟨Ao42, co42, eo42⟩ := Kd.R_slice HO132.out
  (first | subst eo42 | (injection eo42 with f1_ f2_ f3_; have f4_ := f1_.symm; have f5_ := f3_.symm; clear f1_ f2_ f3_; subst f4_; subst f5_))
  refine kO 26 hK (fun hHeld => ?_)
  clear hK K
  refine pu 12 27 ?_
  refine last_ (i := 13) (N := none) #[true, true, true, true, true, true, true, true, true, true, true, true, true, true] rfl rfl (one_of HT_.out (by kernel_rfl)) z0_ (fun K hK => ?_)
  have hs43 : w41.cell? ⟨gb113, 3, none⟩ = some (.slice Ao32 t107.length co32) := (blk_cell BK113.out 3).trans rfl
  have hfs43 := blk_frozen BK113.out 3
  have hns43_0 := NB101_113.out
  have hns43_1 := NB102_113.out
  have hms43_0 := NB113_101.out
  have hms43_1 := NB113_102.out
  refine sk ?_
  refine hK.out _ _ ?_
  clear hK K
  refine done_ (done_of HT_.out (by kernel_rfl)) ?_
  have n0_ := sV ⟨gb113, 3, none⟩ (.slice Ao42 y130.length co42) HO0_1
  have n1_ := sV ⟨gb113, 3, none⟩ (.slice Ao42 y130.length co42) HL103_3
  have n2_ := sV ⟨gb113, 3, none⟩ (.slice Ao42 y130.length co42) HL103_4
  have n3_ := sV ⟨gb113, 3, none⟩ (.slice Ao42 y130.length co42) HO121
  have n4_ := sV ⟨gb113, 3, none⟩ (.slice Ao42 y130.length co42) HO129
  have n5_ := sR ⟨gb113, 3, none⟩ (.slice Ao42 y130.length co42) HO109 BK113
  have n6_ := sR ⟨gb113, 3, none⟩ (.slice Ao42 y130.length co42) HO112 BK113
  have n7_ := sR ⟨gb113, 3, none⟩ (.slice Ao42 y130.length co42) HO132 BK113
  have n8_ := sB ⟨gb113, 3, none⟩ (.slice Ao42 y130.length co42) BK101
  have n9_ := sB ⟨gb113, 3, none⟩ (.slice Ao42 y130.length co42) BK102
  have n10_ : Aside0 ((w41.setCell ⟨gb113, 3, none⟩ (.slice Ao42 y130.length co42)).heap[gb113]? = some (.cells #[.int .i64 t104, .string t105, .string t106, .slice Ao42 y130.length co42, .slice Ao33 t110.length co33] 117 (0, 0))) := ⟨kQ BK113⟩
  have n11_ := Aside0.mk (below_set (j := 3) (v := .slice Ao42 y130.length co42) HB.out GE113.out)
  clear HO0_1 HL103_3 HL103_4 HO121 HO129 HO109 HO112 HO132 BK101 BK102 BK113 HB
  generalize w41.setCell ⟨gb113, 3, none⟩ (.slice Ao42 y130.length co42) = w41 at n0_ n1_ n2_ n3_ n4_ n5_ n6_ n7_ n8_ n9_ n10_ n11_ ⊢
  have HO0_1 := n0_
  have HL103_3 := n1_
  have HL103_4 := n2_
  have HO121 := n3_
  have HO129 := n4_
  have HO109 := n5_
  have HO112 := n6_
  have HO132 := n7_
  have BK101 := n8_
  have BK102 := n9_
  have BK113 := n10_
  have HB := n11_
  clear n0_ n1_ n2_ n3_ n4_ n5_ n6_ n7_ n8_ n9_ n10_ n11_
  try go_wp2_with (first | ((with_reducible refine gate_dst (N := 28) rfl ?_); refine Kd.N_lit k117 _ 117 ?hg (N' := 28) ?hd (xs := ([] : List (S117))) (inner := []) (ok := (fun k_ => (P0_1_ k_ ∨ w.heap.size ≤ k_) ∧ some k_ ≠ (.slice Ao32 t107.length co32 : Value).ownBlock ∧ some k_ ≠ (.slice Ao33 t110.length co33 : Value).ownBlock ∧ some k_ ≠ (.slice Ao42 y130.length co42 : Value).ownBlock ∧ k_ ≠ gb101 ∧ k_ ≠ gb102 ∧ k_ ≠ gb113)) (okp := (fun k_ => (P0_1_ k_ ∨ w.heap.size ≤ k_) ∧ some k_ ≠ (.slice Ao32 t107.length co32 : Value).ownBlock ∧ some k_ ≠ (.slice Ao33 t110.length co33 : Value).ownBlock ∧ some k_ ≠ (.slice Ao42 y130.length co42 : Value).ownBlock ∧ k_ ≠ gb101 ∧ k_ ≠ gb102 ∧ k_ ≠ gb113)) ?hr ?hp (fun _ hk => hk) ((show ∀ k_, w41.heap.size ≤ k_ → (fun k_ => (P0_1_ k_ ∨ w.heap.size ≤ k_) ∧ some k_ ≠ (.slice Ao32 t107.length co32 : Value).ownBlock ∧ some k_ ≠ (.slice Ao33 t110.length co33 : Value).ownBlock ∧ some k_ ≠ (.slice Ao42 y130.length co42 : Value).ownBlock ∧ k_ ≠ gb101 ∧ k_ ≠ gb102 ∧ k_ ≠ gb113) k_ from fun k_ hk => ⟨(.inr (Nat.le_trans (bZ) hk)), Kd.fresh' (Kd.R_lt (fO HO109 BK113)) k_ hk, Kd.fresh' (Kd.R_lt (fO HO112 BK113)) k_ hk, Kd.fresh' (Kd.R_lt (fO HO132 BK113)) k_ hk, (kG BK101) k_ hk, (kG BK102) k_ hk, (kG BK113) k_ hk⟩) _ (Nat.le_refl _)) (Below.refl _ _) (Nat.le_refl _) (by simp) ?_; (case hd => rfl); (case hg => rfl); (case hr => first | (go_simp; done) | (go_simp; rfl)); (case hp => exact (Reps.none _ _)); intro v134 w44 ho45 hb hg_ hnew_; clear hg_ hnew_; (first | rw [← Ny133.out] at ho45 | (simp only [Int.reduceToNat] at ho45; rw [← Ny133.out] at ho45)); replace HO0_1 := Aside0.mk (Kd.V_elder' (fV HO0_1) (Kd.N_base ho45) hb); replace HL103_3 := Aside0.mk (Kd.V_elder' (fV HL103_3) (Kd.N_base ho45) hb); replace HL103_4 := Aside0.mk (Kd.V_elder' (fV HL103_4) (Kd.N_base ho45) hb); replace HO109 := fS HO109 BK113 hb; replace HO112 := fS HO112 BK113 hb; replace HO121 := Aside0.mk (Kd.V_elder' (fV HO121) (Kd.N_base ho45) hb); replace HO129 := Aside0.mk (Kd.V_elder' (fV HO129) (Kd.N_base ho45) hb); replace HO132 := fS HO132 BK113 hb; have HO135 := Aside0.mk (Kd.N_lower ho45 (bZ)); replace BK101 := kS BK101 hb; replace BK102 := kS BK102 hb; replace BK113 := kP (.cells #[.int .i64 t104, .string t105, .string t106, .slice Ao42 y130.length co42, .slice Ao33 t110.length co33] 117 (0, 0)) BK113 hb; replace HB := bS hb; clear hb ho45; have hcz46 := cz2 BK101.out; have hfz46 := fz2 BK101.out; have q47 : (a1 : Int) ≤ ((l0_1.length : Int) : Int) := of_decide_eq_true za; obtain ⟨i047, hi047, _, hsz47, _⟩ := info_parts info117; have hroom47 : l0_1.length ≤ c0_1 := (Kd.V_reads' HO0_1.out).2.1; have hC47 : Kd.F k117 _ _ (some ad103) l0_1.length l0_1 := (Kd.V_at (base := w.heap.size) HO0_1.out).2.2; have hcut47 := cut_to (P := Tryz.prog) 78 117 .i64 Tryz.underlying78 hi047 (some ad103) l0_1.length c0_1 a1 (of_decide_eq_true za) q47 hroom47; have hr47 := Kd.F_take (m := (a1 : Int).toNat) hC47 (by omega); have hy47 : y136.length = (a1 : Int).toNat := (by rw [Ny136.out, List.length_take]; omega); rw [← Ny136.out] at hr47; rw [← hy47] at hcut47; have HO140 := Aside0.mk (show Kd.V k117 117 _ w.heap.size _ (.slice (some ad103) y136.length c0_1) y136 from Kd.V_mk (by omega) hr47); have HC140 := Aside0.mk (show y136.length ≤ c0_1 from by omega); clear hr47 hC47 hroom47 hi047 hsz47; have KY47 := Aside0.mk hy47; clear hy47; replace q47 := eq_true q47) | ((with_reducible refine gate_builtin (b := .append) (xs := #[.tmp 28, .tmp 32]) rfl ?_); at_builtin; refine Kd.N_append_rows k117 (w0 := w) w.heap.size rfl (.tmp 28) (.tmp 32) 78 117 (.agg #[(.int .i64 0), (.string ⟨#[]⟩), (.string ⟨#[]⟩), (.slice none 0 0), (.slice none 0 0)]) 88 rfl Tryz.underlying78 info117 rfl z0_ (by omega) v134 y133 y136 _ _ _ (fun k_ => (P0_1_ k_ ∨ w.heap.size ≤ k_) ∧ some k_ ≠ (.slice Ao32 t107.length co32 : Value).ownBlock ∧ some k_ ≠ (.slice Ao33 t110.length co33 : Value).ownBlock ∧ some k_ ≠ (.slice Ao42 y130.length co42 : Value).ownBlock ∧ k_ ≠ gb101 ∧ k_ ≠ gb102 ∧ k_ ≠ gb113) (fun k_ => ((fun k_ => (P0_1_ k_ ∨ w.heap.size ≤ k_) ∧ some k_ ≠ (.slice Ao32 t107.length co32 : Value).ownBlock ∧ some k_ ≠ (.slice Ao33 t110.length co33 : Value).ownBlock ∧ some k_ ≠ (.slice Ao42 y130.length co42 : Value).ownBlock ∧ k_ ≠ gb101 ∧ k_ ≠ gb102 ∧ k_ ≠ gb113)) k_ ∧ some k_ ≠ (v134 : Value).ownBlock) rfl rfl ?aO ?aR (fun _ hk => hk) ?aF ?aB ?aS ?aL ?_; (case aR => exact (by skip; exact Kd.V_F (Kd.V_mono (ok' := (fun k_ => ((fun k_ => (P0_1_ k_ ∨ w.heap.size ≤ k_) ∧ some k_ ≠ (.slice Ao32 t107.length co32 : Value).ownBlock ∧ some k_ ≠ (.slice Ao33 t110.length co33 : Value).ownBlock ∧ some k_ ≠ (.slice Ao42 y130.length co42 : Value).ownBlock ∧ k_ ≠ gb101 ∧ k_ ≠ gb102 ∧ k_ ≠ gb113)) k_ ∧ some k_ ≠ (v134 : Value).ownBlock)) (HO140.out) (fun k_ hk => ⟨⟨hk.1.1.1, ⟨hk.1.1.2.1, ⟨hk.1.1.2.2.1, ⟨hk.1.2, ⟨hk.1.1.2.2.2.1, ⟨hk.1.1.2.2.2.2.1, hk.1.1.2.2.2.2.2⟩⟩⟩⟩⟩⟩, hk.2⟩)))); (case aB => exact zB); (case aF => exact (fun k_ hk => ⟨(.inr (Nat.le_trans (bZ) hk)), Kd.fresh' (Kd.R_lt (rO HO109)) k_ hk, Kd.fresh' (Kd.R_lt (rO HO112)) k_ hk, Kd.fresh' (Kd.R_lt (rO HO132)) k_ hk, (kG BK101) k_ hk, (kG BK102) k_ hk, (kG BK113) k_ hk⟩)); (case aO => exact (nO HO135)); (case aS => exact (bZ)); (case aL => have := LMc16.out; omega); intro v142 w48 ho hb hg hat; rw [← Ny141.out] at ho; have n0_ := Aside0.mk (Kd.V_afterv (ok := (fun k_ => (P0_1_ k_ ∨ w.heap.size ≤ k_) ∧ some k_ ≠ (.slice Ao32 t107.length co32 : Value).ownBlock ∧ some k_ ≠ (.slice Ao33 t110.length co33 : Value).ownBlock ∧ some k_ ≠ (.slice Ao42 y130.length co42 : Value).ownBlock ∧ k_ ≠ gb101 ∧ k_ ≠ gb102 ∧ k_ ≠ gb113)) (fV HO0_1) hg hat); have n1_ := bN BK101 HO135 hg; have n2_ := bN BK102 HO135 hg; have n3_ := Aside0.mk (Kd.V_afterv (ok := (fun k_ => (P0_1_ k_ ∨ w.heap.size ≤ k_) ∧ some k_ ≠ (.slice Ao32 t107.length co32 : Value).ownBlock ∧ some k_ ≠ (.slice Ao33 t110.length co33 : Value).ownBlock ∧ some k_ ≠ (.slice Ao42 y130.length co42 : Value).ownBlock ∧ k_ ≠ gb101 ∧ k_ ≠ gb102 ∧ k_ ≠ gb113)) (fV HL103_3) hg hat); have n4_ := Aside0.mk (Kd.V_afterv (ok := (fun k_ => (P0_1_ k_ ∨ w.heap.size ≤ k_) ∧ some k_ ≠ (.slice Ao32 t107.length co32 : Value).ownBlock ∧ some k_ ≠ (.slice Ao33 t110.length co33 : Value).ownBlock ∧ some k_ ≠ (.slice Ao42 y130.length co42 : Value).ownBlock ∧ k_ ≠ gb101 ∧ k_ ≠ gb102 ∧ k_ ≠ gb113)) (fV HL103_4) hg hat); have n5_ := Aside0.mk (Kd.R_over' (rO HO109) (Kd.N_typed (nO HO135)) z0_ hg); have n6_ := Aside0.mk (Kd.R_over' (rO HO112) (Kd.N_typed (nO HO135)) z0_ hg); have n7_ := Aside0.mk (blk_grown (g := gb113) (o := .cells #[.int .i64 t104, .string t105, .string t106, .slice Ao42 y130.length co42, .slice Ao33 t110.length co33] 117 (0, 0)) (kQ BK113) hg (Kd.N_away HO135.out (fun _ hk => hk.2.2.2.2.2.2))); have n8_ := Aside0.mk (Kd.V_afterv (ok := (fun k_ => (P0_1_ k_ ∨ w.heap.size ≤ k_) ∧ some k_ ≠ (.slice Ao33 t110.length co33 : Value).ownBlock ∧ some k_ ≠ (.slice Ao42 y130.length co42 : Value).ownBlock ∧ k_ ≠ gb101 ∧ k_ ≠ gb102 ∧ k_ ≠ gb113)) (fV HO121) hg hat); have n9_ := Aside0.mk (Kd.V_afterv (ok := (fun k_ => (P0_1_ k_ ∨ w.heap.size ≤ k_) ∧ some k_ ≠ (.slice Ao33 t110.length co33 : Value).ownBlock ∧ some k_ ≠ (.slice Ao42 y130.length co42 : Value).ownBlock ∧ k_ ≠ gb101 ∧ k_ ≠ gb102 ∧ k_ ≠ gb113)) (fV HO129) hg hat); have n10_ := Aside0.mk (Kd.R_over' (rO HO132) (Kd.N_typed (nO HO135)) z0_ hg); have n11_ := Aside0.mk (Kd.V_afterv (ok := (fun k_ => (P0_1_ k_ ∨ w.heap.size ≤ k_) ∧ some k_ ≠ (.slice Ao32 t107.length co32 : Value).ownBlock ∧ some k_ ≠ (.slice Ao33 t110.length co33 : Value).ownBlock ∧ some k_ ≠ (.slice Ao42 y130.length co42 : Value).ownBlock ∧ k_ ≠ gb101 ∧ k_ ≠ gb102 ∧ k_ ≠ gb113)) (fV HO140) hg hat); have n12_ := Aside0.mk (hb); have n13_ := Aside0.mk (ho); clear HO0_1 BK101 BK102 HL103_3 HL103_4 HO109 HO112 BK113 HO121 HO129 HO132 HO140 HB HO135; have HO0_1 := n0_; have BK101 := n1_; have BK102 := n2_; have HL103_3 := n3_; have HL103_4 := n4_; have HO109 := n5_; have HO112 := n6_; have BK113 := n7_; have HO121 := n8_; have HO129 := n9_; have HO132 := n10_; have HO140 := n11_; have HB := n12_; have HO143 := n13_; clear n0_ n1_ n2_ n3_ n4_ n5_ n6_ n7_ n8_ n9_ n10_ n11_ n12_ n13_ ho hb hg hat; have hcz49 := cz5 BK113.out; have hfz49 := fz5 BK113.out) | ((with_reducible refine gate_builtin (b := .append) (xs := #[.tmp 38, .tmp 40]) rfl ?_); at_builtin; refine Kd.N_append k117 (w0 := w) w.heap.size rfl (.tmp 38) (.tmp 40) 78 117 (.agg #[(.int .i64 0), (.string ⟨#[]⟩), (.string ⟨#[]⟩), (.slice none 0 0), (.slice none 0 0)]) 88 rfl Tryz.underlying78 info117 rfl z0_ (by omega) v142 y141 (⟨t104, (⟨t105, t106⟩ : S32), y130, t110⟩ : S117) [.int .i64 t104, .string t105, .string t106, .slice Ao42 y130.length co42, .slice Ao33 t110.length co33] (fun k_ => (P0_1_ k_ ∨ w.heap.size ≤ k_) ∧ some k_ ≠ (.slice Ao32 t107.length co32 : Value).ownBlock ∧ k_ ≠ gb101 ∧ k_ ≠ gb102 ∧ k_ ≠ gb113) (fun k_ => ((fun k_ => (P0_1_ k_ ∨ w.heap.size ≤ k_) ∧ some k_ ≠ (.slice Ao32 t107.length co32 : Value).ownBlock ∧ k_ ≠ gb101 ∧ k_ ≠ gb102 ∧ k_ ≠ gb113)) k_ ∧ some k_ ≠ (v142 : Value).ownBlock) rfl rfl ?aP (fun _ hk => hk) ?aF ?aO ?aB ?aS ?aL ?_; (case aP => exact (k117_mkF _ _ (⟨t104, (⟨t105, t106⟩ : S32), y130, t110⟩ : S117) (Kd.R_reads' (Kd.R_mono (ok' := (fun k_ => ((fun k_ => (P0_1_ k_ ∨ w.heap.size ≤ k_) ∧ some k_ ≠ (.slice Ao32 t107.length co32 : Value).ownBlock ∧ k_ ≠ gb101 ∧ k_ ≠ gb102 ∧ k_ ≠ gb113)) k_ ∧ some k_ ≠ (v142 : Value).ownBlock)) (Kd.R_types (Kd.R_types (Kd.R_types (Kd.R_apart' (HO132.out) (Kd.N_typed HO143.out) z0_) BK101.out z0_) BK102.out z0_) BK113.out z0_) (fun k_ hk => ⟨⟨(.inr (hk.1.1.1.1.1)), ⟨hk.1.1.1.1.2, ⟨hk.1.1.2, ⟨hk.1.2, hk.2⟩⟩⟩⟩, hk.1.1.1.2⟩))).2.1 (Kd.R_F (Kd.R_mono (ok' := (fun k_ => ((fun k_ => (P0_1_ k_ ∨ w.heap.size ≤ k_) ∧ some k_ ≠ (.slice Ao32 t107.length co32 : Value).ownBlock ∧ k_ ≠ gb101 ∧ k_ ≠ gb102 ∧ k_ ≠ gb113)) k_ ∧ some k_ ≠ (v142 : Value).ownBlock)) (Kd.R_types (Kd.R_types (Kd.R_types (Kd.R_apart' (HO132.out) (Kd.N_typed HO143.out) z0_) BK101.out z0_) BK102.out z0_) BK113.out z0_) (fun k_ hk => ⟨⟨(.inr (hk.1.1.1.1.1)), ⟨hk.1.1.1.1.2, ⟨hk.1.1.2, ⟨hk.1.2, hk.2⟩⟩⟩⟩, hk.1.1.1.2⟩))) (Kd.R_reads' (Kd.R_mono (ok' := (fun k_ => ((fun k_ => (P0_1_ k_ ∨ w.heap.size ≤ k_) ∧ some k_ ≠ (.slice Ao32 t107.length co32 : Value).ownBlock ∧ k_ ≠ gb101 ∧ k_ ≠ gb102 ∧ k_ ≠ gb113)) k_ ∧ some k_ ≠ (v142 : Value).ownBlock)) (Kd.R_types (Kd.R_types (Kd.R_types (Kd.R_apart' (Kd.R_apart' (HO112.out) (Kd.R_typed HO109.out) z0_) (Kd.N_typed HO143.out) z0_) BK101.out z0_) BK102.out z0_) BK113.out z0_) (fun k_ hk => ⟨⟨(.inr (hk.1.1.1.1.1)), ⟨hk.1.1.1.1.2, ⟨hk.1.1.2, ⟨hk.1.2, hk.2⟩⟩⟩⟩, hk.1.1.1.2⟩))).2.1 (Kd.R_F (Kd.R_mono (ok' := (fun k_ => ((fun k_ => (P0_1_ k_ ∨ w.heap.size ≤ k_) ∧ some k_ ≠ (.slice Ao32 t107.length co32 : Value).ownBlock ∧ k_ ≠ gb101 ∧ k_ ≠ gb102 ∧ k_ ≠ gb113)) k_ ∧ some k_ ≠ (v142 : Value).ownBlock)) (Kd.R_types (Kd.R_types (Kd.R_types (Kd.R_apart' (Kd.R_apart' (HO112.out) (Kd.R_typed HO109.out) z0_) (Kd.N_typed HO143.out) z0_) BK101.out z0_) BK102.out z0_) BK113.out z0_) (fun k_ hk => ⟨⟨(.inr (hk.1.1.1.1.1)), ⟨hk.1.1.1.1.2, ⟨hk.1.1.2, ⟨hk.1.2, hk.2⟩⟩⟩⟩, hk.1.1.1.2⟩))))); (case aB => exact zB); (case aF => exact (fun k_ hk => ⟨(.inr (Nat.le_trans (bZ) hk)), Kd.fresh' (Kd.R_lt (rO HO109)) k_ hk, (kG BK101) k_ hk, (kG BK102) k_ hk, (kG BK113) k_ hk⟩)); (case aO => exact (fN HO143)); (case aS => exact (bZ)); (case aL => have := LMc18.out; omega); intro v145 w50 ho hb hg hat; rw [← Ny144.out] at ho; have n0_ := Aside0.mk (Kd.V_afterv (ok := (fun k_ => (P0_1_ k_ ∨ w.heap.size ≤ k_) ∧ some k_ ≠ (.slice Ao32 t107.length co32 : Value).ownBlock ∧ some k_ ≠ (.slice Ao33 t110.length co33 : Value).ownBlock ∧ some k_ ≠ (.slice Ao42 y130.length co42 : Value).ownBlock ∧ k_ ≠ gb101 ∧ k_ ≠ gb102 ∧ k_ ≠ gb113)) (vO HO0_1) hg hat); have n1_ := bN BK101 HO143 hg; have n2_ := bN BK102 HO143 hg; have n3_ := Aside0.mk (Kd.V_afterv (ok := (fun k_ => (P0_1_ k_ ∨ w.heap.size ≤ k_) ∧ some k_ ≠ (.slice Ao32 t107.length co32 : Value).ownBlock ∧ some k_ ≠ (.slice Ao33 t110.length co33 : Value).ownBlock ∧ some k_ ≠ (.slice Ao42 y130.length co42 : Value).ownBlock ∧ k_ ≠ gb101 ∧ k_ ≠ gb102 ∧ k_ ≠ gb113)) (vO HL103_3) hg hat); have n4_ := Aside0.mk (Kd.V_afterv (ok := (fun k_ => (P0_1_ k_ ∨ w.heap.size ≤ k_) ∧ some k_ ≠ (.slice Ao32 t107.length co32 : Value).ownBlock ∧ some k_ ≠ (.slice Ao33 t110.length co33 : Value).ownBlock ∧ some k_ ≠ (.slice Ao42 y130.length co42 : Value).ownBlock ∧ k_ ≠ gb101 ∧ k_ ≠ gb102 ∧ k_ ≠ gb113)) (vO HL103_4) hg hat); have n5_ := Aside0.mk (Kd.R_over' (rO HO109) (Kd.N_typed (nO HO143)) z0_ hg); have n6_ := Aside0.mk (blk_grown (g := gb113) (o := .cells #[.int .i64 t104, .string t105, .string t106, .slice Ao42 y130.length co42, .slice Ao33 t110.length co33] 117 (0, 0)) (kQ BK113) hg (Kd.N_away HO143.out (fun _ hk => hk.2.2.2.2.2.2))); have n7_ := Aside0.mk (Kd.V_afterv (ok := (fun k_ => (P0_1_ k_ ∨ w.heap.size ≤ k_) ∧ some k_ ≠ (.slice Ao33 t110.length co33 : Value).ownBlock ∧ some k_ ≠ (.slice Ao42 y130.length co42 : Value).ownBlock ∧ k_ ≠ gb101 ∧ k_ ≠ gb102 ∧ k_ ≠ gb113)) (vO HO121) hg hat); have n8_ := Aside0.mk (Kd.V_afterv (ok := (fun k_ => (P0_1_ k_ ∨ w.heap.size ≤ k_) ∧ some k_ ≠ (.slice Ao33 t110.length co33 : Value).ownBlock ∧ some k_ ≠ (.slice Ao42 y130.length co42 : Value).ownBlock ∧ k_ ≠ gb101 ∧ k_ ≠ gb102 ∧ k_ ≠ gb113)) (vO HO129) hg hat); have n9_ := Aside0.mk (Kd.V_afterv (ok := (fun k_ => (P0_1_ k_ ∨ w.heap.size ≤ k_) ∧ some k_ ≠ (.slice Ao32 t107.length co32 : Value).ownBlock ∧ some k_ ≠ (.slice Ao33 t110.length co33 : Value).ownBlock ∧ some k_ ≠ (.slice Ao42 y130.length co42 : Value).ownBlock ∧ k_ ≠ gb101 ∧ k_ ≠ gb102 ∧ k_ ≠ gb113)) (vO HO140) hg hat); have n10_ := Aside0.mk (hb); have n11_ := Aside0.mk (ho); clear HO0_1 BK101 BK102 HL103_3 HL103_4 HO109 BK113 HO121 HO129 HO140 HB HO143 HO112 HO132; have HO0_1 := n0_; have BK101 := n1_; have BK102 := n2_; have HL103_3 := n3_; have HL103_4 := n4_; have HO109 := n5_; have BK113 := n6_; have HO121 := n7_; have HO129 := n8_; have HO140 := n9_; have HB := n10_; have HO146 := n11_; clear n0_ n1_ n2_ n3_ n4_ n5_ n6_ n7_ n8_ n9_ n10_ n11_ ho hb hg hat; have hcz51 := cz2 BK101.out; have hfz51 := fz2 BK101.out; have q52 : ((ji19) : Int) ≤ ((l0_1.length : Int) : Int) := of_decide_eq_true za; obtain ⟨i052, hi052, _, hsz52, _⟩ := info_parts info117; have hroom52 : l0_1.length ≤ c0_1 := (Kd.V_reads' HO0_1.out).2.1; have hC52 : Kd.F k117 _ _ (some ad103) l0_1.length l0_1 := (Kd.V_at (base := w.heap.size) HO0_1.out).2.2; have q052 : (0 : Int) ≤ ((ji19) : Int) := of_decide_eq_true za; have hcut52 := cut_from (P := Tryz.prog) 78 117 .i64 Tryz.underlying78 hi052 5 hsz52 (some ad103) l0_1.length c0_1 (ji19) q052 q52; have hr52 := Kd.F_cut (m := ((ji19) : Int).toNat) (c := c0_1) hC52 (by omega) hroom52; obtain ⟨A52, hA52⟩ : ∃ A1, A1 = (if c0_1 = ((ji19) : Int).toNat then (some ad103) else ((some ad103) : Option Addr).map (·.add (((ji19) : Int).toNat * 5))) := ⟨_, rfl⟩; obtain ⟨c52, hc52⟩ : ∃ c1, c1 = c0_1 - ((ji19) : Int).toNat := ⟨_, rfl⟩; have hy52 : y147.length = l0_1.length - ((ji19) : Int).toNat := (by rw [Ny147.out, List.length_drop] <;> omega); rw [show (l0_1).drop ((ji19) : Int).toNat = y147 from Ny147.out.symm] at hr52; replace hr52 : Kd.F k117 _ _ A52 y147.length y147 := (by rw [hA52]; exact hr52); rw [← hy52, ← hA52, ← hc52] at hcut52; have HO151 := Aside0.mk (show Kd.V k117 117 _ w.heap.size _ (.slice A52 y147.length c52) y147 from Kd.V_mk (by rw [hy52, hc52]; exact Nat.sub_le_sub_right hroom52 _) hr52); have HC151 := Aside0.mk (show y147.length ≤ c52 from by rw [hy52, hc52]; exact Nat.sub_le_sub_right hroom52 _); clear hr52 hC52 hroom52 hi052 hsz52 hc52; have KY52 := Aside0.mk hy52; have KA52 := Aside0.mk hA52; clear hy52 hA52; replace q52 := eq_true q52) | ((with_reducible refine gate_builtin (b := .append) (xs := #[.tmp 42, .tmp 47]) rfl ?_); at_builtin; refine Kd.N_append_rows k117 (w0 := w) w.heap.size rfl (.tmp 42) (.tmp 47) 78 117 (.agg #[(.int .i64 0), (.string ⟨#[]⟩), (.string ⟨#[]⟩), (.slice none 0 0), (.slice none 0 0)]) 88 rfl Tryz.underlying78 info117 rfl z0_ (by omega) v145 y144 y147 _ _ _ (fun k_ => (P0_1_ k_ ∨ w.heap.size ≤ k_) ∧ some k_ ≠ (.slice Ao32 t107.length co32 : Value).ownBlock ∧ k_ ≠ gb101 ∧ k_ ≠ gb102 ∧ k_ ≠ gb113) (fun k_ => ((fun k_ => (P0_1_ k_ ∨ w.heap.size ≤ k_) ∧ some k_ ≠ (.slice Ao32 t107.length co32 : Value).ownBlock ∧ k_ ≠ gb101 ∧ k_ ≠ gb102 ∧ k_ ≠ gb113)) k_ ∧ some k_ ≠ (v145 : Value).ownBlock) rfl rfl ?aO ?aR (fun _ hk => hk) ?aF ?aB ?aS ?aL ?_; (case aR => exact (by skip; exact Kd.V_F (Kd.V_mono (ok' := (fun k_ => ((fun k_ => (P0_1_ k_ ∨ w.heap.size ≤ k_) ∧ some k_ ≠ (.slice Ao32 t107.length co32 : Value).ownBlock ∧ k_ ≠ gb101 ∧ k_ ≠ gb102 ∧ k_ ≠ gb113)) k_ ∧ some k_ ≠ (v145 : Value).ownBlock)) (HO151.out) (fun k_ hk => ⟨⟨hk.1.1, ⟨hk.1.2.1, ⟨hk.1.2.2.2.2.1, ⟨hk.1.2.2.2.2.2.1, hk.1.2.2.2.2.2.2⟩⟩⟩⟩, hk.2⟩)))); (case aB => exact zB); (case aF => exact (fun k_ hk => ⟨(.inr (Nat.le_trans (bZ) hk)), Kd.fresh' (Kd.R_lt (rO HO109)) k_ hk, (kG BK101) k_ hk, (kG BK102) k_ hk, (kG BK113) k_ hk⟩)); (case aO => exact (nO HO146)); (case aS => exact (bZ)); (case aL => have := LMc22.out; omega); intro v153 w53 ho hb hg hat; rw [← Ny152.out] at ho; have n0_ := Aside0.mk (Kd.V_afterv (ok := (fun k_ => (P0_1_ k_ ∨ w.heap.size ≤ k_) ∧ some k_ ≠ (.slice Ao32 t107.length co32 : Value).ownBlock ∧ k_ ≠ gb101 ∧ k_ ≠ gb102 ∧ k_ ≠ gb113)) (fV HO0_1) hg hat); have n1_ := bN BK101 HO146 hg; have n2_ := bN BK102 HO146 hg; have n3_ := Aside0.mk (Kd.V_afterv (ok := (fun k_ => (P0_1_ k_ ∨ w.heap.size ≤ k_) ∧ some k_ ≠ (.slice Ao32 t107.length co32 : Value).ownBlock ∧ k_ ≠ gb101 ∧ k_ ≠ gb102 ∧ k_ ≠ gb113)) (fV HL103_3) hg hat); have n4_ := Aside0.mk (Kd.V_afterv (ok := (fun k_ => (P0_1_ k_ ∨ w.heap.size ≤ k_) ∧ some k_ ≠ (.slice Ao32 t107.length co32 : Value).ownBlock ∧ k_ ≠ gb101 ∧ k_ ≠ gb102 ∧ k_ ≠ gb113)) (fV HL103_4) hg hat); have n5_ := Aside0.mk (Kd.R_over' (rO HO109) (Kd.N_typed (nO HO146)) z0_ hg); have n6_ := Aside0.mk (blk_grown (g := gb113) (o := .cells #[.int .i64 t104, .string t105, .string t106, .slice Ao42 y130.length co42, .slice Ao33 t110.length co33] 117 (0, 0)) (kQ BK113) hg (Kd.N_away HO146.out (fun _ hk => hk.2.2.2.2))); have n7_ := Aside0.mk (Kd.V_afterv (ok := (fun k_ => (P0_1_ k_ ∨ w.heap.size ≤ k_) ∧ k_ ≠ gb101 ∧ k_ ≠ gb102 ∧ k_ ≠ gb113)) (fV HO121) hg hat); have n8_ := Aside0.mk (Kd.V_afterv (ok := (fun k_ => (P0_1_ k_ ∨ w.heap.size ≤ k_) ∧ k_ ≠ gb101 ∧ k_ ≠ gb102 ∧ k_ ≠ gb113)) (fV HO129) hg hat); have n9_ := Aside0.mk (Kd.V_afterv (ok := (fun k_ => (P0_1_ k_ ∨ w.heap.size ≤ k_) ∧ some k_ ≠ (.slice Ao32 t107.length co32 : Value).ownBlock ∧ k_ ≠ gb101 ∧ k_ ≠ gb102 ∧ k_ ≠ gb113)) (fV HO140) hg hat); have n10_ := Aside0.mk (Kd.V_afterv (ok := (fun k_ => (P0_1_ k_ ∨ w.heap.size ≤ k_) ∧ some k_ ≠ (.slice Ao32 t107.length co32 : Value).ownBlock ∧ k_ ≠ gb101 ∧ k_ ≠ gb102 ∧ k_ ≠ gb113)) (fV HO151) hg hat); have n11_ := Aside0.mk (hb); have n12_ := Aside0.mk (ho); clear HO0_1 BK101 BK102 HL103_3 HL103_4 HO109 BK113 HO121 HO129 HO140 HO151 HB HO146; have HO0_1 := n0_; have BK101 := n1_; have BK102 := n2_; have HL103_3 := n3_; have HL103_4 := n4_; have HO109 := n5_; have BK113 := n6_; have HO121 := n7_; have HO129 := n8_; have HO140 := n9_; have HO151 := n10_; have HB := n11_; have HO154 := n12_; clear n0_ n1_ n2_ n3_ n4_ n5_ n6_ n7_ n8_ n9_ n10_ n11_ n12_ ho hb hg hat; obtain ⟨Ao54, co54, eo54⟩ := Kd.N_slice HO154.out; subst eo54; have hcz55 := cz2 BK101.out; have hfz55 := fz2 BK101.out; have hcz56 := cz2 BK102.out; have hfz56 := fz2 BK102.out))
  refine bodyPost_ret (results_cell_row rfl _ _ gb102 80 #[.int .i64 a0_0, .slice Ao54 y152.length co54] (0, 0) _ rfl (kQ BK102) Tryz.underlying80 rfl (by kernel_rfl)) rfl ?_
  exact ⟨_, by first | rfl | (simp [errW_none, errW_some] <;> rfl) | (simp only [← hji10, ← hji19]; first | rfl | (simp [errW_none, errW_some] <;> rfl)) | (simp [*, errW_none, errW_some] <;> rfl), fN HO154, zB⟩
 ·have c17b1 : decide (0 < y130.length) = false := decide_eq_false (by omega)
  clear c17
  obtain ⟨ji57, hji57⟩ : ∃ j_ : Int, (wrap64 (a1 + 1)) = j_ := ⟨_, rfl⟩
  first | rw [hji57] at H | simp only [hji57] at H
  (try rw [hji57] at A6)
  have hji57w : (IntKind.i64.wrap (a1 + 1)) = ji57 := (i64_w _).trans hji57
  replace H := itn_ed H; obtain ⟨c58b0, c58b1, H⟩ := H
  replace H := itn_ed H; obtain ⟨c59b0, c59b1, H⟩ := H
  first | (with_reducible replace H := bne (l0_1.drop ((ji57) : Int).toNat : List (S117)) H; obtain ⟨y155, Ny155, H⟩ := H) | (generalize hy_ : (l0_1.drop ((ji57) : Int).toNat : List (S117)) = y155 at H; have Ny155 := Aside0.mk hy_.symm; clear hy_)
  replace H := itn_L H; obtain ⟨LMc60, H⟩ := H
  first | (with_reducible replace H := bne (y141 ++ y155 : List (S117)) H; obtain ⟨y160, Ny160, H⟩ := H) | (generalize hy_ : (y141 ++ y155 : List (S117)) = y160 at H; have Ny160 := Aside0.mk hy_.symm; clear hy_)
  simp only [Option.some.injEq, Prod.mk.injEq] at H
  obtain ⟨rfl, rfl⟩ := H
  go_enter Tryz.func96, Tryz.ntmps96
  try go_wp2_with (first | ((with_reducible refine gate_dst (N := 3) rfl ?_); refine bx (cs := #[.int .i64 a0_0, .slice A0_1 l0_1.length c0_1]) (t := 80) ?_; intro gb101 hg w61 hbox hb; replace HO0_1 := vE hg HO0_1 hb; have BK101 := Aside0.mk (hbox); have GW101 := gS hg; have GE101 := gS hg; replace HB := bS hb; clear hb hbox hg) | ((with_reducible refine gate_dst (N := 6) rfl ?_); refine bx (cs := #[.int .i64 0, .slice none 0 0]) (t := 80) ?_; intro gb102 hg w62 hbox hb; replace HO0_1 := vE hg HO0_1 hb; have BK102 := Aside0.mk (hbox); have GW102 := gS hg; have GE102 := gS hg; have NB101_102 := nS hg BK101; have NB102_101 := nG hg BK101; replace BK101 := kS BK101 hb; replace HB := bS hb; clear hb hbox hg; have hnb63 := NB101_102.out; have hnc63 := NB102_101.out; have hcz64 := cz2 BK101.out; have hfz64 := fz2 BK101.out; have p103 : 0 ≤ (a1 : Int) := of_decide_eq_true za; have q103 : a1 < (l0_1.length : Int) := of_decide_eq_true za; obtain ⟨ad103, A103_3, c103_3, A103_4, c103_4, e103, hx103_0, hx103_1, hx103_2, hx103_3, hx103_4, hl103_3, hi103_3, hl103_4, hi103_4⟩ := at_T117 (Kd.V_reads' HO0_1.out).2.2 a1 p103 q103; cases e103; obtain ⟨ce103, hce103, hMe103, hcc103⟩ := Kd.V_get HO0_1.out z117 a1 p103 (by first | exact q103 | exact of_decide_eq_true za | (have e_ := (Kd.V_reads' HO0_1.out).1; omega)); obtain ⟨ua103_3, uc103_3, ua103_4, uc103_4, rfl, ul103_3, ge103_3, ul103_4, ge103_4⟩ := k117_openF hMe103; have hv103_3 := hcc103 3 _ rfl; rw [add_field _ _ 3 (by omega)] at hv103_3; replace hv103_3 := Option.some.inj (hv103_3.symm.trans hx103_3); injection hv103_3 with hva_ hvn_ hvc_; rw [hva_] at ge103_3; rw [hvc_] at ul103_3; have HL103_3 := Aside0.mk (show Kd.V k143 143 _ w.heap.size _ _ ((rd_T117 l0_1 a1).f2) from Kd.V_mk ul103_3 ge103_3); clear hva_ hvn_ hvc_ ge103_3 ul103_3; have hv103_4 := hcc103 4 _ rfl; rw [add_field _ _ 4 (by omega)] at hv103_4; replace hv103_4 := Option.some.inj (hv103_4.symm.trans hx103_4); injection hv103_4 with hva_ hvn_ hvc_; rw [hva_] at ge103_4; rw [hvc_] at ul103_4; have HL103_4 := Aside0.mk (show Kd.V Kd.string 9 _ w.heap.size _ _ ((rd_T117 l0_1 a1).f3) from Kd.V_mk ul103_4 ge103_4); clear hva_ hvn_ hvc_ ge103_4 ul103_4 hcc103 hce103; have HR103_3 := Aside0.mk hi103_3; have HC103_3 := Aside0.mk hl103_3; clear hi103_3 hl103_3; have HR103_4 := Aside0.mk hi103_4; have HC103_4 := Aside0.mk hl103_4; clear hi103_4 hl103_4; replace p103 := eq_true p103; replace q103 := eq_true q103) | ((with_reducible refine gate_callee (f := 132) rfl ?_); refine gl 14 Tryz.func132 #[.agg #[.int .i64 ((rd_T117 l0_1 a1).f0), .string ((rd_T117 l0_1 a1).f1.f0), .string ((rd_T117 l0_1 a1).f1.f1), .slice A103_3 ((rd_T117 l0_1 a1).f2).length c103_3, .slice A103_4 ((rd_T117 l0_1 a1).f3).length c103_4]] ((spec_l5CopyItem.calls (w := _) (hr0_3 := by repeat (first | exact (by repeat (first | (with_reducible exact HR103_3.out) | (with_reducible refine Kd.C_alloc ?_ _) | (with_reducible refine Kd.C_drewN ?_ _) | (with_reducible refine Kd.C_drew ?_) | exact HR103_3.out)) | (with_reducible refine Kd.C_alloc ?_ _) | (with_reducible refine Kd.C_drewN ?_ _) | (with_reducible refine Kd.C_drew ?_))) (hc0_3 := HC103_3.out) (hr0_4 := by repeat (first | exact (by repeat (first | (with_reducible exact HR103_4.out) | (with_reducible refine Kd.C_alloc ?_ _) | (with_reducible refine Kd.C_drewN ?_ _) | (with_reducible refine Kd.C_drew ?_) | exact HR103_4.out)) | (with_reducible refine Kd.C_alloc ?_ _) | (with_reducible refine Kd.C_drewN ?_ _) | (with_reducible refine Kd.C_drew ?_))) (hc0_4 := HC103_4.out) (h := A6.out)).mono ?_); rintro e w65 ⟨v108, v111, rfl, ho0, ho1, hb⟩; refine ⟨_, rfl, ?_⟩; replace HO0_1 := Aside0.mk (Kd.V_mono (Kd.V_told (Kd.V_told (Kd.V_old (vO HO0_1) hb) (Kd.R_base ho0)) (Kd.R_base ho1)) (fun _ h_ => h_.1)); replace HL103_3 := Aside0.mk (Kd.V_mono (Kd.V_told (Kd.V_told (Kd.V_old (vO HL103_3) hb) (Kd.R_base ho0)) (Kd.R_base ho1)) (fun _ h_ => h_.1)); replace HL103_4 := Aside0.mk (Kd.V_mono (Kd.V_told (Kd.V_told (Kd.V_old (vO HL103_4) hb) (Kd.R_base ho0)) (Kd.R_base ho1)) (fun _ h_ => h_.1)); have HO109 := Aside0.mk (Kd.R_lower (Kd.R_newM (M := fun k_ => (w.heap.size ≤ k_)) ho0 (bZ) (fun k_ h_ => h_)) (bZ)); have HO112 := Aside0.mk (Kd.R_lower (Kd.R_newM (M := fun k_ => (w.heap.size ≤ k_)) ho1 (bZ) (fun k_ h_ => h_)) (bZ)); replace BK101 := kS BK101 hb; replace BK102 := kS BK102 hb; replace HR103_3 := cR HR103_3 hb; replace HR103_4 := cR HR103_4 hb; replace HB := bS hb; clear hb ho0; (try clear ho1)) | ((with_reducible refine gate_dst (N := 7) rfl ?_); refine bx (cs := #[.int .i64 0, .string ⟨#[]⟩, .string ⟨#[]⟩, .slice none 0 0, .slice none 0 0]) (t := 117) ?_; intro gb113 hg w66 hbox hb; replace HO0_1 := vE hg HO0_1 hb; replace HL103_3 := vE hg HL103_3 hb; replace HL103_4 := vE hg HL103_4 hb; replace HO109 := rS HO109 hb; replace HO112 := rS HO112 hb; replace HR103_3 := cR HR103_3 hb; replace HR103_4 := cR HR103_4 hb; have BK113 := Aside0.mk (hbox); have GW113 := gS hg; have GE113 := gS hg; have NB101_113 := nS hg BK101; have NB113_101 := nG hg BK101; replace BK101 := kS BK101 hb; have NB102_113 := nS hg BK102; have NB113_102 := nG hg BK102; replace BK102 := kS BK102 hb; replace HB := bS hb; clear hb hbox hg; have hnb67 := NB113_101.out; have hnc67 := NB101_113.out; have hnb68 := NB113_102.out; have hnc68 := NB102_113.out; have hcz69 := cz5 BK113.out; have hfz69 := fz5 BK113.out; obtain ⟨Ao70, co70, eo70⟩ := Kd.R_slice HO109.out; subst eo70; obtain ⟨Ao71, co71, eo71⟩ := Kd.R_slice HO112.out; subst eo71))
  have n0_ : Aside0 (Kd.V k117 117 (((((w66.setCell ⟨gb113, 0, none⟩ (.int .i64 t104)).setCell ⟨gb113, 1, none⟩ (.string t105)).setCell ⟨gb113, 2, none⟩ (.string t106)).setCell ⟨gb113, 3, none⟩ (.slice Ao70 t107.length co70)).setCell ⟨gb113, 4, none⟩ (.slice Ao71 t110.length co71)) w.heap.size (fun k_ => (P0_1_ k_ ∨ w.heap.size ≤ k_) ∧ some k_ ≠ (.slice Ao70 t107.length co70 : Value).ownBlock ∧ some k_ ≠ (.slice Ao71 t110.length co71 : Value).ownBlock ∧ k_ ≠ gb101 ∧ k_ ≠ gb102 ∧ k_ ≠ gb113) (.slice (some ad103) l0_1.length c0_1) l0_1) := ⟨fV HO0_1⟩
  have n1_ : Aside0 (Kd.V k143 143 (((((w66.setCell ⟨gb113, 0, none⟩ (.int .i64 t104)).setCell ⟨gb113, 1, none⟩ (.string t105)).setCell ⟨gb113, 2, none⟩ (.string t106)).setCell ⟨gb113, 3, none⟩ (.slice Ao70 t107.length co70)).setCell ⟨gb113, 4, none⟩ (.slice Ao71 t110.length co71)) w.heap.size (fun k_ => (P0_1_ k_ ∨ w.heap.size ≤ k_) ∧ some k_ ≠ (.slice Ao70 t107.length co70 : Value).ownBlock ∧ some k_ ≠ (.slice Ao71 t110.length co71 : Value).ownBlock ∧ k_ ≠ gb101 ∧ k_ ≠ gb102 ∧ k_ ≠ gb113) (.slice A103_3 ((rd_T117 l0_1 a1).f2).length c103_3) ((rd_T117 l0_1 a1).f2)) := ⟨fV HL103_3⟩
  have n2_ : Aside0 (Kd.V Kd.string 9 (((((w66.setCell ⟨gb113, 0, none⟩ (.int .i64 t104)).setCell ⟨gb113, 1, none⟩ (.string t105)).setCell ⟨gb113, 2, none⟩ (.string t106)).setCell ⟨gb113, 3, none⟩ (.slice Ao70 t107.length co70)).setCell ⟨gb113, 4, none⟩ (.slice Ao71 t110.length co71)) w.heap.size (fun k_ => (P0_1_ k_ ∨ w.heap.size ≤ k_) ∧ some k_ ≠ (.slice Ao70 t107.length co70 : Value).ownBlock ∧ some k_ ≠ (.slice Ao71 t110.length co71 : Value).ownBlock ∧ k_ ≠ gb101 ∧ k_ ≠ gb102 ∧ k_ ≠ gb113) (.slice A103_4 ((rd_T117 l0_1 a1).f3).length c103_4) ((rd_T117 l0_1 a1).f3)) := ⟨fV HL103_4⟩
  have n3_ : Aside0 (Kd.R k143 143 (((((w66.setCell ⟨gb113, 0, none⟩ (.int .i64 t104)).setCell ⟨gb113, 1, none⟩ (.string t105)).setCell ⟨gb113, 2, none⟩ (.string t106)).setCell ⟨gb113, 3, none⟩ (.slice Ao70 t107.length co70)).setCell ⟨gb113, 4, none⟩ (.slice Ao71 t110.length co71)) w.heap.size (fun k_ => (w.heap.size ≤ k_)) (.slice Ao70 t107.length co70) t107) := ⟨fM HO109 BK113 (fun _ hk => hk.1.1)⟩
  have n4_ : Aside0 (Kd.R Kd.string 9 (((((w66.setCell ⟨gb113, 0, none⟩ (.int .i64 t104)).setCell ⟨gb113, 1, none⟩ (.string t105)).setCell ⟨gb113, 2, none⟩ (.string t106)).setCell ⟨gb113, 3, none⟩ (.slice Ao70 t107.length co70)).setCell ⟨gb113, 4, none⟩ (.slice Ao71 t110.length co71)) w.heap.size (fun k_ => (w.heap.size ≤ k_)) (.slice Ao71 t110.length co71) t110) := ⟨fM HO112 BK113 (fun _ hk => hk.1.1)⟩
  have n5_ : Aside0 ((((((w66.setCell ⟨gb113, 0, none⟩ (.int .i64 t104)).setCell ⟨gb113, 1, none⟩ (.string t105)).setCell ⟨gb113, 2, none⟩ (.string t106)).setCell ⟨gb113, 3, none⟩ (.slice Ao70 t107.length co70)).setCell ⟨gb113, 4, none⟩ (.slice Ao71 t110.length co71)).heap[gb101]? = some (.cells #[.int .i64 a0_0, .slice (some ad103) l0_1.length c0_1] 80 (0, 0))) := ⟨kQ BK101⟩
  have n6_ : Aside0 ((((((w66.setCell ⟨gb113, 0, none⟩ (.int .i64 t104)).setCell ⟨gb113, 1, none⟩ (.string t105)).setCell ⟨gb113, 2, none⟩ (.string t106)).setCell ⟨gb113, 3, none⟩ (.slice Ao70 t107.length co70)).setCell ⟨gb113, 4, none⟩ (.slice Ao71 t110.length co71)).heap[gb102]? = some (.cells #[.int .i64 0, .slice none 0 0] 80 (0, 0))) := ⟨kQ BK102⟩
  have n7_ : Aside0 ((((((w66.setCell ⟨gb113, 0, none⟩ (.int .i64 t104)).setCell ⟨gb113, 1, none⟩ (.string t105)).setCell ⟨gb113, 2, none⟩ (.string t106)).setCell ⟨gb113, 3, none⟩ (.slice Ao70 t107.length co70)).setCell ⟨gb113, 4, none⟩ (.slice Ao71 t110.length co71)).heap[gb113]? = some (.cells #[.int .i64 t104, .string t105, .string t106, .slice Ao70 t107.length co70, .slice Ao71 t110.length co71] 117 (0, 0))) := ⟨kQ BK113⟩
  have n8_ : Aside0 (Below w.heap.size w (((((w66.setCell ⟨gb113, 0, none⟩ (.int .i64 t104)).setCell ⟨gb113, 1, none⟩ (.string t105)).setCell ⟨gb113, 2, none⟩ (.string t106)).setCell ⟨gb113, 3, none⟩ (.slice Ao70 t107.length co70)).setCell ⟨gb113, 4, none⟩ (.slice Ao71 t110.length co71))) := ⟨zB⟩
  (try clear HO0_1)
  (try clear HL103_3)
  (try clear HL103_4)
  (try clear HO109)
  (try clear HO112)
  (try clear BK101)
  (try clear BK102)
  (try clear BK113)
  (try clear HB)
  generalize (((((w66.setCell ⟨gb113, 0, none⟩ (.int .i64 t104)).setCell ⟨gb113, 1, none⟩ (.string t105)).setCell ⟨gb113, 2, none⟩ (.string t106)).setCell ⟨gb113, 3, none⟩ (.slice Ao70 t107.length co70)).setCell ⟨gb113, 4, none⟩ (.slice Ao71 t110.length co71)) = w72 at n0_ n1_ n2_ n3_ n4_ n5_ n6_ n7_ n8_ ⊢
  have HO0_1 := n0_
  have HL103_3 := n1_
  have HL103_4 := n2_
  have HO109 := n3_
  have HO112 := n4_
  have BK101 := n5_
  have BK102 := n6_
  have BK113 := n7_
  have HB := n8_
  clear n0_ n1_ n2_ n3_ n4_ n5_ n6_ n7_ n8_
  replace HO0_1 := Aside0.mk (Kd.V_drew HO0_1.out)
  replace HL103_3 := Aside0.mk (Kd.V_drew HL103_3.out)
  replace HL103_4 := Aside0.mk (Kd.V_drew HL103_4.out)
  replace HO109 := Aside0.mk (Kd.R_drew HO109.out)
  replace HO112 := Aside0.mk (Kd.R_drew HO112.out)
  replace BK101 := Aside0.mk (blk_drew BK101.out)
  replace BK102 := Aside0.mk (blk_drew BK102.out)
  replace BK113 := Aside0.mk (blk_drew BK113.out)
  replace HB := Aside0.mk (below_drew1 HB.out)
  have q74 : (a2 : Int) ≤ ((t107.length : Int) : Int) := of_decide_eq_true za
  obtain ⟨i074, hi074, _, hsz74, _⟩ := info_parts info143
  have hroom74 : t107.length ≤ co70 := (Kd.R_reads' HO109.out).2.1
  have hC74 : Kd.F k143 _ _ Ao70 t107.length t107 := (Kd.V_at (base := w.heap.size) (Kd.V_mono (ok' := (fun k_ => (((((P0_1_ k_ ∨ w.heap.size ≤ k_) ∧ some k_ ≠ (.slice Ao71 t110.length co71 : Value).ownBlock) ∧ k_ ≠ gb101) ∧ k_ ≠ gb102) ∧ k_ ≠ gb113))) (Kd.R_V (Kd.R_types (Kd.R_types (Kd.R_types (Kd.R_apart' (HO109.out) (Kd.R_typed HO112.out) z0_) BK101.out z0_) BK102.out z0_) BK113.out z0_)) (fun k_ hk => ⟨⟨⟨⟨(.inr (hk.1.1.1.1)), hk.1.1.1.2⟩, hk.1.1.2⟩, hk.1.2⟩, hk.2⟩))).2.2
  have hcut74 := cut_to (P := Tryz.prog) 115 143 .i64 Tryz.underlying115 hi074 Ao70 t107.length co70 a2 (of_decide_eq_true za) q74 hroom74
  have hr74 := Kd.F_take (m := (a2 : Int).toNat) hC74 (by omega)
  have hy74 : y117.length = (a2 : Int).toNat := (by rw [Ny117.out, List.length_take]; omega)
  rw [← Ny117.out] at hr74
  rw [← hy74] at hcut74
  have HO121 := Aside0.mk (show Kd.V k143 143 _ w.heap.size _ (.slice Ao70 y117.length co70) y117 from Kd.V_mk (by omega) hr74)
  have HC121 := Aside0.mk (show y117.length ≤ co70 from by omega)
  clear hr74 hC74 hroom74 hi074 hsz74
  have KY74 := Aside0.mk hy74
  clear hy74
  replace q74 := eq_true q74
  have q75 : ((ji10) : Int) ≤ ((t107.length : Int) : Int) := of_decide_eq_true za
  obtain ⟨i075, hi075, _, hsz75, _⟩ := info_parts info143
  have hroom75 : t107.length ≤ co70 := (Kd.R_reads' HO109.out).2.1
  have hC75 : Kd.F k143 _ _ Ao70 t107.length t107 := (Kd.V_at (base := w.heap.size) (Kd.V_mono (ok' := (fun k_ => (((((P0_1_ k_ ∨ w.heap.size ≤ k_) ∧ some k_ ≠ (.slice Ao71 t110.length co71 : Value).ownBlock) ∧ k_ ≠ gb101) ∧ k_ ≠ gb102) ∧ k_ ≠ gb113))) (Kd.R_V (Kd.R_types (Kd.R_types (Kd.R_types (Kd.R_apart' (HO109.out) (Kd.R_typed HO112.out) z0_) BK101.out z0_) BK102.out z0_) BK113.out z0_)) (fun k_ hk => ⟨⟨⟨⟨(.inr (hk.1.1.1.1)), hk.1.1.1.2⟩, hk.1.1.2⟩, hk.1.2⟩, hk.2⟩))).2.2
  have q075 : (0 : Int) ≤ ((ji10) : Int) := of_decide_eq_true za
  have hcut75 := cut_from (P := Tryz.prog) 115 143 .i64 Tryz.underlying115 hi075 4 hsz75 Ao70 t107.length co70 (ji10) q075 q75
  have hr75 := Kd.F_cut (m := ((ji10) : Int).toNat) (c := co70) hC75 (by omega) hroom75
  obtain ⟨A75, hA75⟩ : ∃ A1, A1 = (if co70 = ((ji10) : Int).toNat then Ao70 else (Ao70 : Option Addr).map (·.add (((ji10) : Int).toNat * 4))) := ⟨_, rfl⟩
  obtain ⟨c75, hc75⟩ : ∃ c1, c1 = co70 - ((ji10) : Int).toNat := ⟨_, rfl⟩
  have hy75 : y125.length = t107.length - ((ji10) : Int).toNat := (by rw [Ny125.out, List.length_drop] <;> omega)
  rw [show (t107).drop ((ji10) : Int).toNat = y125 from Ny125.out.symm] at hr75
  replace hr75 : Kd.F k143 _ _ A75 y125.length y125 := (by rw [hA75]; exact hr75)
  rw [← hy75, ← hA75, ← hc75] at hcut75
  have HO129 := Aside0.mk (show Kd.V k143 143 _ w.heap.size _ (.slice A75 y125.length c75) y125 from Kd.V_mk (by rw [hy75, hc75]; exact Nat.sub_le_sub_right hroom75 _) hr75)
  have HC129 := Aside0.mk (show y125.length ≤ c75 from by rw [hy75, hc75]; exact Nat.sub_le_sub_right hroom75 _)
  clear hr75 hC75 hroom75 hi075 hsz75 hc75
  have KY75 := Aside0.mk hy75
  have KA75 := Aside0.mk hA75
  clear hy75 hA75
  replace q75 := eq_true q75
  refine start_ (n := 14) (S := fun w' => w'.cell? ⟨gb113, 0, none⟩ = some (.int .i64 t104) ∧ w'.cell? ⟨gb113, 1, none⟩ = some (.string t105) ∧ w'.cell? ⟨gb113, 2, none⟩ = some (.string t106) ∧ w'.cell? ⟨gb113, 3, none⟩ = some (.slice Ao70 t107.length co70) ∧ w'.cell? ⟨gb113, 4, none⟩ = some (.slice Ao71 t110.length co71)) (ds := [13]) #[false, false, false, false, false, false, false, false, false, false, false, false, false, false] (by kernel_rfl) rfl rfl ⟨(blk_cell BK113.out 0).trans rfl, (blk_cell BK113.out 1).trans rfl, (blk_cell BK113.out 2).trans rfl, (blk_cell BK113.out 3).trans rfl, (blk_cell BK113.out 4).trans rfl⟩ (fun hHeld => ?_); refine with_tabW spec_l5Done.tab2 spec_l5Done.bits2 (fun HT_ HW_ => ?_)
  generalize w72.drew = w73 at HO0_1 HL103_3 HL103_4 HO109 HO112 BK101 BK102 BK113 HB HO121 HO129 hHeld ⊢
  refine pu 1 16 ?_
  refine pu 3 18 ?_
  refine pu 6 21 ?_
  refine pu 8 23 ?_
  refine pu 9 24 ?_
  refine ta 2 17 ?_
  refine pu 4 19 ?_
  refine ta 7 22 ?_
  refine pu 10 25 ?_
  refine on 0 (some 15) (fun K hK => ?_)
  refine rL k143 143 15 Ny114 (fun v115 w76 ho77 hb => ?_)
  replace HO0_1 := Aside0.mk (Kd.V_elder' (vO HO0_1) (Kd.R_base ho77) hb)
  replace HL103_3 := Aside0.mk (Kd.V_elder' (vO HL103_3) (Kd.R_base ho77) hb)
  replace HL103_4 := Aside0.mk (Kd.V_elder' (vO HL103_4) (Kd.R_base ho77) hb)
  replace HO112 := rS HO112 hb
  replace HO121 := Aside0.mk (Kd.V_elder' (vO HO121) (Kd.R_base ho77) hb)
  replace HO129 := Aside0.mk (Kd.V_elder' (vO HO129) (Kd.R_base ho77) hb)
  have HO116 := Aside0.mk (Kd.R_lower (Kd.R_new' (Kd.R_newM (M := fun k_ => (w.heap.size ≤ k_)) ho77 (bZ) (fun k_ h_ => h_)) (Kd.R_lt (rO HO109))) (bZ))
  replace HO109 := Aside0.mk (Kd.R_elder' (rO HO109) (Kd.R_base ho77) hb)
  replace BK101 := kS BK101 hb
  replace BK102 := kS BK102 hb
  replace BK113 := kS BK113 hb
  replace HB := bS hb
  clear hb ho77
  refine kO 15 hK (fun hHeld => ?_)
  clear hK K
  refine on 5 (some 20) (fun K hK => ?_)
  refine Kd.R_append_rows_step k143 (w0 := w) w.heap.size (by rfl) (.tmp 15) (.tmp 19) 115 143 (.agg #[(.string ⟨#[]⟩), (.string ⟨#[]⟩), (.int .i64 0), (.int .i64 0)]) 48 rfl Tryz.underlying115 info143 rfl z0_ (by omega) v115 y114 y117 _ _ _ (fun k_ => (w.heap.size ≤ k_) ∧ some k_ ≠ (.slice Ao70 t107.length co70 : Value).ownBlock) (fun _ => False) rfl rfl ?aO ?aR (fun _ _ h => h) (fun _ h => h.elim) ?aF ?aB ?aS ?aL ?_
  (case aR => repeat (first | exact (Kd.V_reads' HO121.out).2.2 | (with_reducible refine Kd.C_alloc ?_ _) | (with_reducible refine Kd.C_drewN ?_ _) | (with_reducible refine Kd.C_drew ?_)))
  (case aB => exact zB)
  (case aF => exact (fun k_ hk => ⟨(Nat.le_trans (bZ) hk), Kd.fresh' (Kd.R_lt (rO HO109)) k_ hk⟩))
  (case aO => exact (by (with_reducible repeat (first | apply Kd.R_alloc | apply Kd.R_drewN | apply Kd.R_drew)); exact Kd.R_mono HO116.out (fun _ hk => ⟨hk.1.1, hk.2⟩)))
  (case aS => exact (bZ))
  (case aL => have := LMc9.out; omega)
  intro v123 w78 ho hb hg hat
  rw [← Ny122.out] at ho
  replace HO0_1 := Aside0.mk (Kd.V_afterv (ok := (fun k_ => (P0_1_ k_ ∨ w.heap.size ≤ k_) ∧ some k_ ≠ (.slice Ao70 t107.length co70 : Value).ownBlock ∧ some k_ ≠ (.slice Ao71 t110.length co71 : Value).ownBlock ∧ k_ ≠ gb101 ∧ k_ ≠ gb102 ∧ k_ ≠ gb113)) (vO HO0_1) hg hat)
  replace BK101 := bG BK101 HO116 hg
  replace BK102 := bG BK102 HO116 hg
  replace HL103_3 := Aside0.mk (Kd.V_afterv (ok := (fun k_ => (P0_1_ k_ ∨ w.heap.size ≤ k_) ∧ some k_ ≠ (.slice Ao70 t107.length co70 : Value).ownBlock ∧ some k_ ≠ (.slice Ao71 t110.length co71 : Value).ownBlock ∧ k_ ≠ gb101 ∧ k_ ≠ gb102 ∧ k_ ≠ gb113)) (vO HL103_3) hg hat)
  replace HL103_4 := Aside0.mk (Kd.V_afterv (ok := (fun k_ => (P0_1_ k_ ∨ w.heap.size ≤ k_) ∧ some k_ ≠ (.slice Ao70 t107.length co70 : Value).ownBlock ∧ some k_ ≠ (.slice Ao71 t110.length co71 : Value).ownBlock ∧ k_ ≠ gb101 ∧ k_ ≠ gb102 ∧ k_ ≠ gb113)) (vO HL103_4) hg hat)
  replace HO109 := Aside0.mk (Kd.R_after (ok := (fun k_ => (w.heap.size ≤ k_))) (rO HO109) hg hat)
  replace HO112 := Aside0.mk (Kd.R_over' (rO HO112) (Kd.R_typed (rO HO116)) z0_ hg)
  replace BK113 := bG BK113 HO116 hg
  replace HO121 := Aside0.mk (Kd.V_afterv (ok := (fun k_ => (P0_1_ k_ ∨ w.heap.size ≤ k_) ∧ some k_ ≠ (.slice Ao71 t110.length co71 : Value).ownBlock ∧ k_ ≠ gb101 ∧ k_ ≠ gb102 ∧ k_ ≠ gb113)) (fV HO121) hg hat)
  replace HO129 := Aside0.mk (Kd.V_afterv (ok := (fun k_ => (P0_1_ k_ ∨ w.heap.size ≤ k_) ∧ some k_ ≠ (.slice Ao71 t110.length co71 : Value).ownBlock ∧ k_ ≠ gb101 ∧ k_ ≠ gb102 ∧ k_ ≠ gb113)) (fV HO129) hg hat)
  replace HB := Aside0.mk (hb)
  have HO124 := Aside0.mk (ho)
  clear HO116 ho hb hg hat
  refine kO 20 hK (fun hHeld => ?_)
  clear hK K
  refine on 11 (some 26) (fun K hK => ?_)
  refine Kd.R_append_rows_step k143 (w0 := w) w.heap.size (by rfl) (.tmp 20) (.tmp 25) 115 143 (.agg #[(.string ⟨#[]⟩), (.string ⟨#[]⟩), (.int .i64 0), (.int .i64 0)]) 48 rfl Tryz.underlying115 info143 rfl z0_ (by omega) v123 y122 y125 _ _ _ (fun k_ => (w.heap.size ≤ k_) ∧ some k_ ≠ (.slice Ao70 t107.length co70 : Value).ownBlock) (fun _ => False) rfl rfl ?aO ?aR (fun _ _ h => h) (fun _ h => h.elim) ?aF ?aB ?aS ?aL ?_
  (case aR => repeat (first | exact (Kd.V_reads' HO129.out).2.2 | (with_reducible refine Kd.C_alloc ?_ _) | (with_reducible refine Kd.C_drewN ?_ _) | (with_reducible refine Kd.C_drew ?_)))
  (case aB => exact zB)
  (case aF => exact (fun k_ hk => ⟨(Nat.le_trans (bZ) hk), Kd.fresh' (Kd.R_lt (rO HO109)) k_ hk⟩))
  (case aO => exact (rO HO124))
  (case aS => exact (bZ))
  (case aL => have := LMc13.out; omega)
  intro v131 w79 ho hb hg hat
  rw [← Ny130.out] at ho
  replace HO0_1 := Aside0.mk (Kd.V_afterv (ok := (fun k_ => (P0_1_ k_ ∨ w.heap.size ≤ k_) ∧ some k_ ≠ (.slice Ao70 t107.length co70 : Value).ownBlock ∧ some k_ ≠ (.slice Ao71 t110.length co71 : Value).ownBlock ∧ k_ ≠ gb101 ∧ k_ ≠ gb102 ∧ k_ ≠ gb113)) (vO HO0_1) hg hat)
  replace BK101 := bG BK101 HO124 hg
  replace BK102 := bG BK102 HO124 hg
  replace HL103_3 := Aside0.mk (Kd.V_afterv (ok := (fun k_ => (P0_1_ k_ ∨ w.heap.size ≤ k_) ∧ some k_ ≠ (.slice Ao70 t107.length co70 : Value).ownBlock ∧ some k_ ≠ (.slice Ao71 t110.length co71 : Value).ownBlock ∧ k_ ≠ gb101 ∧ k_ ≠ gb102 ∧ k_ ≠ gb113)) (vO HL103_3) hg hat)
  replace HL103_4 := Aside0.mk (Kd.V_afterv (ok := (fun k_ => (P0_1_ k_ ∨ w.heap.size ≤ k_) ∧ some k_ ≠ (.slice Ao70 t107.length co70 : Value).ownBlock ∧ some k_ ≠ (.slice Ao71 t110.length co71 : Value).ownBlock ∧ k_ ≠ gb101 ∧ k_ ≠ gb102 ∧ k_ ≠ gb113)) (vO HL103_4) hg hat)
  replace HO109 := Aside0.mk (Kd.R_after (ok := (fun k_ => (w.heap.size ≤ k_))) (rO HO109) hg hat)
  replace HO112 := Aside0.mk (Kd.R_over' (rO HO112) (Kd.R_typed (rO HO124)) z0_ hg)
  replace BK113 := bG BK113 HO124 hg
  replace HO121 := Aside0.mk (Kd.V_afterv (ok := (fun k_ => (P0_1_ k_ ∨ w.heap.size ≤ k_) ∧ some k_ ≠ (.slice Ao71 t110.length co71 : Value).ownBlock ∧ k_ ≠ gb101 ∧ k_ ≠ gb102 ∧ k_ ≠ gb113)) (vO HO121) hg hat)
  replace HO129 := Aside0.mk (Kd.V_afterv (ok := (fun k_ => (P0_1_ k_ ∨ w.heap.size ≤ k_) ∧ some k_ ≠ (.slice Ao71 t110.length co71 : Value).ownBlock ∧ k_ ≠ gb101 ∧ k_ ≠ gb102 ∧ k_ ≠ gb113)) (vO HO129) hg hat)
  replace HB := Aside0.mk (hb)
  have HO132 := Aside0.mk (ho)
  clear HO124 ho hb hg hat
  obtain ⟨Ao80, co80, eo80⟩ := Kd.R_slice HO132.out
  (first | subst eo80 | (injection eo80 with f1_ f2_ f3_; have f4_ := f1_.symm; have f5_ := f3_.symm; clear f1_ f2_ f3_; subst f4_; subst f5_))
  refine kO 26 hK (fun hHeld => ?_)
  clear hK K
  refine pu 12 27 ?_
  refine last_ (i := 13) (N := none) #[true, true, true, true, true, true, true, true, true, true, true, true, true, true] rfl rfl (one_of HT_.out (by kernel_rfl)) z0_ (fun K hK => ?_)
  have hs81 : w79.cell? ⟨gb113, 3, none⟩ = some (.slice Ao70 t107.length co70) := (blk_cell BK113.out 3).trans rfl
  have hfs81 := blk_frozen BK113.out 3
  have hns81_0 := NB101_113.out
  have hns81_1 := NB102_113.out
  have hms81_0 := NB113_101.out
  have hms81_1 := NB113_102.out
  refine sk ?_
  refine hK.out _ _ ?_
  clear hK K
  refine done_ (done_of HT_.out (by kernel_rfl)) ?_
  have n0_ := sV ⟨gb113, 3, none⟩ (.slice Ao80 y130.length co80) HO0_1
  have n1_ := sV ⟨gb113, 3, none⟩ (.slice Ao80 y130.length co80) HL103_3
  have n2_ := sV ⟨gb113, 3, none⟩ (.slice Ao80 y130.length co80) HL103_4
  have n3_ := sV ⟨gb113, 3, none⟩ (.slice Ao80 y130.length co80) HO121
  have n4_ := sV ⟨gb113, 3, none⟩ (.slice Ao80 y130.length co80) HO129
  have n5_ := sR ⟨gb113, 3, none⟩ (.slice Ao80 y130.length co80) HO109 BK113
  have n6_ := sR ⟨gb113, 3, none⟩ (.slice Ao80 y130.length co80) HO112 BK113
  have n7_ := sR ⟨gb113, 3, none⟩ (.slice Ao80 y130.length co80) HO132 BK113
  have n8_ := sB ⟨gb113, 3, none⟩ (.slice Ao80 y130.length co80) BK101
  have n9_ := sB ⟨gb113, 3, none⟩ (.slice Ao80 y130.length co80) BK102
  have n10_ : Aside0 ((w79.setCell ⟨gb113, 3, none⟩ (.slice Ao80 y130.length co80)).heap[gb113]? = some (.cells #[.int .i64 t104, .string t105, .string t106, .slice Ao80 y130.length co80, .slice Ao71 t110.length co71] 117 (0, 0))) := ⟨kQ BK113⟩
  have n11_ := Aside0.mk (below_set (j := 3) (v := .slice Ao80 y130.length co80) HB.out GE113.out)
  clear HO0_1 HL103_3 HL103_4 HO121 HO129 HO109 HO112 HO132 BK101 BK102 BK113 HB
  generalize w79.setCell ⟨gb113, 3, none⟩ (.slice Ao80 y130.length co80) = w79 at n0_ n1_ n2_ n3_ n4_ n5_ n6_ n7_ n8_ n9_ n10_ n11_ ⊢
  have HO0_1 := n0_
  have HL103_3 := n1_
  have HL103_4 := n2_
  have HO121 := n3_
  have HO129 := n4_
  have HO109 := n5_
  have HO112 := n6_
  have HO132 := n7_
  have BK101 := n8_
  have BK102 := n9_
  have BK113 := n10_
  have HB := n11_
  clear n0_ n1_ n2_ n3_ n4_ n5_ n6_ n7_ n8_ n9_ n10_ n11_
  try go_wp2_with (first | ((with_reducible refine gate_dst (N := 28) rfl ?_); refine Kd.N_lit k117 _ 117 ?hg (N' := 28) ?hd (xs := ([] : List (S117))) (inner := []) (ok := (fun k_ => (P0_1_ k_ ∨ w.heap.size ≤ k_) ∧ some k_ ≠ (.slice Ao70 t107.length co70 : Value).ownBlock ∧ some k_ ≠ (.slice Ao71 t110.length co71 : Value).ownBlock ∧ some k_ ≠ (.slice Ao80 y130.length co80 : Value).ownBlock ∧ k_ ≠ gb101 ∧ k_ ≠ gb102 ∧ k_ ≠ gb113)) (okp := (fun k_ => (P0_1_ k_ ∨ w.heap.size ≤ k_) ∧ some k_ ≠ (.slice Ao70 t107.length co70 : Value).ownBlock ∧ some k_ ≠ (.slice Ao71 t110.length co71 : Value).ownBlock ∧ some k_ ≠ (.slice Ao80 y130.length co80 : Value).ownBlock ∧ k_ ≠ gb101 ∧ k_ ≠ gb102 ∧ k_ ≠ gb113)) ?hr ?hp (fun _ hk => hk) ((show ∀ k_, w79.heap.size ≤ k_ → (fun k_ => (P0_1_ k_ ∨ w.heap.size ≤ k_) ∧ some k_ ≠ (.slice Ao70 t107.length co70 : Value).ownBlock ∧ some k_ ≠ (.slice Ao71 t110.length co71 : Value).ownBlock ∧ some k_ ≠ (.slice Ao80 y130.length co80 : Value).ownBlock ∧ k_ ≠ gb101 ∧ k_ ≠ gb102 ∧ k_ ≠ gb113) k_ from fun k_ hk => ⟨(.inr (Nat.le_trans (bZ) hk)), Kd.fresh' (Kd.R_lt (fO HO109 BK113)) k_ hk, Kd.fresh' (Kd.R_lt (fO HO112 BK113)) k_ hk, Kd.fresh' (Kd.R_lt (fO HO132 BK113)) k_ hk, (kG BK101) k_ hk, (kG BK102) k_ hk, (kG BK113) k_ hk⟩) _ (Nat.le_refl _)) (Below.refl _ _) (Nat.le_refl _) (by simp) ?_; (case hd => rfl); (case hg => rfl); (case hr => first | (go_simp; done) | (go_simp; rfl)); (case hp => exact (Reps.none _ _)); intro v134 w82 ho83 hb hg_ hnew_; clear hg_ hnew_; (first | rw [← Ny133.out] at ho83 | (simp only [Int.reduceToNat] at ho83; rw [← Ny133.out] at ho83)); replace HO0_1 := Aside0.mk (Kd.V_elder' (fV HO0_1) (Kd.N_base ho83) hb); replace HL103_3 := Aside0.mk (Kd.V_elder' (fV HL103_3) (Kd.N_base ho83) hb); replace HL103_4 := Aside0.mk (Kd.V_elder' (fV HL103_4) (Kd.N_base ho83) hb); replace HO109 := fS HO109 BK113 hb; replace HO112 := fS HO112 BK113 hb; replace HO121 := Aside0.mk (Kd.V_elder' (fV HO121) (Kd.N_base ho83) hb); replace HO129 := Aside0.mk (Kd.V_elder' (fV HO129) (Kd.N_base ho83) hb); replace HO132 := fS HO132 BK113 hb; have HO135 := Aside0.mk (Kd.N_lower ho83 (bZ)); replace BK101 := kS BK101 hb; replace BK102 := kS BK102 hb; replace BK113 := kP (.cells #[.int .i64 t104, .string t105, .string t106, .slice Ao80 y130.length co80, .slice Ao71 t110.length co71] 117 (0, 0)) BK113 hb; replace HB := bS hb; clear hb ho83; have hcz84 := cz2 BK101.out; have hfz84 := fz2 BK101.out; have q85 : (a1 : Int) ≤ ((l0_1.length : Int) : Int) := of_decide_eq_true za; obtain ⟨i085, hi085, _, hsz85, _⟩ := info_parts info117; have hroom85 : l0_1.length ≤ c0_1 := (Kd.V_reads' HO0_1.out).2.1; have hC85 : Kd.F k117 _ _ (some ad103) l0_1.length l0_1 := (Kd.V_at (base := w.heap.size) HO0_1.out).2.2; have hcut85 := cut_to (P := Tryz.prog) 78 117 .i64 Tryz.underlying78 hi085 (some ad103) l0_1.length c0_1 a1 (of_decide_eq_true za) q85 hroom85; have hr85 := Kd.F_take (m := (a1 : Int).toNat) hC85 (by omega); have hy85 : y136.length = (a1 : Int).toNat := (by rw [Ny136.out, List.length_take]; omega); rw [← Ny136.out] at hr85; rw [← hy85] at hcut85; have HO140 := Aside0.mk (show Kd.V k117 117 _ w.heap.size _ (.slice (some ad103) y136.length c0_1) y136 from Kd.V_mk (by omega) hr85); have HC140 := Aside0.mk (show y136.length ≤ c0_1 from by omega); clear hr85 hC85 hroom85 hi085 hsz85; have KY85 := Aside0.mk hy85; clear hy85; replace q85 := eq_true q85) | ((with_reducible refine gate_builtin (b := .append) (xs := #[.tmp 28, .tmp 32]) rfl ?_); at_builtin; refine Kd.N_append_rows k117 (w0 := w) w.heap.size rfl (.tmp 28) (.tmp 32) 78 117 (.agg #[(.int .i64 0), (.string ⟨#[]⟩), (.string ⟨#[]⟩), (.slice none 0 0), (.slice none 0 0)]) 88 rfl Tryz.underlying78 info117 rfl z0_ (by omega) v134 y133 y136 _ _ _ (fun k_ => (P0_1_ k_ ∨ w.heap.size ≤ k_) ∧ some k_ ≠ (.slice Ao70 t107.length co70 : Value).ownBlock ∧ some k_ ≠ (.slice Ao71 t110.length co71 : Value).ownBlock ∧ some k_ ≠ (.slice Ao80 y130.length co80 : Value).ownBlock ∧ k_ ≠ gb101 ∧ k_ ≠ gb102 ∧ k_ ≠ gb113) (fun k_ => ((fun k_ => (P0_1_ k_ ∨ w.heap.size ≤ k_) ∧ some k_ ≠ (.slice Ao70 t107.length co70 : Value).ownBlock ∧ some k_ ≠ (.slice Ao71 t110.length co71 : Value).ownBlock ∧ some k_ ≠ (.slice Ao80 y130.length co80 : Value).ownBlock ∧ k_ ≠ gb101 ∧ k_ ≠ gb102 ∧ k_ ≠ gb113)) k_ ∧ some k_ ≠ (v134 : Value).ownBlock) rfl rfl ?aO ?aR (fun _ hk => hk) ?aF ?aB ?aS ?aL ?_; (case aR => exact (by skip; exact Kd.V_F (Kd.V_mono (ok' := (fun k_ => ((fun k_ => (P0_1_ k_ ∨ w.heap.size ≤ k_) ∧ some k_ ≠ (.slice Ao70 t107.length co70 : Value).ownBlock ∧ some k_ ≠ (.slice Ao71 t110.length co71 : Value).ownBlock ∧ some k_ ≠ (.slice Ao80 y130.length co80 : Value).ownBlock ∧ k_ ≠ gb101 ∧ k_ ≠ gb102 ∧ k_ ≠ gb113)) k_ ∧ some k_ ≠ (v134 : Value).ownBlock)) (HO140.out) (fun k_ hk => ⟨⟨hk.1.1.1, ⟨hk.1.1.2.1, ⟨hk.1.1.2.2.1, ⟨hk.1.2, ⟨hk.1.1.2.2.2.1, ⟨hk.1.1.2.2.2.2.1, hk.1.1.2.2.2.2.2⟩⟩⟩⟩⟩⟩, hk.2⟩)))); (case aB => exact zB); (case aF => exact (fun k_ hk => ⟨(.inr (Nat.le_trans (bZ) hk)), Kd.fresh' (Kd.R_lt (rO HO109)) k_ hk, Kd.fresh' (Kd.R_lt (rO HO112)) k_ hk, Kd.fresh' (Kd.R_lt (rO HO132)) k_ hk, (kG BK101) k_ hk, (kG BK102) k_ hk, (kG BK113) k_ hk⟩)); (case aO => exact (nO HO135)); (case aS => exact (bZ)); (case aL => have := LMc16.out; omega); intro v142 w86 ho hb hg hat; rw [← Ny141.out] at ho; have n0_ := Aside0.mk (Kd.V_afterv (ok := (fun k_ => (P0_1_ k_ ∨ w.heap.size ≤ k_) ∧ some k_ ≠ (.slice Ao70 t107.length co70 : Value).ownBlock ∧ some k_ ≠ (.slice Ao71 t110.length co71 : Value).ownBlock ∧ some k_ ≠ (.slice Ao80 y130.length co80 : Value).ownBlock ∧ k_ ≠ gb101 ∧ k_ ≠ gb102 ∧ k_ ≠ gb113)) (fV HO0_1) hg hat); have n1_ := bN BK101 HO135 hg; have n2_ := bN BK102 HO135 hg; have n3_ := Aside0.mk (Kd.V_afterv (ok := (fun k_ => (P0_1_ k_ ∨ w.heap.size ≤ k_) ∧ some k_ ≠ (.slice Ao70 t107.length co70 : Value).ownBlock ∧ some k_ ≠ (.slice Ao71 t110.length co71 : Value).ownBlock ∧ some k_ ≠ (.slice Ao80 y130.length co80 : Value).ownBlock ∧ k_ ≠ gb101 ∧ k_ ≠ gb102 ∧ k_ ≠ gb113)) (fV HL103_3) hg hat); have n4_ := Aside0.mk (Kd.V_afterv (ok := (fun k_ => (P0_1_ k_ ∨ w.heap.size ≤ k_) ∧ some k_ ≠ (.slice Ao70 t107.length co70 : Value).ownBlock ∧ some k_ ≠ (.slice Ao71 t110.length co71 : Value).ownBlock ∧ some k_ ≠ (.slice Ao80 y130.length co80 : Value).ownBlock ∧ k_ ≠ gb101 ∧ k_ ≠ gb102 ∧ k_ ≠ gb113)) (fV HL103_4) hg hat); have n5_ := Aside0.mk (Kd.R_over' (rO HO109) (Kd.N_typed (nO HO135)) z0_ hg); have n6_ := Aside0.mk (Kd.R_over' (rO HO112) (Kd.N_typed (nO HO135)) z0_ hg); have n7_ := Aside0.mk (blk_grown (g := gb113) (o := .cells #[.int .i64 t104, .string t105, .string t106, .slice Ao80 y130.length co80, .slice Ao71 t110.length co71] 117 (0, 0)) (kQ BK113) hg (Kd.N_away HO135.out (fun _ hk => hk.2.2.2.2.2.2))); have n8_ := Aside0.mk (Kd.V_afterv (ok := (fun k_ => (P0_1_ k_ ∨ w.heap.size ≤ k_) ∧ some k_ ≠ (.slice Ao71 t110.length co71 : Value).ownBlock ∧ some k_ ≠ (.slice Ao80 y130.length co80 : Value).ownBlock ∧ k_ ≠ gb101 ∧ k_ ≠ gb102 ∧ k_ ≠ gb113)) (fV HO121) hg hat); have n9_ := Aside0.mk (Kd.V_afterv (ok := (fun k_ => (P0_1_ k_ ∨ w.heap.size ≤ k_) ∧ some k_ ≠ (.slice Ao71 t110.length co71 : Value).ownBlock ∧ some k_ ≠ (.slice Ao80 y130.length co80 : Value).ownBlock ∧ k_ ≠ gb101 ∧ k_ ≠ gb102 ∧ k_ ≠ gb113)) (fV HO129) hg hat); have n10_ := Aside0.mk (Kd.R_over' (rO HO132) (Kd.N_typed (nO HO135)) z0_ hg); have n11_ := Aside0.mk (Kd.V_afterv (ok := (fun k_ => (P0_1_ k_ ∨ w.heap.size ≤ k_) ∧ some k_ ≠ (.slice Ao70 t107.length co70 : Value).ownBlock ∧ some k_ ≠ (.slice Ao71 t110.length co71 : Value).ownBlock ∧ some k_ ≠ (.slice Ao80 y130.length co80 : Value).ownBlock ∧ k_ ≠ gb101 ∧ k_ ≠ gb102 ∧ k_ ≠ gb113)) (fV HO140) hg hat); have n12_ := Aside0.mk (hb); have n13_ := Aside0.mk (ho); clear HO0_1 BK101 BK102 HL103_3 HL103_4 HO109 HO112 BK113 HO121 HO129 HO132 HO140 HB HO135; have HO0_1 := n0_; have BK101 := n1_; have BK102 := n2_; have HL103_3 := n3_; have HL103_4 := n4_; have HO109 := n5_; have HO112 := n6_; have BK113 := n7_; have HO121 := n8_; have HO129 := n9_; have HO132 := n10_; have HO140 := n11_; have HB := n12_; have HO143 := n13_; clear n0_ n1_ n2_ n3_ n4_ n5_ n6_ n7_ n8_ n9_ n10_ n11_ n12_ n13_ ho hb hg hat; have hcz87 := cz5 BK113.out; have hfz87 := fz5 BK113.out; have hcz88 := cz2 BK101.out; have hfz88 := fz2 BK101.out; have q89 : ((ji57) : Int) ≤ ((l0_1.length : Int) : Int) := of_decide_eq_true za; obtain ⟨i089, hi089, _, hsz89, _⟩ := info_parts info117; have hroom89 : l0_1.length ≤ c0_1 := (Kd.V_reads' HO0_1.out).2.1; have hC89 : Kd.F k117 _ _ (some ad103) l0_1.length l0_1 := (Kd.V_at (base := w.heap.size) HO0_1.out).2.2; have q089 : (0 : Int) ≤ ((ji57) : Int) := of_decide_eq_true za; have hcut89 := cut_from (P := Tryz.prog) 78 117 .i64 Tryz.underlying78 hi089 5 hsz89 (some ad103) l0_1.length c0_1 (ji57) q089 q89; have hr89 := Kd.F_cut (m := ((ji57) : Int).toNat) (c := c0_1) hC89 (by omega) hroom89; obtain ⟨A89, hA89⟩ : ∃ A1, A1 = (if c0_1 = ((ji57) : Int).toNat then (some ad103) else ((some ad103) : Option Addr).map (·.add (((ji57) : Int).toNat * 5))) := ⟨_, rfl⟩; obtain ⟨c89, hc89⟩ : ∃ c1, c1 = c0_1 - ((ji57) : Int).toNat := ⟨_, rfl⟩; have hy89 : y155.length = l0_1.length - ((ji57) : Int).toNat := (by rw [Ny155.out, List.length_drop] <;> omega); rw [show (l0_1).drop ((ji57) : Int).toNat = y155 from Ny155.out.symm] at hr89; replace hr89 : Kd.F k117 _ _ A89 y155.length y155 := (by rw [hA89]; exact hr89); rw [← hy89, ← hA89, ← hc89] at hcut89; have HO159 := Aside0.mk (show Kd.V k117 117 _ w.heap.size _ (.slice A89 y155.length c89) y155 from Kd.V_mk (by rw [hy89, hc89]; exact Nat.sub_le_sub_right hroom89 _) hr89); have HC159 := Aside0.mk (show y155.length ≤ c89 from by rw [hy89, hc89]; exact Nat.sub_le_sub_right hroom89 _); clear hr89 hC89 hroom89 hi089 hsz89 hc89; have KY89 := Aside0.mk hy89; have KA89 := Aside0.mk hA89; clear hy89 hA89; replace q89 := eq_true q89) | ((with_reducible refine gate_builtin (b := .append) (xs := #[.tmp 42, .tmp 47]) rfl ?_); at_builtin; refine Kd.N_append_rows k117 (w0 := w) w.heap.size rfl (.tmp 42) (.tmp 47) 78 117 (.agg #[(.int .i64 0), (.string ⟨#[]⟩), (.string ⟨#[]⟩), (.slice none 0 0), (.slice none 0 0)]) 88 rfl Tryz.underlying78 info117 rfl z0_ (by omega) v142 y141 y155 _ _ _ (fun k_ => (P0_1_ k_ ∨ w.heap.size ≤ k_) ∧ some k_ ≠ (.slice Ao70 t107.length co70 : Value).ownBlock ∧ some k_ ≠ (.slice Ao71 t110.length co71 : Value).ownBlock ∧ some k_ ≠ (.slice Ao80 y130.length co80 : Value).ownBlock ∧ k_ ≠ gb101 ∧ k_ ≠ gb102 ∧ k_ ≠ gb113) (fun k_ => ((fun k_ => (P0_1_ k_ ∨ w.heap.size ≤ k_) ∧ some k_ ≠ (.slice Ao70 t107.length co70 : Value).ownBlock ∧ some k_ ≠ (.slice Ao71 t110.length co71 : Value).ownBlock ∧ some k_ ≠ (.slice Ao80 y130.length co80 : Value).ownBlock ∧ k_ ≠ gb101 ∧ k_ ≠ gb102 ∧ k_ ≠ gb113)) k_ ∧ some k_ ≠ (v142 : Value).ownBlock) rfl rfl ?aO ?aR (fun _ hk => hk) ?aF ?aB ?aS ?aL ?_; (case aR => exact (by skip; exact Kd.V_F (Kd.V_mono (ok' := (fun k_ => ((fun k_ => (P0_1_ k_ ∨ w.heap.size ≤ k_) ∧ some k_ ≠ (.slice Ao70 t107.length co70 : Value).ownBlock ∧ some k_ ≠ (.slice Ao71 t110.length co71 : Value).ownBlock ∧ some k_ ≠ (.slice Ao80 y130.length co80 : Value).ownBlock ∧ k_ ≠ gb101 ∧ k_ ≠ gb102 ∧ k_ ≠ gb113)) k_ ∧ some k_ ≠ (v142 : Value).ownBlock)) (HO159.out) (fun k_ hk => ⟨⟨hk.1.1, ⟨hk.1.2.1, ⟨hk.1.2.2.1, ⟨hk.1.2.2.2.1, ⟨hk.1.2.2.2.2.1, ⟨hk.1.2.2.2.2.2.1, hk.1.2.2.2.2.2.2⟩⟩⟩⟩⟩⟩, hk.2⟩)))); (case aB => exact zB); (case aF => exact (fun k_ hk => ⟨(.inr (Nat.le_trans (bZ) hk)), Kd.fresh' (Kd.R_lt (rO HO109)) k_ hk, Kd.fresh' (Kd.R_lt (rO HO112)) k_ hk, Kd.fresh' (Kd.R_lt (rO HO132)) k_ hk, (kG BK101) k_ hk, (kG BK102) k_ hk, (kG BK113) k_ hk⟩)); (case aO => exact (nO HO143)); (case aS => exact (bZ)); (case aL => have := LMc60.out; omega); intro v161 w90 ho hb hg hat; rw [← Ny160.out] at ho; have n0_ := Aside0.mk (Kd.V_afterv (ok := (fun k_ => (P0_1_ k_ ∨ w.heap.size ≤ k_) ∧ some k_ ≠ (.slice Ao70 t107.length co70 : Value).ownBlock ∧ some k_ ≠ (.slice Ao71 t110.length co71 : Value).ownBlock ∧ some k_ ≠ (.slice Ao80 y130.length co80 : Value).ownBlock ∧ k_ ≠ gb101 ∧ k_ ≠ gb102 ∧ k_ ≠ gb113)) (vO HO0_1) hg hat); have n1_ := bN BK101 HO143 hg; have n2_ := bN BK102 HO143 hg; have n3_ := Aside0.mk (Kd.V_afterv (ok := (fun k_ => (P0_1_ k_ ∨ w.heap.size ≤ k_) ∧ some k_ ≠ (.slice Ao70 t107.length co70 : Value).ownBlock ∧ some k_ ≠ (.slice Ao71 t110.length co71 : Value).ownBlock ∧ some k_ ≠ (.slice Ao80 y130.length co80 : Value).ownBlock ∧ k_ ≠ gb101 ∧ k_ ≠ gb102 ∧ k_ ≠ gb113)) (vO HL103_3) hg hat); have n4_ := Aside0.mk (Kd.V_afterv (ok := (fun k_ => (P0_1_ k_ ∨ w.heap.size ≤ k_) ∧ some k_ ≠ (.slice Ao70 t107.length co70 : Value).ownBlock ∧ some k_ ≠ (.slice Ao71 t110.length co71 : Value).ownBlock ∧ some k_ ≠ (.slice Ao80 y130.length co80 : Value).ownBlock ∧ k_ ≠ gb101 ∧ k_ ≠ gb102 ∧ k_ ≠ gb113)) (vO HL103_4) hg hat); have n5_ := Aside0.mk (Kd.R_over' (rO HO109) (Kd.N_typed (nO HO143)) z0_ hg); have n6_ := Aside0.mk (Kd.R_over' (rO HO112) (Kd.N_typed (nO HO143)) z0_ hg); have n7_ := Aside0.mk (blk_grown (g := gb113) (o := .cells #[.int .i64 t104, .string t105, .string t106, .slice Ao80 y130.length co80, .slice Ao71 t110.length co71] 117 (0, 0)) (kQ BK113) hg (Kd.N_away HO143.out (fun _ hk => hk.2.2.2.2.2.2))); have n8_ := Aside0.mk (Kd.V_afterv (ok := (fun k_ => (P0_1_ k_ ∨ w.heap.size ≤ k_) ∧ some k_ ≠ (.slice Ao71 t110.length co71 : Value).ownBlock ∧ some k_ ≠ (.slice Ao80 y130.length co80 : Value).ownBlock ∧ k_ ≠ gb101 ∧ k_ ≠ gb102 ∧ k_ ≠ gb113)) (vO HO121) hg hat); have n9_ := Aside0.mk (Kd.V_afterv (ok := (fun k_ => (P0_1_ k_ ∨ w.heap.size ≤ k_) ∧ some k_ ≠ (.slice Ao71 t110.length co71 : Value).ownBlock ∧ some k_ ≠ (.slice Ao80 y130.length co80 : Value).ownBlock ∧ k_ ≠ gb101 ∧ k_ ≠ gb102 ∧ k_ ≠ gb113)) (vO HO129) hg hat); have n10_ := Aside0.mk (Kd.R_over' (rO HO132) (Kd.N_typed (nO HO143)) z0_ hg); have n11_ := Aside0.mk (Kd.V_afterv (ok := (fun k_ => (P0_1_ k_ ∨ w.heap.size ≤ k_) ∧ some k_ ≠ (.slice Ao70 t107.length co70 : Value).ownBlock ∧ some k_ ≠ (.slice Ao71 t110.length co71 : Value).ownBlock ∧ some k_ ≠ (.slice Ao80 y130.length co80 : Value).ownBlock ∧ k_ ≠ gb101 ∧ k_ ≠ gb102 ∧ k_ ≠ gb113)) (vO HO140) hg hat); have n12_ := Aside0.mk (Kd.V_afterv (ok := (fun k_ => (P0_1_ k_ ∨ w.heap.size ≤ k_) ∧ some k_ ≠ (.slice Ao70 t107.length co70 : Value).ownBlock ∧ some k_ ≠ (.slice Ao71 t110.length co71 : Value).ownBlock ∧ some k_ ≠ (.slice Ao80 y130.length co80 : Value).ownBlock ∧ k_ ≠ gb101 ∧ k_ ≠ gb102 ∧ k_ ≠ gb113)) (vO HO159) hg hat); have n13_ := Aside0.mk (hb); have n14_ := Aside0.mk (ho); clear HO0_1 BK101 BK102 HL103_3 HL103_4 HO109 HO112 BK113 HO121 HO129 HO132 HO140 HO159 HB HO143; have HO0_1 := n0_; have BK101 := n1_; have BK102 := n2_; have HL103_3 := n3_; have HL103_4 := n4_; have HO109 := n5_; have HO112 := n6_; have BK113 := n7_; have HO121 := n8_; have HO129 := n9_; have HO132 := n10_; have HO140 := n11_; have HO159 := n12_; have HB := n13_; have HO162 := n14_; clear n0_ n1_ n2_ n3_ n4_ n5_ n6_ n7_ n8_ n9_ n10_ n11_ n12_ n13_ n14_ ho hb hg hat; obtain ⟨Ao91, co91, eo91⟩ := Kd.N_slice HO162.out; subst eo91; have hcz92 := cz2 BK101.out; have hfz92 := fz2 BK101.out; have hcz93 := cz2 BK102.out; have hfz93 := fz2 BK102.out))
  refine bodyPost_ret (results_cell_row rfl _ _ gb102 80 #[.int .i64 a0_0, .slice Ao91 y160.length co91] (0, 0) _ rfl (kQ BK102) Tryz.underlying80 rfl (by kernel_rfl)) rfl ?_
  exact ⟨_, by first | rfl | (simp [errW_none, errW_some] <;> rfl) | (simp only [← hji10, ← hji57]; first | rfl | (simp [errW_none, errW_some] <;> rfl)) | (simp [*, errW_none, errW_some] <;> rfl), fN HO162, zB⟩
end Go.Proofs.YtbncnjgflhoneaaGreatDoor.F
