/- Of this claim, merged by program: F98, F50, HOf. -/
import Derived.Test.YtbncnjgflhoneaaGreatDoorM02
import Derived.Test.YtbncnjgflhoneaaGreatDoorM04
import Derived.Test.YtbncnjgflhoneaaGreatDoorM05
import Derived.Test.YtbncnjgflhoneaaGreatDoorM06
import Derived.Test.YtbncnjgflhoneaaGreatDoorM07
import Derived.Test.YtbncnjgflhoneaaGreatDoorM08
import Derived.Test.YtbncnjgflhoneaaGreatDoorM10
namespace Go.Proofs.YtbncnjgflhoneaaGreatDoor.F
open Go.RowKit Go.Proofs.YtbncnjgflhoneaaGreatDoor.Hand Go.Proofs.YtbncnjgflhoneaaGreatDoorW.PrintWords Go.Proofs.YtbncnjgflhoneaaGreatDoorW.PrintLast Go.Proofs.YtbncnjgflhoneaaGreatDoorW.PrintMore
set_option linter.unusedVariables false
set_option linter.unusedSimpArgs false
def spec_l5Copy.l0 : Nat → Int → Int → List (S117) → Int → List (S117) → Option (Int × (List (S117)))
 | 0, _, _, _, _, _ => none
 | k + 1, x4, x102000, x102001, x104000, x104001 => if x4 < (x102001.length : Int) then (if 0 ≤ x4 then ((spec_l5CopyItem.f ((rd_T117 x102001 x4).f0) ((rd_T117 x102001 x4).f1.f0) ((rd_T117 x102001 x4).f1.f1) ((rd_T117 x102001 x4).f2) ((rd_T117 x102001 x4).f3)).bind fun bt105 => (if x104001.length < 1599289640401 then (spec_l5Copy.l0 k (wrap64 (x4 + 1)) x102000 x102001 x104000 (x104001 ++ [(⟨bt105.1, (⟨bt105.2.1, bt105.2.2.1⟩ : S32), bt105.2.2.2.1, bt105.2.2.2.2⟩ : S117)])) else (none))) else (none)) else (some (x104000, x104001))
def spec_l5Copy.f (k : Nat) (a0_0 : Int) (l0_1 : List (S117)) : Option (Int × (List (S117))) := spec_l5Copy.l0 k 0 a0_0 l0_1 a0_0 ([] : List (S117))
def spec_l5Copy.T5 : Bool × List (List Nat × List Nat) := (true, [([], []), ([0], [0]), ([], []), ([2], [2]), ([], []), ([3, 4], [3, 4]), ([5], [5]), ([6], [6]), ([7], [7]), ([1, 8, 7], [1, 8]), ([0, 1, 2, 3, 4, 5, 6, 7, 8, 9], []), ([10, 9, 9, 0, 1, 2, 3, 4, 5, 6, 7, 8, 9], [9, 10])])
def spec_l5Copy.B5 : List Nat := [0, 1, 0, 4, 0, 28, 60, 124, 252, 511, 1023, 2047]
theorem spec_l5Copy.tab5 : rtab .any (opsOf Tryz.f98 5) = spec_l5Copy.T5 := by kernel_rfl
theorem spec_l5Copy.bits5 : waitsOk spec_l5Copy.T5.2 spec_l5Copy.B5 = true := by kernel_rfl
set_option maxHeartbeats 8000000 in
set_option maxRecDepth 100000 in
theorem spec_l5Copy.calls (k : Nat) (a0_0 : Int) (A0_1 : Option Addr) (c0_1 : Nat) (l0_1 : List (S117)) (r1 : Int) (r2 : List (S117)) (w : World) (hr0_1 : Kd.C k117 w A0_1 l0_1.length l0_1) (hc0_1 : l0_1.length ≤ c0_1) (h : spec_l5Copy.f k a0_0 l0_1 = some (r1, r2)) :
  Calls Tryz.prog 98 #[.agg #[.int .i64 a0_0, .slice A0_1 l0_1.length c0_1]] w fun e w' => ∃ v1_ : Value, e = .returned (.agg #[.int .i64 r1, v1_]) ∧ Kd.S k117 117 w' w.heap.size (fun _ => True) v1_ r2 ∧ Below w.heap.size w w' := by
 have hu80 := Tryz.underlying80
 have hu117 := Tryz.underlying117
 have HR0_1 := Aside0.mk hr0_1
 have HC0_1 := Aside0.mk hc0_1
 clear hr0_1 hc0_1
 have HB := Aside0.mk (Below.refl w.heap.size w)
 have H := h
 clear h
 unfold spec_l5Copy.f at H
 have H' := Aside0.mk H
 clear H
 go_enter Tryz.func98, Tryz.ntmps98
 go_wp2_with (first | ((with_reducible refine gate_dst (N := 1) rfl ?_); refine bx (cs := #[.int .i64 a0_0, .slice A0_1 l0_1.length c0_1]) (t := 80) ?_; intro gb101 hg w2 hbox hb; have BK101 := Aside0.mk (hbox); have GW101 := gS hg; have GE101 := gS hg; replace HB := bS hb; clear hb hbox hg) | ((with_reducible refine gate_dst (N := 2) rfl ?_); refine bx (cs := #[.int .i64 0, .slice none 0 0]) (t := 80) ?_; intro gb102 hg w3 hbox hb; have BK102 := Aside0.mk (hbox); have GW102 := gS hg; have GE102 := gS hg; have NB101_102 := nS hg BK101; have NB102_101 := nG hg BK101; replace BK101 := kS BK101 hb; replace HB := bS hb; clear hb hbox hg; have hnb4 := NB101_102.out; have hnc4 := NB102_101.out; have hcz5 := cz2 BK101.out; have hfz5 := fz2 BK101.out) | ((with_reducible refine gate_dst (N := 3) rfl ?_); refine bx (cs := #[.int .i64 0, .slice none 0 0]) (t := 80) ?_; intro gb103 hg w6 hbox hb; have BK103 := Aside0.mk (hbox); have GW103 := gS hg; have GE103 := gS hg; have NB101_103 := nS hg BK101; have NB103_101 := nG hg BK101; replace BK101 := kS BK101 hb; have NB102_103 := nS hg BK102; have NB103_102 := nG hg BK102; replace BK102 := kS BK102 hb; replace HB := bS hb; clear hb hbox hg; have hnb7 := NB103_101.out; have hnc7 := NB101_103.out; have hnb8 := NB103_102.out; have hnc8 := NB102_103.out; have hcz9 := cz2 BK103.out; have hfz9 := fz2 BK103.out))
 go_loopg [4] k (fun kq v4 w' => ∃ (x4_1 : Int) (x104001_1 : List (S117)) (u104001 : Value), v4 = .int .i64 x4_1 ∧ Aside0 (spec_l5Copy.l0 kq x4_1 a0_0 l0_1 a0_0 x104001_1 = some (r1, r2)) ∧ Aside0 (kq ≤ k) ∧ Aside0 (Kd.S k117 117 w' w.heap.size (fun _ => True) u104001 x104001_1) ∧ Aside0 (w'.heap[gb101]? = some (.cells #[.int .i64 a0_0, (.slice A0_1 l0_1.length c0_1)] 80 (0, 0))) ∧ Aside0 (w'.heap[gb102]? = some (.cells #[.int .i64 0, (.slice none 0 0)] 80 (0, 0))) ∧ Aside0 (w'.heap[gb103]? = some (.cells #[.int .i64 a0_0, u104001] 80 (0, 0))) ∧ Aside0 (Below w.heap.size w w'))
 case atStart => exact ⟨(0), (([] : List (S117))), (.slice none 0 0), zs, H', ⟨Nat.le_refl _⟩, ⟨by first | exact Kd.S_nil _ _ _ _ _ | exact Kd.N_nil _ _ _ _ _ | exact Kd.V_nil _ _ _ _ _ | exact Kd.Q_nil _ _ _ _ _ | exact Kd.R_nil _ _ _ _ _⟩, ⟨kQ BK101⟩, ⟨kQ BK102⟩, ⟨kQ BK103⟩, ⟨zB⟩⟩
 case round =>
  clear H'
  obtain ⟨x4_1, x104001_1, u104001, rfl, HA, HK1, HO_104001, BK101, BK102, BK103, HB⟩ := hrel
  cases gk with
  | zero => exact absurd HA.out (by simp [spec_l5Copy.l0])
  | succ k1 =>
   have H := HA.out
   clear HA
   simp only [spec_l5Copy.l0] at H
   replace H := its_d_d H; rcases H with ⟨c10b0, H⟩ | ⟨c10b0, H⟩
   ·replace H := itn_d H; obtain ⟨c11b0, H⟩ := H
    replace H := bnd H; obtain ⟨⟨t105, t106, t107, t108, t111⟩, A12, H⟩ := H
    dsimp only at H
    replace H := itn_L H; obtain ⟨LMc13, H⟩ := H
    first | (with_reducible replace H := bne (x104001_1 ++ [(⟨t105, (⟨t106, t107⟩ : S32), t108, t111⟩ : S117)] : List (S117)) H; obtain ⟨y114, Ny114, H⟩ := H) | (generalize hy_ : (x104001_1 ++ [(⟨t105, (⟨t106, t107⟩ : S32), t108, t111⟩ : S117)] : List (S117)) = y114 at H; have Ny114 := Aside0.mk hy_.symm; clear hy_)
    have H' := Aside0.mk H
    clear H
    have hnb14 := NB101_102.out
    have hnc14 := NB102_101.out
    have hnb15 := NB101_103.out
    have hnc15 := NB103_101.out
    have hcz16 := cz2 BK101.out
    have hfz16 := fz2 BK101.out
    try go_wp2
    replace HO_104001 := Aside0.mk (Kd.S_drew HO_104001.out)
    replace BK101 := Aside0.mk (blk_drew BK101.out)
    replace BK102 := Aside0.mk (blk_drew BK102.out)
    replace BK103 := Aside0.mk (blk_drew BK103.out)
    replace HB := Aside0.mk (below_drew1 HB.out)
    have p104 : 0 ≤ (x4_1 : Int) := of_decide_eq_true za
    have q104 : x4_1 < (l0_1.length : Int) := of_decide_eq_true za
    obtain ⟨ad104, A104_3, c104_3, A104_4, c104_4, e104, hx104_0, hx104_1, hx104_2, hx104_3, hx104_4, hl104_3, hi104_3, hl104_4, hi104_4⟩ := at_T117 HR0_1.out x4_1 p104 q104
    have hw104_4 := hx104_4
    have hw104_3 := hx104_3
    have hw104_2 := hx104_2
    have hw104_1 := hx104_1
    have hw104_0 := hx104_0
    cases e104
    replace hx104_0 := kx HB hx104_0
    replace hx104_1 := kx HB hx104_1
    replace hx104_2 := kx HB hx104_2
    replace hx104_3 := kx HB hx104_3
    replace hx104_4 := kx HB hx104_4
    have HR104_3 := Aside0.mk hi104_3
    have HC104_3 := Aside0.mk hl104_3
    clear hi104_3 hl104_3
    have HR104_4 := Aside0.mk hi104_4
    have HC104_4 := Aside0.mk hl104_4
    clear hi104_4 hl104_4
    replace p104 := eq_true p104
    replace q104 := eq_true q104
    refine start_ (n := 12) (S := fun w' => w'.cell? ⟨gb103, 0, none⟩ = some (.int .i64 a0_0) ∧ w'.cell? ⟨gb103, 1, none⟩ = some (u104001) ∧ w'.cell? ⟨gb101, 0, none⟩ = some (.int .i64 a0_0) ∧ w'.cell? ⟨gb101, 1, none⟩ = some (.slice (some ad104) l0_1.length c0_1) ∧ w'.cell? (ad104.add ((x4_1).toNat * 5)) = some (.int .i64 ((rd_T117 l0_1 x4_1).f0)) ∧ w'.cell? ⟨(ad104.add ((x4_1).toNat * 5)).block, (ad104.add ((x4_1).toNat * 5)).off + 1, none⟩ = some (.string ((rd_T117 l0_1 x4_1).f1.f0)) ∧ w'.cell? ⟨(ad104.add ((x4_1).toNat * 5)).block, (ad104.add ((x4_1).toNat * 5)).off + 2, none⟩ = some (.string ((rd_T117 l0_1 x4_1).f1.f1)) ∧ w'.cell? ⟨(ad104.add ((x4_1).toNat * 5)).block, (ad104.add ((x4_1).toNat * 5)).off + 3, none⟩ = some (.slice A104_3 ((rd_T117 l0_1 x4_1).f2).length c104_3) ∧ w'.cell? ⟨(ad104.add ((x4_1).toNat * 5)).block, (ad104.add ((x4_1).toNat * 5)).off + 4, none⟩ = some (.slice A104_4 ((rd_T117 l0_1 x4_1).f3).length c104_4)) (ds := [11]) #[false, false, false, false, false, false, false, false, false, false, false, false] (by kernel_rfl) rfl rfl ⟨(blk_cell BK103.out 0).trans rfl, (blk_cell BK103.out 1).trans rfl, (blk_cell BK101.out 0).trans rfl, (blk_cell BK101.out 1).trans rfl, (kx HB hw104_0), (kx HB hw104_1), (kx HB hw104_2), (kx HB hw104_3), (kx HB hw104_4)⟩ (fun hHeld => ?_); refine with_tabW spec_l5Copy.tab5 spec_l5Copy.bits5 (fun HT_ HW_ => ?_)
    generalize wr.drew = w17 at HO_104001 BK101 BK102 BK103 HB HR104_3 HR104_4 hx104_0 hx104_1 hx104_2 hx104_3 hx104_4 hHeld ⊢
    refine pu 0 15 ?_
    refine pu 2 17 ?_
    refine pu 4 19 ?_
    refine ta 1 16 ?_
    refine ta 3 18 ?_
    refine pu 5 20 ?_
    refine ta 6 21 ?_
    refine on 7 (some 22) (fun K hK => ?_)
    refine goes_ Tryz.func132 (by kernel_rfl) rfl #[.agg #[.int .i64 ((rd_T117 l0_1 x4_1).f0), .string ((rd_T117 l0_1 x4_1).f1.f0), .string ((rd_T117 l0_1 x4_1).f1.f1), .slice A104_3 ((rd_T117 l0_1 x4_1).f2).length c104_3, .slice A104_4 ((rd_T117 l0_1 x4_1).f3).length c104_4]] (by rfl) rfl rfl zm ?_
    with_reducible refine (spec_l5CopyItem.calls ((rd_T117 l0_1 x4_1).f0) ((rd_T117 l0_1 x4_1).f1.f0) ((rd_T117 l0_1 x4_1).f1.f1) _ _ ((rd_T117 l0_1 x4_1).f2) _ _ ((rd_T117 l0_1 x4_1).f3) t105 t106 t107 t108 t111 _ ?side1 ?side2 ?side3 ?side4 A12.out).mono ?_
    (case side1 => exact (by repeat (first | exact (Kd.C_below HR104_3.out HB.out) | (with_reducible refine Kd.C_alloc ?_ _) | (with_reducible refine Kd.C_drewN ?_ _) | (with_reducible refine Kd.C_drew ?_))))
    (case side2 => exact HC104_3.out)
    (case side3 => exact (by repeat (first | exact (Kd.C_below HR104_4.out HB.out) | (with_reducible refine Kd.C_alloc ?_ _) | (with_reducible refine Kd.C_drewN ?_ _) | (with_reducible refine Kd.C_drew ?_))))
    (case side4 => exact HC104_4.out)
    rintro e w18 ⟨v109, v112, rfl, ho0, ho1, hb⟩
    refine ⟨_, rfl, ?_⟩
    replace HO_104001 := Aside0.mk (Kd.S_mono (Kd.S_told (Kd.S_told (Kd.S_old (by (with_reducible repeat (first | apply Kd.S_alloc | apply Kd.S_drewN | apply Kd.S_drew)); exact HO_104001.out) hb) (Kd.R_base ho0)) (Kd.R_base ho1)) (fun _ h_ => h_.1))
    have HO110 := lS ho0
    have HO113 := lS ho1
    replace BK101 := kS BK101 hb
    replace BK102 := kS BK102 hb
    replace BK103 := kS BK103 hb
    replace HB := bS hb
    (try clear hb)
    (try clear hb2)
    (try clear hk)
    (try clear hi)
    (try clear ho0)
    (try clear ho1)
    obtain ⟨Ao20, co20, eo20⟩ := Kd.R_slice HO110.out
    (first | subst eo20 | (injection eo20 with f1_ f2_ f3_; have f4_ := f1_.symm; have f5_ := f3_.symm; clear f1_ f2_ f3_; subst f4_; subst f5_))
    obtain ⟨Ao21, co21, eo21⟩ := Kd.R_slice HO113.out
    (first | subst eo21 | (injection eo21 with f1_ f2_ f3_; have f4_ := f1_.symm; have f5_ := f3_.symm; clear f1_ f2_ f3_; subst f4_; subst f5_))
    refine kO 22 hK (fun hHeld => ?_) ⟨(blk_cell BK103.out 0).trans rfl, (blk_cell BK103.out 1).trans rfl, (blk_cell BK101.out 0).trans rfl, (blk_cell BK101.out 1).trans rfl, (kx HB hw104_0), (kx HB hw104_1), (kx HB hw104_2), (kx HB hw104_3), (kx HB hw104_4)⟩
    clear hK K
    refine on 8 (some 23) (fun K hK => ?_)
    refine value_ (w1 := ?_) (v := ?_) (by rfl) rfl ?_ ?_
    rotate_left 2
    ·go_simp
     constructor
     ·rfl
     ·rfl
    refine kO 23 hK (fun hHeld => ?_) ⟨(blk_cell (blk_alloc BK103.out _) 0).trans rfl, (blk_cell (blk_alloc BK103.out _) 1).trans rfl, (blk_cell (blk_alloc BK101.out _) 0).trans rfl, (blk_cell (blk_alloc BK101.out _) 1).trans rfl, (World.cell?_alloc_lt _ _ _ (World.block_lt_of_cell? _ _ ((kx HB hw104_0)))).trans ((kx HB hw104_0)), (World.cell?_alloc_lt _ _ _ (World.block_lt_of_cell? _ _ ((kx HB hw104_1)))).trans ((kx HB hw104_1)), (World.cell?_alloc_lt _ _ _ (World.block_lt_of_cell? _ _ ((kx HB hw104_2)))).trans ((kx HB hw104_2)), (World.cell?_alloc_lt _ _ _ (World.block_lt_of_cell? _ _ ((kx HB hw104_3)))).trans ((kx HB hw104_3)), (World.cell?_alloc_lt _ _ _ (World.block_lt_of_cell? _ _ ((kx HB hw104_4)))).trans ((kx HB hw104_4))⟩
    clear hK K
    refine on 9 (some 24) (fun K hK => ?_)
    refine Kd.S_append_step k117 (w0 := w) w.heap.size (by rfl) (.tmp 16) (.tmp 23) 78 117 (.agg #[(.int .i64 0), (.string ⟨#[]⟩), (.string ⟨#[]⟩), (.slice none 0 0), (.slice none 0 0)]) 88 rfl Tryz.underlying78 info117 rfl z0_ (by omega) u104001 x104001_1 (⟨t105, (⟨t106, t107⟩ : S32), t108, t111⟩ : S117) [.int .i64 t105, .string t106, .string t107, .slice Ao20 t108.length co20, .slice Ao21 t111.length co21] (fun _ => True) (fun k_ => some k_ = (.slice Ao20 t108.length co20 : Value).ownBlock ∨ some k_ = (.slice Ao21 t111.length co21 : Value).ownBlock) rfl rfl ?aP (fun k_ hk_ => hk_.elim (fun h_ => ((Kd.R_mono (ok' := fun k_ => ((fun _ => True)) k_ ∧ some k_ ≠ (u104001 : Value).ownBlock) (Kd.R_apart' (HO110.out) (Kd.S_typed HO_104001.out) z0_) (fun k_ hk => ⟨trivial, hk.2⟩))).1 k_ h_.symm) (fun h_ => ((Kd.R_mono (ok' := fun k_ => ((fun _ => True)) k_ ∧ some k_ ≠ (u104001 : Value).ownBlock) (Kd.R_apart' (HO113.out) (Kd.S_typed HO_104001.out) z0_) (fun k_ hk => ⟨trivial, hk.2⟩))).1 k_ h_.symm)) ?aF ?aO ?aB ?aS ?aL ?_
    (case aP => exact k117_mkM _ _ _ (⟨t105, (⟨t106, t107⟩ : S32), t108, t111⟩ : S117) (Kd.R_mono (Kd.R_tight rfl (Kd.R_mono (ok' := fun k_ => ((fun _ => True)) k_ ∧ some k_ ≠ (u104001 : Value).ownBlock) (Kd.R_apart' (HO110.out) (Kd.S_typed HO_104001.out) z0_) (fun k_ hk => ⟨trivial, hk.2⟩))) (fun _ h_ => Or.inl h_)) (Kd.R_mono (Kd.R_tight rfl (Kd.R_mono (ok' := fun k_ => ((fun _ => True)) k_ ∧ some k_ ≠ (u104001 : Value).ownBlock) (Kd.R_apart' (HO113.out) (Kd.S_typed HO_104001.out) z0_) (fun k_ hk => ⟨trivial, hk.2⟩))) (fun _ h_ => Or.inr (h_))))
    (case aB => exact zB)
    (case aF => exact (fun _ _ => trivial))
    (case aO => exact (by (with_reducible repeat (first | apply Kd.S_alloc | apply Kd.S_drewN | apply Kd.S_drew)); exact Kd.S_mono HO_104001.out (fun k_ hk => ⟨trivial, fun e_ => e_.elim (fun h_ => hk.1.2 h_) (fun h_ => hk.2 h_)⟩)))
    (case aS => exact (bZ))
    (case aL => have := LMc13.out; omega)
    intro v115 w19 ho hb hg hat
    rw [← Ny114.out] at ho
    replace BK101 := Aside0.mk (blk_grown (g := gb101) (o := .cells #[.int .i64 a0_0, .slice (some ad104) l0_1.length c0_1] 80 (0, 0)) (kQ BK101) hg (Kd.S_ne HO_104001.out BK101.out z0_))
    replace BK102 := Aside0.mk (blk_grown (g := gb102) (o := .cells #[.int .i64 0, .slice none 0 0] 80 (0, 0)) (kQ BK102) hg (Kd.S_ne HO_104001.out BK102.out z0_))
    replace BK103 := Aside0.mk (blk_grown (g := gb103) (o := .cells #[.int .i64 a0_0, u104001] 80 (0, 0)) (kQ BK103) hg (Kd.S_ne HO_104001.out BK103.out z0_))
    replace HB := Aside0.mk (hb)
    have HO116 := Aside0.mk (ho)
    clear HO_104001 HO110 HO113 ho hb hg hat
    obtain ⟨Ao22, co22, eo22⟩ := Kd.S_slice HO116.out
    (first | subst eo22 | (injection eo22 with f1_ f2_ f3_; have f4_ := f1_.symm; have f5_ := f3_.symm; clear f1_ f2_ f3_; subst f4_; subst f5_))
    refine kO 24 hK (fun hHeld => ?_) ⟨(blk_cell BK103.out 0).trans rfl, (blk_cell BK103.out 1).trans rfl, (blk_cell BK101.out 0).trans rfl, (blk_cell BK101.out 1).trans rfl, (kx HB hw104_0), (kx HB hw104_1), (kx HB hw104_2), (kx HB hw104_3), (kx HB hw104_4)⟩
    clear hK K
    refine pu 10 25 ?_
    refine last_ (i := 11) (N := none) #[true, true, true, true, true, true, true, true, true, true, true, true] rfl rfl (one_of HT_.out (by kernel_rfl)) z0_ (fun K hK => ?_)
    have hs23 : w19.cell? ⟨gb103, 1, none⟩ = some (u104001) := (blk_cell BK103.out 1).trans rfl
    have hfs23 := blk_frozen BK103.out 1
    have hns23_0 := NB101_103.out
    have hns23_1 := NB102_103.out
    have hms23_0 := NB103_101.out
    have hms23_1 := NB103_102.out
    refine sk ?_
    refine hK.out _ _ ?_
    clear hK K
    refine done_ (done_of HT_.out (by kernel_rfl)) ?_
    try go_wp2
    go_roundg k1
    case measure => have := HK1.out; omega
    case rel => exact ⟨(wrap64 (x4_1 + 1)), (y114), (.slice Ao22 y114.length co22), zs, H', ⟨by have := HK1.out; omega⟩, ⟨by (with_reducible repeat (first | apply Kd.S_alloc | apply Kd.S_drewN | apply Kd.S_drew)); exact Kd.S_mono (Kd.S_far (p := ⟨gb103, 1, none⟩) (Kd.S_types HO116.out BK103.out z0_) (fun _ hk => hk.2) (.slice Ao22 y114.length co22)) (fun _ hk => trivial)⟩, ⟨kQ BK101⟩, ⟨kQ BK102⟩, ⟨kQ BK103⟩, ⟨zB⟩⟩
   ·simp only [Option.some.injEq, Prod.mk.injEq] at H
    obtain ⟨rfl, rfl⟩ := H
    have hnb24 := NB101_102.out
    have hnc24 := NB102_101.out
    have hnb25 := NB101_103.out
    have hnc25 := NB103_101.out
    have hcz26 := cz2 BK101.out
    have hfz26 := fz2 BK101.out
    have hnb27 := NB103_102.out
    have hnc27 := NB102_103.out
    have hcz28 := cz2 BK103.out
    have hfz28 := fz2 BK103.out
    have hcz29 := cz2 BK102.out
    have hfz29 := fz2 BK102.out
    obtain ⟨Ao30, co30, eo30⟩ := Kd.S_slice HO_104001.out
    subst eo30
    go_wp2
    refine bodyPost_ret (results_cell_row rfl _ _ gb102 80 #[.int .i64 a0_0, .slice Ao30 x104001_1.length co30] (0, 0) _ rfl (kQ BK102) Tryz.underlying80 rfl (by kernel_rfl)) rfl ?_
    exact ⟨_, zr, by (with_reducible repeat (first | apply Kd.S_alloc | apply Kd.S_drewN | apply Kd.S_drew)); exact Kd.S_mono (Kd.S_far (p := ⟨gb102, 1, none⟩) (Kd.S_far (p := ⟨gb102, 0, none⟩) (Kd.S_types HO_104001.out BK102.out z0_) (fun _ hk => hk.2) (.int .i64 a0_0)) (fun _ hk => hk.2) (.slice Ao30 x104001_1.length co30)) (fun _ hk => trivial), zB⟩
mutual
def spec_l20Spool.l0 : Nat → Int → Int → List Int → Int → Int → List (S117) → Option (Int × (List (S117)) × Int)
 | 0, _, _, _, _, _, _ => none
 | k + 1, x4, x5, x1000, x1001, x103000, x103001 => if x5 > 0 then ((spec_l20Rd_pick.f k x1000 x1001 5).bind fun bt109 => (if (x103001.length : Int) = 0 then (spec_l20Spool.j1 k (wrap64 (x4 + bt109.1)) x5 true x1000 bt109.2 x103000 x103001) else ((spec_l20Rd_pick.f k x1000 bt109.2 2).bind fun bt111 => (spec_l20Spool.j1 k (wrap64 (x4 + bt109.1)) x5 (bt111.1 == 0) x1000 bt111.2 x103000 x103001)))) else ((spec_l5Copy.f k x103000 x103001).bind fun bt105 => (some (bt105.1, bt105.2, x1001)))
def spec_l20Spool.j1 : Nat → Int → Int → Bool → List Int → Int → Int → List (S117) → Option (Int × (List (S117)) × Int)
 | 0, _, _, _, _, _, _, _ => none
 | k + 1, x4, x5, x29, x1000, x1001, x103000, x103001 => if x29 = true then ((spec_l5Room.f x103000 x103001).bind fun t113 => (if t113 = true then ((spec_l20Mail.f k x1000 x1001).bind fun bt114 => ((spec_l5Add.f k x103000 x103001 bt114.1 bt114.2.1 bt114.2.2.1 bt114.2.2.2.1 x4).bind fun bt123 => (spec_l20Spool.l0 k x4 (wrap64 (x5 - 1)) x1000 bt114.2.2.2.2 bt123.1 bt123.2))) else (spec_l20Spool.l0 k x4 (wrap64 (x5 - 1)) x1000 x1001 x103000 x103001))) else ((spec_l20Rd_pick.f k x1000 x1001 (x103001.length : Int)).bind fun bt127 => (if 0 ≤ bt127.1 then (if bt127.1 < (x103001.length : Int) then ((spec_l20Rd_pick.f k x1000 bt127.2 (((rd_T117 x103001 bt127.1).f2).length : Int)).bind fun bt130 => ((spec_l20Rd_pick.f k x1000 bt130.2 2).bind fun bt132 => (if bt132.1 = 0 then ((spec_l5Done.f x103000 x103001 bt127.1 bt130.1).bind fun bt134 => (spec_l20Spool.l0 k x4 (wrap64 (x5 - 1)) x1000 bt132.2 bt134.1 bt134.2)) else ((spec_l5Later.f k x103000 x103001 bt127.1 bt130.1 x4).bind fun bt138 => (spec_l20Spool.l0 k x4 (wrap64 (x5 - 1)) x1000 bt132.2 bt138.1 bt138.2.1))))) else (none)) else (none)))
end
def spec_l20Spool.f (k : Nat) (s0_0 : List Int) (s0_1 : Int) : Option (Int × (List (S117)) × Int) := (spec_l20Rd_pick.f k s0_0 s0_1 9).bind fun bt103 => (spec_l20Spool.l0 k 0 bt103.1 s0_0 bt103.2 0 ([] : List (S117)))
set_option maxHeartbeats 8000000 in
set_option maxRecDepth 100000 in
theorem spec_l20Spool.calls (k : Nat) (g : Nat) (s0_0 : List Int) (s0_1 : Int) (r1 : Int) (r2 : List (S117)) (r3 : Int) (w0 w : World) (hI : IsS109 w0 w g s0_0 s0_1) (hB : Below w0.heap.size w0 w) (h : spec_l20Spool.f k s0_0 s0_1 = some (r1, r2, r3)) :
  Calls Tryz.prog 50 #[.pointer (some ⟨g, 0, none⟩)] w fun e w' => ∃ v1_ : Value, e = .returned (.agg #[.int .i64 r1, v1_]) ∧ Kd.N k117 117 w' w.heap.size (fun k_ => (w.heap.size ≤ k_)) v1_ r2 ∧ IsS109 w0 w' g s0_0 r3 ∧ Below w0.heap.size w0 w' ∧ KeepBut w w' g none := by
 have hu80 := Tryz.underlying80
 have HI0 := Aside0.mk hI
 have GI0_ := Aside0.mk (IsS109.ge HI0.out)
 have HK := Aside0.mk (KeepBut.refl w g none)
 have HL := Aside0.mk hB.size
 clear hI
 have HW0 := Aside0.mk hB.size
 have HB := Aside0.mk hB
 clear hB
 have H := h
 clear h
 unfold spec_l20Spool.f at H
 replace H := bnd H; obtain ⟨⟨t103, t104⟩, A2, H⟩ := H
 dsimp only at H
 have H' := Aside0.mk H
 clear H
 go_enter Tryz.func50, Tryz.ntmps50
 go_wp2_with (first | ((with_reducible refine gate_dst (N := 2) rfl ?_); refine bx (cs := #[.int .i64 0, .slice none 0 0]) (t := 80) ?_; intro gb101 hg w3 hbox hb; have BK101 := Aside0.mk (hbox); have GW101 := GK HK hg; have GE101 := GT HK hg HW0; have NB0_101 := IL HI0 hg; have NB101_0 := IG HI0 hg; replace HI0 := IS HI0 hb; replace HK := KT HK hb; replace HB := bF HB hb; clear hb hbox hg) | ((with_reducible refine gate_dst (N := 3) rfl ?_); refine bx (cs := #[.int .i64 0, .slice none 0 0]) (t := 80) ?_; intro gb102 hg w4 hbox hb; have BK102 := Aside0.mk (hbox); have GW102 := GK HK hg; have GE102 := GT HK hg HW0; have NB101_102 := nS hg BK101; have NB102_101 := nG hg BK101; replace BK101 := kS BK101 hb; have NB0_102 := IL HI0 hg; have NB102_0 := IG HI0 hg; replace HI0 := IS HI0 hb; replace HK := KT HK hb; replace HB := bF HB hb; clear hb hbox hg; have hnb5 := NB102_101.out; have hnc5 := NB101_102.out; have hnb6 := NB102_0.out; have hnc6 := NB0_102.out; have hcz7 := cz2 BK102.out; have hfz7 := fz2 BK102.out) | ((with_reducible refine gate_callee (f := 51) rfl ?_); refine gl 12 Tryz.func51 #[.pointer (some ⟨g, 0, none⟩), .int .i64 9] ((spec_l20Rd_pick.calls (w := _) (w0 := w0) (hI := zI) (hB := zB) (h := A2.out)).mono ?_); rintro e w8 ⟨rfl, hi, hb, hk⟩; refine ⟨_, rfl, ?_⟩; replace BK101 := KB hk BK101 NB101_0; replace BK102 := KP (.cells #[.int .i64 0, .slice none 0 0] 80 (0, 0)) hk BK102 NB102_0; replace HK := KS HK hk; replace HI0 := Aside0.mk (hi); replace HB := Aside0.mk (hb); clear hb hk hi))
 go_loopg [4, 5] k (fun kq v4 v5 w' => ∃ (x4_1 : Int) (x5_1 : Int) (x1001_1 : Int) (x103000_1 : Int) (x103001_1 : List (S117)) (u103001 : Value), v4 = .int .i64 x4_1 ∧ v5 = .int .i64 x5_1 ∧ Aside0 (spec_l20Spool.l0 kq x4_1 x5_1 s0_0 x1001_1 x103000_1 x103001_1 = some (r1, r2, r3)) ∧ Aside0 (kq ≤ k) ∧ Aside0 (Kd.V k117 117 w' w.heap.size (fun k_ => (w.heap.size ≤ k_) ∧ k_ ≠ gb101 ∧ k_ ≠ gb102 ∧ k_ ≠ g) u103001 x103001_1) ∧ Aside0 (w'.heap[gb101]? = some (.cells #[.int .i64 0, (.slice none 0 0)] 80 (0, 0))) ∧ Aside0 (w'.heap[gb102]? = some (.cells #[.int .i64 x103000_1, u103001] 80 (0, 0))) ∧ Aside0 (IsS109 w0 w' g s0_0 x1001_1) ∧ Aside0 (KeepBut w w' g none) ∧ Aside0 (Below w0.heap.size w0 w'))
 case atStart => exact ⟨(0), (t103), (t104), (0), (([] : List (S117))), (.slice none 0 0), zs, zs, H', ⟨Nat.le_refl _⟩, ⟨zn⟩, ⟨kQ BK101⟩, ⟨kQ BK102⟩, ⟨zI⟩, ⟨zK⟩, ⟨zB⟩⟩
 case round =>
  clear H'
  obtain ⟨x4_1, x5_1, x1001_1, x103000_1, x103001_1, u103001, rfl, rfl, HA, HK1, HO_103001, BK101, BK102, HI0, HK, HB⟩ := hrel
  cases gk with
  | zero => exact absurd HA.out (by simp [spec_l20Spool.l0])
  | succ k1 =>
   have H := HA.out
   clear HA
   simp only [spec_l20Spool.l0] at H
   replace H := its_d_d H; rcases H with ⟨c9b0, H⟩ | ⟨c9b0, H⟩
   ·replace H := bnd H; obtain ⟨⟨t109, t110⟩, A10, H⟩ := H
    dsimp only at H
    have HC11 := Aside0.mk H
    clear H
    go_upto_region 7 with (first | ((with_reducible refine gate_callee (f := 51) rfl ?_); refine gl 19 Tryz.func51 #[.pointer (some ⟨g, 0, none⟩), .int .i64 5] ((spec_l20Rd_pick.calls (w := _) (w0 := w0) (hI := zI) (hB := zB) (h := A10.out)).mono ?_); rintro e w12 ⟨rfl, hi, hb, hk⟩; refine ⟨_, rfl, ?_⟩; replace HO_103001 := Aside0.mk (Kd.V_mono (Kd.V_keep (Kd.V_mono (ok := fun k_ => (((w.heap.size ≤ k_)) ∧ (k_ ≠ gb101 ∧ (k_ ≠ gb102 ∧ k_ ≠ g)))) (vO HO_103001) (fun k_ hk_ => (⟨hk_, hk_.2.2.2⟩ : _ ∧ k_ ≠ g))) hk (fun _ h => h.2)) (fun _ h => h.1)); replace BK101 := KB hk BK101 NB101_0; replace BK102 := KB hk BK102 NB102_0; replace HK := KS HK hk; replace HI0 := Aside0.mk (hi); replace HB := Aside0.mk (hb); clear hb hk hi))
    (try simp only [Act.put, List.setIfInBounds_toArray, List.set_cons_zero, List.set_cons_succ])
    go_cut [29] (fun v29 wc => ∃ (kq : Nat) (x29_10 : Bool) (x1001_10 : Int), v29 = .bool x29_10 ∧ Aside0 (spec_l20Spool.j1 kq (wrap64 (x4_1 + t109)) x5_1 x29_10 s0_0 x1001_10 x103000_1 x103001_1 = some (r1, r2, r3)) ∧ Aside0 (kq ≤ k1) ∧ Aside0 (Kd.V k117 117 wc w.heap.size (fun k_ => (w.heap.size ≤ k_) ∧ k_ ≠ gb101 ∧ k_ ≠ gb102 ∧ k_ ≠ g) u103001 x103001_1) ∧ Aside0 (wc.heap[gb101]? = some (.cells #[.int .i64 0, (.slice none 0 0)] 80 (0, 0))) ∧ Aside0 (wc.heap[gb102]? = some (.cells #[.int .i64 x103000_1, u103001] 80 (0, 0))) ∧ Aside0 (IsS109 w0 wc g s0_0 x1001_10) ∧ Aside0 (KeepBut w wc g none) ∧ Aside0 (Below w0.heap.size w0 wc))
    case first =>
     have H := HC11.out
     clear HC11
     replace H := its_qn_cqn H; rcases H with ⟨c13b0, c13b1, H⟩ | ⟨c13, c13b0, c13b1, H⟩
     ·(first | rw [c13b0] | (simp only [i64_w, i32_w]; rw [c13b0]) | skip)
      have H' := Aside0.mk H
      clear H
      have hnb14 := NB102_101.out
      have hnc14 := NB101_102.out
      have hnb15 := NB102_0.out
      have hnc15 := NB0_102.out
      have hcz16 := cz2 BK102.out
      have hfz16 := fz2 BK102.out
      obtain ⟨Ao17, co17, eo17⟩ := Kd.V_slice HO_103001.out
      subst eo17
      go_wp2
      go_meet
      case rel => exact ⟨_, (true), (t110), zs, H', ⟨by have := HK1.out; first | omega | exact Nat.le_refl _⟩, ⟨vO HO_103001⟩, ⟨kQ BK101⟩, ⟨kQ BK102⟩, ⟨zI⟩, ⟨zK⟩, ⟨zB⟩⟩
     ·have c13b2 : ¬ (x103001_1 = []) := fun h_ => c13 (by rw [h_]; rfl)
      (first | rw [c13b0] | (simp only [i64_w, i32_w]; rw [c13b0]) | skip)
      replace H := bnd H; obtain ⟨⟨t111, t112⟩, A18, H⟩ := H
      dsimp only at H
      have H' := Aside0.mk H
      clear H
      have hnb19 := NB102_101.out
      have hnc19 := NB101_102.out
      have hnb20 := NB102_0.out
      have hnc20 := NB0_102.out
      have hcz21 := cz2 BK102.out
      have hfz21 := fz2 BK102.out
      obtain ⟨Ao22, co22, eo22⟩ := Kd.V_slice HO_103001.out
      subst eo22
      go_wp2_with (first | (go_at_call 51; refine (spec_l20Rd_pick.calls (w := _) (w0 := w0) (hI := zI) (hB := zB) (h := A18.out)).mono ?_; rintro e w23 ⟨rfl, hi, hb, hk⟩; replace HO_103001 := Aside0.mk (Kd.V_mono (Kd.V_keep (Kd.V_mono (ok := fun k_ => (((w.heap.size ≤ k_)) ∧ (k_ ≠ gb101 ∧ (k_ ≠ gb102 ∧ k_ ≠ g)))) (vO HO_103001) (fun k_ hk_ => (⟨hk_, hk_.2.2.2⟩ : _ ∧ k_ ≠ g))) hk (fun _ h => h.2)) (fun _ h => h.1)); replace BK101 := KB hk BK101 NB101_0; replace BK102 := KB hk BK102 NB102_0; replace HK := KS HK hk; replace HI0 := Aside0.mk (hi); replace HB := Aside0.mk (hb); clear hb hk hi))
      go_meet
      case rel => exact ⟨_, ((t111 == 0)), (t112), zs, H', ⟨by have := HK1.out; first | omega | exact Nat.le_refl _⟩, ⟨vO HO_103001⟩, ⟨kQ BK101⟩, ⟨kQ BK102⟩, ⟨zI⟩, ⟨zK⟩, ⟨zB⟩⟩
    case rest =>
     clear HC11
     obtain ⟨kq, x29_10, x1001_10, rfl, HA, HJ10, HO_103001, BK101, BK102, HI0, HK, HB⟩ := hcut
     cases kq with
     | zero => exact absurd HA.out (by simp [spec_l20Spool.j1])
     | succ kj10 =>
      have H := HA.out
      clear HA
      simp only [spec_l20Spool.j1] at H
      replace H := itb H; rcases H with ⟨rfl, H⟩ | ⟨rfl, H⟩
      ·replace H := bnd H; obtain ⟨t113, A25, H⟩ := H
       replace H := itb H; rcases H with ⟨rfl, H⟩ | ⟨rfl, H⟩
       ·replace H := bnd H; obtain ⟨⟨t114, t115, t116, t119, t122⟩, A27, H⟩ := H
        dsimp only at H
        replace H := bnd H; obtain ⟨⟨t123, t124⟩, A28, H⟩ := H
        dsimp only at H
        have H' := Aside0.mk H
        clear H
        have hnb29 := NB102_101.out
        have hnc29 := NB101_102.out
        have hnb30 := NB102_0.out
        have hnc30 := NB0_102.out
        have hcz31 := cz2 BK102.out
        have hfz31 := fz2 BK102.out
        obtain ⟨Ao32, co32, eo32⟩ := Kd.V_slice HO_103001.out
        subst eo32
        try go_wp2_with (first | ((with_reducible refine gate_callee (f := 94) rfl ?_); refine gv 31 Tryz.func94 #[.agg #[.int .i64 x103000_1, .slice Ao32 x103001_1.length co32]] (spec_l5Room.calls (w := _) (hr0_1 := by repeat (first | exact (Kd.V_reads' HO_103001.out).2.2 | (with_reducible refine Kd.C_alloc ?_ _) | (with_reducible refine Kd.C_drewN ?_ _) | (with_reducible refine Kd.C_drew ?_))) (hc0_1 := (Kd.V_reads' HO_103001.out).2.1) (h := A25.out)) ?_; intro w33 hb; replace HO_103001 := Aside0.mk (Kd.V_below (vO HO_103001) hb); replace BK101 := kS BK101 hb; replace BK102 := kS BK102 hb; replace HI0 := IS HI0 hb; replace HK := KT HK hb; replace HB := bF HB hb; clear hb))
        replace HO_103001 := Aside0.mk (Kd.V_drew HO_103001.out)
        replace BK101 := Aside0.mk (blk_drew BK101.out)
        replace BK102 := Aside0.mk (blk_drew BK102.out)
        replace HI0 := Aside0.mk (IsS109.drew HI0.out)
        replace HK := Aside0.mk (keep_drew HK.out)
        replace HB := Aside0.mk (below_drew1 HB.out)
        refine start_ (n := 6) (S := fun w' => w'.cell? ⟨gb102, 0, none⟩ = some (.int .i64 x103000_1) ∧ w'.cell? ⟨gb102, 1, none⟩ = some (.slice Ao32 x103001_1.length co32)) (ds := [5]) #[false, false, false, false, false, false] (by kernel_rfl) rfl rfl ⟨(blk_cell BK102.out 0).trans rfl, (blk_cell BK102.out 1).trans rfl⟩ (fun hHeld => ?_)
        generalize w33.drew = w34 at HO_103001 BK101 BK102 HI0 HK HB hHeld ⊢
        refine pu 1 33 ?_
        refine pu 3 35 ?_
        refine ta 0 32 ?_
        refine on 2 (some 34) (fun K hK => ?_)
        refine goes_ Tryz.func92 (by kernel_rfl) rfl #[.pointer (some ⟨g, 0, none⟩)] (by rfl) rfl rfl zm ?_
        with_reducible refine (spec_l20Mail.calls kj10 g s0_0 x1001_10 t114 t115 t116 t119 t122 w0 _ ?side1 ?side2 A27.out).mono ?_
        (case side1 => repeat (first | (with_reducible first | exact HI0.out | apply IsS109.alloc | apply IsS109.drewN | apply IsS109.drew | apply IsS109.set_1 | refine IsS109.far ?_ NB0_101.out _ | refine IsS109.far ?_ NB0_102.out _) | exact HI0.out))
        (case side2 => repeat (first | (with_reducible first | exact HB.out | apply below_alloc | apply pw_below_drewN | apply below_drew1 | refine below_set ?_ (IsS109.ge HI0.out) | refine below_set ?_ GE101.out | refine below_set ?_ GE102.out) | exact HB.out))
        rintro e w35 ⟨v117, v120, rfl, ho0, ho1, hi, hb, hk⟩
        refine ⟨_, rfl, ?_⟩
        replace HO_103001 := Aside0.mk (Kd.V_mono (Kd.V_told (Kd.V_told (Kd.V_oldK (Kd.V_mono (ok := fun k_ => (((w.heap.size ≤ k_)) ∧ (k_ ≠ gb101 ∧ (k_ ≠ gb102 ∧ k_ ≠ g)))) (vO HO_103001) (fun k_ hk_ => (⟨hk_, hk_.2.2.2⟩ : _ ∧ k_ ≠ g))) hk) (Kd.R_base ho0)) (Kd.R_base ho1)) (fun _ h_ => h_.1))
        replace BK101 := KB hk BK101 NB101_0
        replace BK102 := KB hk BK102 NB102_0
        have HO118 := Aside0.mk (Kd.R_lower (Kd.R_newM (M := fun k_ => (w.heap.size ≤ k_)) ho0 (kZ HK) (fun k_ h_ => h_)) (kZ HK))
        have HO121 := Aside0.mk (Kd.R_lower (Kd.R_newM (M := fun k_ => (w.heap.size ≤ k_)) ho1 (kZ HK) (fun k_ h_ => h_)) (kZ HK))
        replace HK := KS HK hk
        replace HB := Aside0.mk (hb)
        replace HI0 := Aside0.mk (hi)
        (try clear hb)
        (try clear hb2)
        (try clear hk)
        (try clear hi)
        (try clear ho0)
        (try clear ho1)
        obtain ⟨Ao36, co36, eo36⟩ := Kd.R_slice HO118.out
        (first | subst eo36 | (injection eo36 with f1_ f2_ f3_; have f4_ := f1_.symm; have f5_ := f3_.symm; clear f1_ f2_ f3_; subst f4_; subst f5_))
        obtain ⟨Ao37, co37, eo37⟩ := Kd.R_slice HO121.out
        (first | subst eo37 | (injection eo37 with f1_ f2_ f3_; have f4_ := f1_.symm; have f5_ := f3_.symm; clear f1_ f2_ f3_; subst f4_; subst f5_))
        refine kO 34 hK (fun hHeld => ?_)
        clear hK K
        refine on 4 (some 36) (fun K hK => ?_)
        refine goes_ Tryz.func95 (by kernel_rfl) rfl #[.agg #[.int .i64 x103000_1, .slice Ao32 x103001_1.length co32], .agg #[.string t114, .string t115, .slice Ao36 t116.length co36, .slice Ao37 t119.length co37], .int .i64 (wrap64 (x4_1 + t109))] (by rfl) rfl rfl zm ?_
        with_reducible refine (spec_l5Add.calls kj10 x103000_1 (fun k_ => ((((w.heap.size ≤ k_) ∧ (k_ ≠ gb101 ∧ (k_ ≠ gb102 ∧ k_ ≠ g))) ∧ some k_ ≠ (.slice Ao36 t116.length co36 : Value).ownBlock) ∧ some k_ ≠ (.slice Ao37 t119.length co37 : Value).ownBlock)) _ _ x103001_1 t114 t115 _ _ t116 _ _ t119 (wrap64 (x4_1 + t109)) t123 t124 _ ?side1 ?side2 ?side3 ?side4 ?side5 A28.out).mono ?_
        (case side1 => exact HO_103001.out)
        (case side2 => repeat (first | exact (Kd.R_reads' HO118.out).2.2 | (with_reducible refine Kd.C_alloc ?_ _) | (with_reducible refine Kd.C_drewN ?_ _) | (with_reducible refine Kd.C_drew ?_)))
        (case side3 => exact (Kd.R_reads' HO118.out).2.1)
        (case side4 => repeat (first | exact (Kd.R_reads' HO121.out).2.2 | (with_reducible refine Kd.C_alloc ?_ _) | (with_reducible refine Kd.C_drewN ?_ _) | (with_reducible refine Kd.C_drew ?_)))
        (case side5 => exact (Kd.R_reads' HO121.out).2.1)
        rintro e w38 ⟨v125, rfl, ho0, hb⟩
        refine ⟨_, rfl, ?_⟩
        replace HO_103001 := Aside0.mk (Kd.V_elder' (vO HO_103001) (Kd.N_base ho0) hb)
        have HO126 := Aside0.mk (Kd.N_lower (Kd.N_mono (ok' := fun k_ => (w.heap.size ≤ k_) ∧ some k_ ≠ (.slice Ao36 t116.length co36 : Value).ownBlock ∧ some k_ ≠ (.slice Ao37 t119.length co37 : Value).ownBlock ∧ k_ ≠ gb101 ∧ k_ ≠ gb102 ∧ k_ ≠ g) ho0 (fun k_ hk_ => ⟨Or.elim hk_ (fun hs_ => hs_.1.1.1) (fun hn_ => (Nat.le_trans (kZ HK) hn_)), Or.elim hk_ (fun hs_ => hs_.1.2) (fun hn_ => (Kd.fresh' (Kd.R_lt (rO HO118)) k_ hn_)), Or.elim hk_ (fun hs_ => hs_.2) (fun hn_ => (Kd.fresh' (Kd.R_lt (rO HO121)) k_ hn_)), Or.elim hk_ (fun hs_ => hs_.1.1.2.1) (fun hn_ => ((kG BK101) k_ hn_)), Or.elim hk_ (fun hs_ => hs_.1.1.2.2.1) (fun hn_ => ((kG BK102) k_ hn_)), Or.elim hk_ (fun hs_ => hs_.1.1.2.2.2) (fun hn_ => (IsS109.fresh zI k_ hn_))⟩)) (kZ HK))
        replace HO118 := rS HO118 hb
        replace HO121 := rS HO121 hb
        replace BK101 := kS BK101 hb
        replace BK102 := kS BK102 hb
        replace HI0 := IS HI0 hb
        replace HK := KT HK hb
        replace HB := bF HB hb
        (try clear hb)
        (try clear hb2)
        (try clear hk)
        (try clear hi)
        (try clear ho0)
        obtain ⟨Ao40, co40, eo40⟩ := Kd.N_slice HO126.out
        (first | subst eo40 | (injection eo40 with f1_ f2_ f3_; have f4_ := f1_.symm; have f5_ := f3_.symm; clear f1_ f2_ f3_; subst f4_; subst f5_))
        refine kO 36 hK (fun hHeld => ?_)
        clear hK K
        refine last_ (i := 5) (N := none) #[true, true, true, true, true, true] rfl rfl (by kernel_rfl) z0_ (fun K hK => ?_)
        have hs_hs39 := cz2 BK102.out
        have hf_hs39 := fz2 BK102.out
        have hn0_hs39 := NB101_102.out
        have hn1_hs39 := NB102_101.out
        refine sk ?_
        refine hK.out _ _ ?_
        clear hK K
        refine done_ (by kernel_rfl) ?_
        try go_wp2
        go_roundg kj10
        case measure => have := HK1.out; have := HJ10.out; omega
        case rel => exact ⟨((wrap64 (x4_1 + t109))), (wrap64 (x5_1 - 1)), (t122), (t123), (t124), (.slice Ao40 t124.length co40), zs, zs, H', ⟨by have := HK1.out; have := HJ10.out; omega⟩, ⟨Kd.N_V (fN HO126)⟩, ⟨kQ BK101⟩, ⟨kQ BK102⟩, ⟨zI⟩, ⟨zK⟩, ⟨zB⟩⟩
       ·have H' := Aside0.mk H
        clear H
        have hnb42 := NB102_101.out
        have hnc42 := NB101_102.out
        have hnb43 := NB102_0.out
        have hnc43 := NB0_102.out
        have hcz44 := cz2 BK102.out
        have hfz44 := fz2 BK102.out
        obtain ⟨Ao45, co45, eo45⟩ := Kd.V_slice HO_103001.out
        subst eo45
        go_wp2_with (first | ((with_reducible refine gate_callee (f := 94) rfl ?_); refine gv 31 Tryz.func94 #[.agg #[.int .i64 x103000_1, .slice Ao45 x103001_1.length co45]] (spec_l5Room.calls (w := _) (hr0_1 := by repeat (first | exact (Kd.V_reads' HO_103001.out).2.2 | (with_reducible refine Kd.C_alloc ?_ _) | (with_reducible refine Kd.C_drewN ?_ _) | (with_reducible refine Kd.C_drew ?_))) (hc0_1 := (Kd.V_reads' HO_103001.out).2.1) (h := A25.out)) ?_; intro w46 hb; replace HO_103001 := Aside0.mk (Kd.V_below (vO HO_103001) hb); replace BK101 := kS BK101 hb; replace BK102 := kS BK102 hb; replace HI0 := IS HI0 hb; replace HK := KT HK hb; replace HB := bF HB hb; clear hb))
        go_roundg kj10
        case measure => have := HK1.out; have := HJ10.out; omega
        case rel => exact ⟨((wrap64 (x4_1 + t109))), (wrap64 (x5_1 - 1)), (x1001_10), (x103000_1), (x103001_1), (.slice Ao45 x103001_1.length co45), zs, zs, H', ⟨by have := HK1.out; have := HJ10.out; omega⟩, ⟨vO HO_103001⟩, ⟨kQ BK101⟩, ⟨kQ BK102⟩, ⟨zI⟩, ⟨zK⟩, ⟨zB⟩⟩
      ·replace H := bnd H; obtain ⟨⟨t127, t128⟩, A47, H⟩ := H
       dsimp only at H
       replace H := itn_d H; obtain ⟨c48b0, H⟩ := H
       replace H := itn_d H; obtain ⟨c49b0, H⟩ := H
       replace H := bnd H; obtain ⟨⟨t130, t131⟩, A50, H⟩ := H
       dsimp only at H
       replace H := bnd H; obtain ⟨⟨t132, t133⟩, A51, H⟩ := H
       dsimp only at H
       replace H := its_qn_cqn H; rcases H with ⟨c52b0, c52b1, H⟩ | ⟨c52, c52b0, c52b1, H⟩
       ·replace H := bnd H; obtain ⟨⟨t134, t135⟩, A53, H⟩ := H
        dsimp only at H
        have H' := Aside0.mk H
        clear H
        have hnb54 := NB102_101.out
        have hnc54 := NB101_102.out
        have hnb55 := NB102_0.out
        have hnc55 := NB0_102.out
        have hcz56 := cz2 BK102.out
        have hfz56 := fz2 BK102.out
        obtain ⟨Ao57, co57, eo57⟩ := Kd.V_slice HO_103001.out
        subst eo57
        go_wp2_with (first | ((with_reducible refine gate_callee (f := 51) rfl ?_); refine gl 41 Tryz.func51 #[.pointer (some ⟨g, 0, none⟩), .int .i64 (x103001_1.length : Int)] ((spec_l20Rd_pick.calls (w := _) (w0 := w0) (hI := zI) (hB := zB) (h := A47.out)).mono ?_); rintro e w58 ⟨rfl, hi, hb, hk⟩; refine ⟨_, rfl, ?_⟩; replace HO_103001 := Aside0.mk (Kd.V_mono (Kd.V_keep (Kd.V_mono (ok := fun k_ => (((w.heap.size ≤ k_)) ∧ (k_ ≠ gb101 ∧ (k_ ≠ gb102 ∧ k_ ≠ g)))) (vO HO_103001) (fun k_ hk_ => (⟨hk_, hk_.2.2.2⟩ : _ ∧ k_ ≠ g))) hk (fun _ h => h.2)) (fun _ h => h.1)); replace BK101 := KB hk BK101 NB101_0; replace BK102 := KB hk BK102 NB102_0; replace HK := KS HK hk; replace HI0 := Aside0.mk (hi); replace HB := Aside0.mk (hb); clear hb hk hi; have hcz59 := cz2 BK102.out; have hfz59 := fz2 BK102.out; have p129 : 0 ≤ (t127 : Int) := of_decide_eq_true za; have q129 : t127 < (x103001_1.length : Int) := of_decide_eq_true za; obtain ⟨ad129, A129_3, c129_3, A129_4, c129_4, e129, hx129_0, hx129_1, hx129_2, hx129_3, hx129_4, hl129_3, hi129_3, hl129_4, hi129_4⟩ := at_T117 (Kd.V_reads' HO_103001.out).2.2 t127 p129 q129; cases e129; obtain ⟨ce129, hce129, hMe129, hcc129⟩ := Kd.V_get HO_103001.out z117 t127 p129 (by first | exact q129 | exact of_decide_eq_true za | (have e_ := (Kd.V_reads' HO_103001.out).1; omega)); obtain ⟨ua129_3, uc129_3, ua129_4, uc129_4, rfl, ul129_3, ge129_3, ul129_4, ge129_4⟩ := k117_openF hMe129; have hv129_3 := hcc129 3 _ rfl; rw [add_field _ _ 3 (by omega)] at hv129_3; replace hv129_3 := Option.some.inj (hv129_3.symm.trans hx129_3); injection hv129_3 with hva_ hvn_ hvc_; rw [hva_] at ge129_3; rw [hvc_] at ul129_3; have HL129_3 := Aside0.mk (show Kd.V k143 143 _ w.heap.size _ _ ((rd_T117 x103001_1 t127).f2) from Kd.V_mk ul129_3 ge129_3); clear hva_ hvn_ hvc_ ge129_3 ul129_3; have hv129_4 := hcc129 4 _ rfl; rw [add_field _ _ 4 (by omega)] at hv129_4; replace hv129_4 := Option.some.inj (hv129_4.symm.trans hx129_4); injection hv129_4 with hva_ hvn_ hvc_; rw [hva_] at ge129_4; rw [hvc_] at ul129_4; have HL129_4 := Aside0.mk (show Kd.V Kd.string 9 _ w.heap.size _ _ ((rd_T117 x103001_1 t127).f3) from Kd.V_mk ul129_4 ge129_4); clear hva_ hvn_ hvc_ ge129_4 ul129_4 hcc129 hce129; have HR129_3 := Aside0.mk hi129_3; have HC129_3 := Aside0.mk hl129_3; clear hi129_3 hl129_3; have HR129_4 := Aside0.mk hi129_4; have HC129_4 := Aside0.mk hl129_4; clear hi129_4 hl129_4; replace p129 := eq_true p129; replace q129 := eq_true q129) | ((with_reducible refine gate_callee (f := 51) rfl ?_); refine gl 50 Tryz.func51 #[.pointer (some ⟨g, 0, none⟩), .int .i64 (((rd_T117 x103001_1 t127).f2).length : Int)] ((spec_l20Rd_pick.calls (w := _) (w0 := w0) (hI := zI) (hB := zB) (h := A50.out)).mono ?_); rintro e w60 ⟨rfl, hi, hb, hk⟩; refine ⟨_, rfl, ?_⟩; replace HO_103001 := Aside0.mk (Kd.V_mono (Kd.V_keep (Kd.V_mono (ok := fun k_ => (((w.heap.size ≤ k_)) ∧ (k_ ≠ gb101 ∧ (k_ ≠ gb102 ∧ k_ ≠ g)))) (vO HO_103001) (fun k_ hk_ => (⟨hk_, hk_.2.2.2⟩ : _ ∧ k_ ≠ g))) hk (fun _ h => h.2)) (fun _ h => h.1)); replace BK101 := KB hk BK101 NB101_0; replace BK102 := KB hk BK102 NB102_0; replace HL129_3 := Aside0.mk (Kd.V_mono (Kd.V_keep (Kd.V_mono (ok := fun k_ => (((w.heap.size ≤ k_)) ∧ (k_ ≠ gb101 ∧ (k_ ≠ gb102 ∧ k_ ≠ g)))) (vO HL129_3) (fun k_ hk_ => (⟨hk_, hk_.2.2.2⟩ : _ ∧ k_ ≠ g))) hk (fun _ h => h.2)) (fun _ h => h.1)); replace HL129_4 := Aside0.mk (Kd.V_mono (Kd.V_keep (Kd.V_mono (ok := fun k_ => (((w.heap.size ≤ k_)) ∧ (k_ ≠ gb101 ∧ (k_ ≠ gb102 ∧ k_ ≠ g)))) (vO HL129_4) (fun k_ hk_ => (⟨hk_, hk_.2.2.2⟩ : _ ∧ k_ ≠ g))) hk (fun _ h => h.2)) (fun _ h => h.1)); replace HK := KS HK hk; replace HI0 := Aside0.mk (hi); replace HB := Aside0.mk (hb); clear hb hk hi) | ((with_reducible refine gate_callee (f := 51) rfl ?_); refine gl 52 Tryz.func51 #[.pointer (some ⟨g, 0, none⟩), .int .i64 2] ((spec_l20Rd_pick.calls (w := _) (w0 := w0) (hI := zI) (hB := zB) (h := A51.out)).mono ?_); rintro e w61 ⟨rfl, hi, hb, hk⟩; refine ⟨_, rfl, ?_⟩; replace HO_103001 := Aside0.mk (Kd.V_mono (Kd.V_keep (Kd.V_mono (ok := fun k_ => (((w.heap.size ≤ k_)) ∧ (k_ ≠ gb101 ∧ (k_ ≠ gb102 ∧ k_ ≠ g)))) (vO HO_103001) (fun k_ hk_ => (⟨hk_, hk_.2.2.2⟩ : _ ∧ k_ ≠ g))) hk (fun _ h => h.2)) (fun _ h => h.1)); replace BK101 := KB hk BK101 NB101_0; replace BK102 := KB hk BK102 NB102_0; replace HL129_3 := Aside0.mk (Kd.V_mono (Kd.V_keep (Kd.V_mono (ok := fun k_ => (((w.heap.size ≤ k_)) ∧ (k_ ≠ gb101 ∧ (k_ ≠ gb102 ∧ k_ ≠ g)))) (vO HL129_3) (fun k_ hk_ => (⟨hk_, hk_.2.2.2⟩ : _ ∧ k_ ≠ g))) hk (fun _ h => h.2)) (fun _ h => h.1)); replace HL129_4 := Aside0.mk (Kd.V_mono (Kd.V_keep (Kd.V_mono (ok := fun k_ => (((w.heap.size ≤ k_)) ∧ (k_ ≠ gb101 ∧ (k_ ≠ gb102 ∧ k_ ≠ g)))) (vO HL129_4) (fun k_ hk_ => (⟨hk_, hk_.2.2.2⟩ : _ ∧ k_ ≠ g))) hk (fun _ h => h.2)) (fun _ h => h.1)); replace HK := KS HK hk; replace HI0 := Aside0.mk (hi); replace HB := Aside0.mk (hb); clear hb hk hi; have hcz62 := cz2 BK102.out; have hfz62 := fz2 BK102.out) | ((with_reducible refine gate_callee (f := 96) rfl ?_); refine gl 57 Tryz.func96 #[.agg #[.int .i64 x103000_1, .slice (some ad129) x103001_1.length co57], .int .i64 t127, .int .i64 t130] ((spec_l5Done.calls (w := _) (hs0_1 := HO_103001.out) (h := A53.out)).mono ?_); rintro e w63 ⟨v136, rfl, ho0, hb⟩; refine ⟨_, rfl, ?_⟩; replace HO_103001 := Aside0.mk (Kd.V_elder' (vO HO_103001) (Kd.N_base ho0) hb); replace HL129_3 := Aside0.mk (Kd.V_elder' (vO HL129_3) (Kd.N_base ho0) hb); replace HL129_4 := Aside0.mk (Kd.V_elder' (vO HL129_4) (Kd.N_base ho0) hb); have HO137 := Aside0.mk (Kd.N_lower (Kd.N_mono (ok' := fun k_ => (w.heap.size ≤ k_) ∧ k_ ≠ gb101 ∧ k_ ≠ gb102 ∧ k_ ≠ g) ho0 (fun k_ hk_ => ⟨Or.elim hk_ (fun hs_ => hs_.1) (fun hn_ => (Nat.le_trans (kZ HK) hn_)), Or.elim hk_ (fun hs_ => hs_.2.1) (fun hn_ => ((kG BK101) k_ hn_)), Or.elim hk_ (fun hs_ => hs_.2.2.1) (fun hn_ => ((kG BK102) k_ hn_)), Or.elim hk_ (fun hs_ => hs_.2.2.2) (fun hn_ => (IsS109.fresh zI k_ hn_))⟩)) (kZ HK)); replace BK101 := kS BK101 hb; replace BK102 := kS BK102 hb; replace HI0 := IS HI0 hb; replace HK := KT HK hb; replace HB := bF HB hb; clear hb ho0; have hcz64 := cz2 BK102.out; have hfz64 := fz2 BK102.out; obtain ⟨Ao65, co65, eo65⟩ := Kd.N_slice HO137.out; subst eo65))
        go_roundg kj10
        case measure => have := HK1.out; have := HJ10.out; omega
        case rel => exact ⟨((wrap64 (x4_1 + t109))), (wrap64 (x5_1 - 1)), (t133), (t134), (t135), (.slice Ao65 t135.length co65), zs, zs, H', ⟨by have := HK1.out; have := HJ10.out; omega⟩, ⟨Kd.N_V (fN HO137)⟩, ⟨kQ BK101⟩, ⟨kQ BK102⟩, ⟨zI⟩, ⟨zK⟩, ⟨zB⟩⟩
       ·replace H := bnd H; obtain ⟨⟨t138, t139, t142⟩, A66, H⟩ := H
        dsimp only at H
        have H' := Aside0.mk H
        clear H
        have hnb67 := NB102_101.out
        have hnc67 := NB101_102.out
        have hnb68 := NB102_0.out
        have hnc68 := NB0_102.out
        have hcz69 := cz2 BK102.out
        have hfz69 := fz2 BK102.out
        obtain ⟨Ao70, co70, eo70⟩ := Kd.V_slice HO_103001.out
        subst eo70
        go_wp2_with (first | ((with_reducible refine gate_callee (f := 51) rfl ?_); refine gl 41 Tryz.func51 #[.pointer (some ⟨g, 0, none⟩), .int .i64 (x103001_1.length : Int)] ((spec_l20Rd_pick.calls (w := _) (w0 := w0) (hI := zI) (hB := zB) (h := A47.out)).mono ?_); rintro e w71 ⟨rfl, hi, hb, hk⟩; refine ⟨_, rfl, ?_⟩; replace HO_103001 := Aside0.mk (Kd.V_mono (Kd.V_keep (Kd.V_mono (ok := fun k_ => (((w.heap.size ≤ k_)) ∧ (k_ ≠ gb101 ∧ (k_ ≠ gb102 ∧ k_ ≠ g)))) (vO HO_103001) (fun k_ hk_ => (⟨hk_, hk_.2.2.2⟩ : _ ∧ k_ ≠ g))) hk (fun _ h => h.2)) (fun _ h => h.1)); replace BK101 := KB hk BK101 NB101_0; replace BK102 := KB hk BK102 NB102_0; replace HK := KS HK hk; replace HI0 := Aside0.mk (hi); replace HB := Aside0.mk (hb); clear hb hk hi; have hcz72 := cz2 BK102.out; have hfz72 := fz2 BK102.out; have p129 : 0 ≤ (t127 : Int) := of_decide_eq_true za; have q129 : t127 < (x103001_1.length : Int) := of_decide_eq_true za; obtain ⟨ad129, A129_3, c129_3, A129_4, c129_4, e129, hx129_0, hx129_1, hx129_2, hx129_3, hx129_4, hl129_3, hi129_3, hl129_4, hi129_4⟩ := at_T117 (Kd.V_reads' HO_103001.out).2.2 t127 p129 q129; cases e129; obtain ⟨ce129, hce129, hMe129, hcc129⟩ := Kd.V_get HO_103001.out z117 t127 p129 (by first | exact q129 | exact of_decide_eq_true za | (have e_ := (Kd.V_reads' HO_103001.out).1; omega)); obtain ⟨ua129_3, uc129_3, ua129_4, uc129_4, rfl, ul129_3, ge129_3, ul129_4, ge129_4⟩ := k117_openF hMe129; have hv129_3 := hcc129 3 _ rfl; rw [add_field _ _ 3 (by omega)] at hv129_3; replace hv129_3 := Option.some.inj (hv129_3.symm.trans hx129_3); injection hv129_3 with hva_ hvn_ hvc_; rw [hva_] at ge129_3; rw [hvc_] at ul129_3; have HL129_3 := Aside0.mk (show Kd.V k143 143 _ w.heap.size _ _ ((rd_T117 x103001_1 t127).f2) from Kd.V_mk ul129_3 ge129_3); clear hva_ hvn_ hvc_ ge129_3 ul129_3; have hv129_4 := hcc129 4 _ rfl; rw [add_field _ _ 4 (by omega)] at hv129_4; replace hv129_4 := Option.some.inj (hv129_4.symm.trans hx129_4); injection hv129_4 with hva_ hvn_ hvc_; rw [hva_] at ge129_4; rw [hvc_] at ul129_4; have HL129_4 := Aside0.mk (show Kd.V Kd.string 9 _ w.heap.size _ _ ((rd_T117 x103001_1 t127).f3) from Kd.V_mk ul129_4 ge129_4); clear hva_ hvn_ hvc_ ge129_4 ul129_4 hcc129 hce129; have HR129_3 := Aside0.mk hi129_3; have HC129_3 := Aside0.mk hl129_3; clear hi129_3 hl129_3; have HR129_4 := Aside0.mk hi129_4; have HC129_4 := Aside0.mk hl129_4; clear hi129_4 hl129_4; replace p129 := eq_true p129; replace q129 := eq_true q129) | ((with_reducible refine gate_callee (f := 51) rfl ?_); refine gl 50 Tryz.func51 #[.pointer (some ⟨g, 0, none⟩), .int .i64 (((rd_T117 x103001_1 t127).f2).length : Int)] ((spec_l20Rd_pick.calls (w := _) (w0 := w0) (hI := zI) (hB := zB) (h := A50.out)).mono ?_); rintro e w73 ⟨rfl, hi, hb, hk⟩; refine ⟨_, rfl, ?_⟩; replace HO_103001 := Aside0.mk (Kd.V_mono (Kd.V_keep (Kd.V_mono (ok := fun k_ => (((w.heap.size ≤ k_)) ∧ (k_ ≠ gb101 ∧ (k_ ≠ gb102 ∧ k_ ≠ g)))) (vO HO_103001) (fun k_ hk_ => (⟨hk_, hk_.2.2.2⟩ : _ ∧ k_ ≠ g))) hk (fun _ h => h.2)) (fun _ h => h.1)); replace BK101 := KB hk BK101 NB101_0; replace BK102 := KB hk BK102 NB102_0; replace HL129_3 := Aside0.mk (Kd.V_mono (Kd.V_keep (Kd.V_mono (ok := fun k_ => (((w.heap.size ≤ k_)) ∧ (k_ ≠ gb101 ∧ (k_ ≠ gb102 ∧ k_ ≠ g)))) (vO HL129_3) (fun k_ hk_ => (⟨hk_, hk_.2.2.2⟩ : _ ∧ k_ ≠ g))) hk (fun _ h => h.2)) (fun _ h => h.1)); replace HL129_4 := Aside0.mk (Kd.V_mono (Kd.V_keep (Kd.V_mono (ok := fun k_ => (((w.heap.size ≤ k_)) ∧ (k_ ≠ gb101 ∧ (k_ ≠ gb102 ∧ k_ ≠ g)))) (vO HL129_4) (fun k_ hk_ => (⟨hk_, hk_.2.2.2⟩ : _ ∧ k_ ≠ g))) hk (fun _ h => h.2)) (fun _ h => h.1)); replace HK := KS HK hk; replace HI0 := Aside0.mk (hi); replace HB := Aside0.mk (hb); clear hb hk hi) | ((with_reducible refine gate_callee (f := 51) rfl ?_); refine gl 52 Tryz.func51 #[.pointer (some ⟨g, 0, none⟩), .int .i64 2] ((spec_l20Rd_pick.calls (w := _) (w0 := w0) (hI := zI) (hB := zB) (h := A51.out)).mono ?_); rintro e w74 ⟨rfl, hi, hb, hk⟩; refine ⟨_, rfl, ?_⟩; replace HO_103001 := Aside0.mk (Kd.V_mono (Kd.V_keep (Kd.V_mono (ok := fun k_ => (((w.heap.size ≤ k_)) ∧ (k_ ≠ gb101 ∧ (k_ ≠ gb102 ∧ k_ ≠ g)))) (vO HO_103001) (fun k_ hk_ => (⟨hk_, hk_.2.2.2⟩ : _ ∧ k_ ≠ g))) hk (fun _ h => h.2)) (fun _ h => h.1)); replace BK101 := KB hk BK101 NB101_0; replace BK102 := KB hk BK102 NB102_0; replace HL129_3 := Aside0.mk (Kd.V_mono (Kd.V_keep (Kd.V_mono (ok := fun k_ => (((w.heap.size ≤ k_)) ∧ (k_ ≠ gb101 ∧ (k_ ≠ gb102 ∧ k_ ≠ g)))) (vO HL129_3) (fun k_ hk_ => (⟨hk_, hk_.2.2.2⟩ : _ ∧ k_ ≠ g))) hk (fun _ h => h.2)) (fun _ h => h.1)); replace HL129_4 := Aside0.mk (Kd.V_mono (Kd.V_keep (Kd.V_mono (ok := fun k_ => (((w.heap.size ≤ k_)) ∧ (k_ ≠ gb101 ∧ (k_ ≠ gb102 ∧ k_ ≠ g)))) (vO HL129_4) (fun k_ hk_ => (⟨hk_, hk_.2.2.2⟩ : _ ∧ k_ ≠ g))) hk (fun _ h => h.2)) (fun _ h => h.1)); replace HK := KS HK hk; replace HI0 := Aside0.mk (hi); replace HB := Aside0.mk (hb); clear hb hk hi; have hcz75 := cz2 BK102.out; have hfz75 := fz2 BK102.out) | ((with_reducible refine gate_callee (f := 97) rfl ?_); refine gl 63 Tryz.func97 #[.agg #[.int .i64 x103000_1, .slice (some ad129) x103001_1.length co70], .int .i64 t127, .int .i64 t130, .int .i64 (wrap64 (x4_1 + t109))] ((spec_l5Later.calls (w := _) (hs0_1 := HO_103001.out) (h := A66.out)).mono ?_); rintro e w76 ⟨v140, rfl, ho0, hb⟩; refine ⟨_, rfl, ?_⟩; replace HO_103001 := Aside0.mk (Kd.V_below (vO HO_103001) hb); replace HL129_3 := Aside0.mk (Kd.V_below (vO HL129_3) hb); replace HL129_4 := Aside0.mk (Kd.V_below (vO HL129_4) hb); have HO141 := Aside0.mk (Kd.V_lower (Kd.V_mono (ok' := fun k_ => (w.heap.size ≤ k_) ∧ k_ ≠ gb101 ∧ k_ ≠ gb102 ∧ k_ ≠ g) ho0 (fun k_ hk_ => ⟨Or.elim hk_ (fun hs_ => hs_.1) (fun hn_ => (Nat.le_trans (kZ HK) hn_)), Or.elim hk_ (fun hs_ => hs_.2.1) (fun hn_ => ((kG BK101) k_ hn_)), Or.elim hk_ (fun hs_ => hs_.2.2.1) (fun hn_ => ((kG BK102) k_ hn_)), Or.elim hk_ (fun hs_ => hs_.2.2.2) (fun hn_ => (IsS109.fresh zI k_ hn_))⟩)) (kZ HK)); replace BK101 := kS BK101 hb; replace BK102 := kS BK102 hb; replace HI0 := IS HI0 hb; replace HK := KT HK hb; replace HB := bF HB hb; clear hb ho0) | ((with_reducible refine gate_dst (N := 8) rfl ?_); refine bx (cs := #[.int .i64 0, .slice none 0 0]) (t := 80) ?_; intro gb143 hg w77 hbox hb; replace HO_103001 := vE hg HO_103001 hb; replace HL129_3 := vE hg HL129_3 hb; replace HL129_4 := vE hg HL129_4 hb; replace HO141 := vE hg HO141 hb; have BK143 := Aside0.mk (hbox); have GW143 := GK HK hg; have GE143 := GT HK hg HW0; have NB101_143 := nS hg BK101; have NB143_101 := nG hg BK101; replace BK101 := kS BK101 hb; have NB102_143 := nS hg BK102; have NB143_102 := nG hg BK102; replace BK102 := kS BK102 hb; have NB0_143 := IL HI0 hg; have NB143_0 := IG HI0 hg; replace HI0 := IS HI0 hb; replace HK := KT HK hb; replace HB := bF HB hb; clear hb hbox hg; have hnb78 := NB143_101.out; have hnc78 := NB101_143.out; have hnb79 := NB143_102.out; have hnc79 := NB102_143.out; have hnb80 := NB143_0.out; have hnc80 := NB0_143.out; have hcz81 := cz2 BK143.out; have hfz81 := fz2 BK143.out; obtain ⟨Ao82, co82, eo82⟩ := Kd.V_slice HO141.out; subst eo82; have hcz83 := cz2 BK102.out; have hfz83 := fz2 BK102.out))
        go_roundg kj10
        case measure => have := HK1.out; have := HJ10.out; omega
        case rel => exact ⟨((wrap64 (x4_1 + t109))), (wrap64 (x5_1 - 1)), (t133), (t138), (t139), (.slice Ao82 t139.length co82), zs, zs, H', ⟨by have := HK1.out; have := HJ10.out; omega⟩, ⟨fV HO141⟩, ⟨kQ BK101⟩, ⟨kQ BK102⟩, ⟨zI⟩, ⟨zK⟩, ⟨zB⟩⟩
   ·replace H := bnd H; obtain ⟨⟨t105, t106⟩, A84, H⟩ := H
    dsimp only at H
    simp only [Option.some.injEq, Prod.mk.injEq] at H
    obtain ⟨rfl, rfl, rfl⟩ := H
    have hnb85 := NB102_101.out
    have hnc85 := NB101_102.out
    have hnb86 := NB102_0.out
    have hnc86 := NB0_102.out
    have hcz87 := cz2 BK102.out
    have hfz87 := fz2 BK102.out
    obtain ⟨Ao88, co88, eo88⟩ := Kd.V_slice HO_103001.out
    subst eo88
    go_wp2_with (first | ((with_reducible refine gate_callee (f := 98) rfl ?_); refine gl 68 Tryz.func98 #[.agg #[.int .i64 x103000_1, .slice Ao88 x103001_1.length co88]] ((spec_l5Copy.calls (w := _) (hr0_1 := by repeat (first | exact (Kd.V_reads' HO_103001.out).2.2 | (with_reducible refine Kd.C_alloc ?_ _) | (with_reducible refine Kd.C_drewN ?_ _) | (with_reducible refine Kd.C_drew ?_))) (hc0_1 := (Kd.V_reads' HO_103001.out).2.1) (h := A84.out)).mono ?_); rintro e w89 ⟨v107, rfl, ho0, hb⟩; refine ⟨_, rfl, ?_⟩; have HO108 := Aside0.mk (Kd.N_lower (Kd.N_mono (ok' := fun k_ => (w.heap.size ≤ k_) ∧ k_ ≠ gb101 ∧ k_ ≠ gb102 ∧ k_ ≠ g) (Kd.S_N (Kd.S_bound ho0)) (fun k_ hk_ => ⟨(Nat.le_trans (kZ HK) hk_.2.1), ((kG BK101) k_ hk_.2.1), ((kG BK102) k_ hk_.2.1), (IsS109.fresh zI k_ hk_.2.1)⟩)) (kZ HK)); replace BK101 := kS BK101 hb; replace BK102 := kS BK102 hb; replace HI0 := IS HI0 hb; replace HK := KT HK hb; replace HB := bF HB hb; clear hb ho0; have hnb90 := NB101_0.out; have hnc90 := NB0_101.out; have hcz91 := cz2 BK101.out; have hfz91 := fz2 BK101.out; obtain ⟨Ao92, co92, eo92⟩ := Kd.N_slice HO108.out; subst eo92))
    refine bodyPost_ret (results_cell_row rfl _ _ gb101 80 #[.int .i64 t105, .slice Ao92 t106.length co92] (0, 0) _ rfl (kQ BK101) Tryz.underlying80 rfl (by kernel_rfl)) rfl ?_
    exact ⟨_, zr, fN HO108, zI, zB, zK⟩
end Go.Proofs.YtbncnjgflhoneaaGreatDoor.F
namespace Go.Proofs.YtbncnjgflhoneaaGreatDoor.F
open Go.RowKit Go.Proofs.YtbncnjgflhoneaaGreatDoor.Hand Go.Proofs.YtbncnjgflhoneaaGreatDoorW.PrintWords Go.Proofs.YtbncnjgflhoneaaGreatDoorW.PrintLast Go.Proofs.YtbncnjgflhoneaaGreatDoorW.PrintMore
set_option linter.unusedVariables false
set_option linter.unusedSimpArgs false
def spec_l20Of.j (k : Nat) (b : Bool) (s : List Int) (p : Int) (l : List S117) : Option (Int × ByteArray × ByteArray × Int) :=
 if b = true then (spec_l20Rd_pick.f k s p 4).bind fun x => (spec_l20Addr.f k s x.2).bind fun y => some (x.1, y.1, y.2.1, y.2.2)
 else (spec_l20Rd_pick.f k s p (l.length : Int)).bind fun x => if 0 ≤ x.1 then if x.1 < (l.length : Int) then if ((rd_T117 l x.1).f2.length : Int) = 0 then none else (spec_l20Rd_pick.f k s x.2 ((rd_T117 l x.1).f2.length : Int)).bind fun y => if 0 ≤ y.1 then if y.1 < ((rd_T117 l x.1).f2.length : Int) then some ((rd_T117 l x.1).f0, (rd_T143 (rd_T117 l x.1).f2 y.1).f0.f0, (rd_T143 (rd_T117 l x.1).f2 y.1).f0.f1, y.2) else none else none else none else none
def spec_l20Of.f (k : Nat) (s : List Int) (p : Int) (a0 : Int) (l : List S117) : Option (Int × ByteArray × ByteArray × Int) := if (l.length : Int) = 0 then spec_l20Of.j k true s p l else (spec_l20Rd_pick.f k s p 6).bind fun x => spec_l20Of.j k (x.1 == 0) s x.2 l
theorem itn_cde {p : Prop} [Decidable p] {α : Type} {x : Option α} {r : α} (h : (if p then x else none) = some r) : p ∧ decide p = true ∧ (p = True) ∧ x = some r := by
 by_cases c : p
 ·rw [if_pos c] at h; exact ⟨c, decide_eq_true c, eq_true c, h⟩
 ·rw [if_neg c] at h; cases h
theorem cell_keep {w W : World} {g : Nat} {a : Addr} {v : Value} (hk : KeepBut w W g none) (hg : a.block ≠ g) (h : w.cell? a = some v) : W.cell? a = some v := by
 have hb := hk.2 a.block (World.block_lt_of_cell? w _ h) hg (by simp)
 simpa [World.cell?, hb] using h
theorem cut_out (w : World) (g : Nat) : ∃ W : World, KeepBut w W g none ∧ ∀ a : Addr, a.block = g → W.cell? a = none := by
 refine ⟨{ w with heap := w.heap.setIfInBounds g (.cells #[] 0) }, ⟨by simp, fun k _ hk _ => by simp [Ne.symm hk]⟩, fun a ha => ?_⟩
 subst ha
 by_cases hlt : a.block < w.heap.size <;> simp [World.cell?, hlt]
theorem elem_keep {w : World} {g : Nat} {A : Option Addr} {l : List S117} (h : ∀ W_, KeepBut w W_ g none → Kd.C k117 W_ A l.length l) (i : Int) (h0 : 0 ≤ i) (h1 : i < (l.length : Int)) :
  ∃ ad A3 c3 A4 c4, A = some ad ∧ (rd_T117 l i).f2.length ≤ c3 ∧ ∀ W_, KeepBut w W_ g none →
   (W_.cell? (ad.add (i.toNat * 5)) = some (.int .i64 (rd_T117 l i).f0) ∧ W_.cell? ⟨(ad.add (i.toNat * 5)).block, (ad.add (i.toNat * 5)).off + 1, none⟩ = some (.string (rd_T117 l i).f1.f0) ∧ W_.cell? ⟨(ad.add (i.toNat * 5)).block, (ad.add (i.toNat * 5)).off + 2, none⟩ = some (.string (rd_T117 l i).f1.f1) ∧ W_.cell? ⟨(ad.add (i.toNat * 5)).block, (ad.add (i.toNat * 5)).off + 3, none⟩ = some (.slice A3 (rd_T117 l i).f2.length c3) ∧ W_.cell? ⟨(ad.add (i.toNat * 5)).block, (ad.add (i.toNat * 5)).off + 4, none⟩ = some (.slice A4 (rd_T117 l i).f3.length c4)) ∧
   k143.C W_ A3 (rd_T117 l i).f2.length (rd_T117 l i).f2 := by
 obtain ⟨ad, A3, c3, A4, c4, rfl, x0, x1, x2, x3, x4, l3, i3, _, _⟩ := at_T117 (h w (KeepBut.refl w g none)) i h0 h1
 obtain ⟨W, hk, hn⟩ := cut_out w g
 have hb : (ad.add (i.toNat * 5)).block ≠ g := by
  intro e
  obtain ⟨ad', _, _, _, _, he, y0, _⟩ := at_T117 (h W hk) i h0 h1
  injection he with he
  subst he
  rw [hn _ e] at y0
  cases y0
 refine ⟨ad, A3, c3, A4, c4, rfl, l3, fun W_ hk_ => ⟨⟨cell_keep hk_ hb x0, cell_keep (a := ⟨_, _, none⟩) hk_ hb x1, cell_keep (a := ⟨_, _, none⟩) hk_ hb x2, cell_keep (a := ⟨_, _, none⟩) hk_ hb x3, cell_keep (a := ⟨_, _, none⟩) hk_ hb x4⟩, ?_⟩⟩
 obtain ⟨ad', B3, d3, _, _, he, _, _, _, y3, _, _, j3, _⟩ := at_T117 (h W_ hk_) i h0 h1
 injection he with he
 subst he
 rw [cell_keep (a := ⟨_, _, none⟩) hk_ hb x3] at y3
 injection y3 with y3
 injection y3 with y3 _ _
 rw [y3]
 exact j3
theorem addr_keep {w : World} {g : Nat} {A : Option Addr} {l : List S143} (h : ∀ W_, KeepBut w W_ g none → Kd.C k143 W_ A l.length l) (i : Int) (h0 : 0 ≤ i) (h1 : i < (l.length : Int)) :
  ∃ ad, A = some ad ∧ ∀ W_, KeepBut w W_ g none → W_.cell? (ad.add (i.toNat * 4)) = some (.string (rd_T143 l i).f0.f0) ∧ W_.cell? ⟨(ad.add (i.toNat * 4)).block, (ad.add (i.toNat * 4)).off + 1, none⟩ = some (.string (rd_T143 l i).f0.f1) := by
 obtain ⟨ad, rfl, _⟩ := at_T143 (h w (KeepBut.refl w g none)) i h0 h1
 refine ⟨ad, rfl, fun W_ hk_ => ?_⟩
 obtain ⟨ad', he, y0, y1, _⟩ := at_T143 (h W_ hk_) i h0 h1
 injection he with he
 subst he
 exact ⟨y0, y1⟩
set_option maxHeartbeats 1000000 in
set_option maxRecDepth 100000 in
theorem spec_l20Of.calls (k : Nat) (g : Nat) (s0_0 : List Int) (s0_1 : Int) (a1_0 : Int) (A1_1 : Option Addr) (c1_1 : Nat) (l1_1 : List S117) (r1 : Int) (r2 : ByteArray) (r3 : ByteArray) (r4 : Int) (w0 w : World) (hI : IsS109 w0 w g s0_0 s0_1) (hB : Below w0.heap.size w0 w) (hr1_1 : ∀ W_, KeepBut w W_ g none → Kd.C k117 W_ A1_1 l1_1.length l1_1) (hc1_1 : l1_1.length ≤ c1_1) (h : spec_l20Of.f k s0_0 s0_1 a1_0 l1_1 = some (r1, r2, r3, r4)) :
  Calls Tryz.prog 93 #[.pointer (some ⟨g, 0, none⟩), .agg #[.int .i64 a1_0, .slice A1_1 l1_1.length c1_1]] w fun e w' => e = .returned (.tuple #[.int .i64 r1, .agg #[.string r2, .string r3]]) ∧ IsS109 w0 w' g s0_0 r4 ∧ Below w0.heap.size w0 w' ∧ KeepBut w w' g none := by
 have hu80 := Tryz.underlying80
 have hu32 := Tryz.underlying32
 have HR1_1 := Aside0.mk hr1_1
 have HC1_1 := Aside0.mk hc1_1
 clear hr1_1 hc1_1
 have HI0 := Aside0.mk hI
 have GI0_ := Aside0.mk (IsS109.ge HI0.out)
 have HK := Aside0.mk (KeepBut.refl w g none)
 have HL := Aside0.mk hB.size
 clear hI
 have HW0 := Aside0.mk hB.size
 have HB := Aside0.mk hB
 clear hB
 have H := h
 clear h
 unfold spec_l20Of.f at H
 have HC3 := Aside0.mk H
 clear H
 go_enter Tryz.func93, Tryz.ntmps93
 go_upto_region 1 with (first | ((with_reducible refine gate_dst (N := 3) rfl ?_); refine bx (cs := #[.int .i64 a1_0, .slice A1_1 l1_1.length c1_1]) (t := 80) ?_; intro gb101 hg w4 hbox hb; have BK101 := Aside0.mk (hbox); have GW101 := GK HK hg; have GE101 := GT HK hg HW0; have NB0_101 := IL HI0 hg; have NB101_0 := IG HI0 hg; replace HI0 := IS HI0 hb; replace HK := KT HK hb; replace HB := bF HB hb; clear hb hbox hg) | ((with_reducible refine gate_dst (N := 5) rfl ?_); refine bx (cs := #[.string ⟨#[]⟩, .string ⟨#[]⟩]) (t := 32) ?_; intro gb102 hg w5 hbox hb; have BK102 := Aside0.mk (hbox); have GW102 := GK HK hg; have GE102 := GT HK hg HW0; have NB101_102 := nS hg BK101; have NB102_101 := nG hg BK101; replace BK101 := kS BK101 hb; have NB0_102 := IL HI0 hg; have NB102_0 := IG HI0 hg; replace HI0 := IS HI0 hb; replace HK := KT HK hb; replace HB := bF HB hb; clear hb hbox hg))
 (try simp only [Act.put, List.setIfInBounds_toArray, List.set_cons_zero, List.set_cons_succ])
 go_cut [15] (fun v15 wc => ∃ (x15_2 : Bool) (x1001_2 : Int), v15 = .bool x15_2 ∧ Aside0 (spec_l20Of.j k x15_2 s0_0 x1001_2 l1_1 = some (r1, r2, r3, r4)) ∧ Aside0 (wc.heap[gb101]? = some (.cells #[.int .i64 a1_0, (.slice A1_1 l1_1.length c1_1)] 80 (0, 0))) ∧ Aside0 (wc.heap[gb102]? = some (.cells #[.string (⟨#[]⟩ : ByteArray), .string (⟨#[]⟩ : ByteArray)] 32 (0, 0))) ∧ Aside0 (IsS109 w0 wc g s0_0 x1001_2) ∧ Aside0 (KeepBut w wc g none) ∧ Aside0 (Below w0.heap.size w0 wc))
 case first =>
  have H := HC3.out
  clear HC3
  replace H := its_qn_cqn H; rcases H with ⟨c6b0, c6b1, H⟩ | ⟨c6, c6b0, c6b1, H⟩
  ·(first | rw [c6b0] | (simp only [i64_w, i32_w]; rw [c6b0]) | skip)
   have H' := Aside0.mk H
   clear H
   have hnb7 := NB101_102.out
   have hnc7 := NB102_101.out
   have hcz9 := cz2 BK101.out
   have hfz9 := fz2 BK101.out
   go_wp2
   go_meet
   case rel => exact ⟨(true), (s0_1), zs, H', ⟨kQ BK101⟩, ⟨kQ BK102⟩, ⟨zI⟩, ⟨zK⟩, ⟨zB⟩⟩
  ·have c6b2 : ¬ (l1_1 = []) := fun h_ => c6 (by rw [h_]; rfl)
   (first | rw [c6b0] | (simp only [i64_w, i32_w]; rw [c6b0]) | skip)
   replace H := bnd H; obtain ⟨⟨t103, t104⟩, A10, H⟩ := H
   dsimp only at H
   have H' := Aside0.mk H
   clear H
   have hnb11 := NB101_102.out
   have hnc11 := NB102_101.out
   have hcz13 := cz2 BK101.out
   have hfz13 := fz2 BK101.out
   go_wp2_with (first | (go_at_call 51; refine (spec_l20Rd_pick.calls (w := _) (w0 := w0) (hI := zI) (hB := zB) (h := A10.out)).mono ?_; rintro e w14 ⟨rfl, hi, hb, hk⟩; replace BK101 := KB hk BK101 NB101_0; replace BK102 := KB hk BK102 NB102_0; replace HK := KS HK hk; replace HI0 := Aside0.mk (hi); replace HB := Aside0.mk (hb); clear hb hk hi))
   go_meet
   case rel => exact ⟨((t103 == 0)), (t104), zs, H', ⟨kQ BK101⟩, ⟨kQ BK102⟩, ⟨zI⟩, ⟨zK⟩, ⟨zB⟩⟩
 case rest =>
  clear HC3
  obtain ⟨x15_2, x1001_2, rfl, HA, BK101, BK102, HI0, HK, HB⟩ := hcut
  have H := HA.out
  clear HA
  unfold spec_l20Of.j at H
  replace H := itb H; rcases H with ⟨rfl, H⟩ | ⟨rfl, H⟩
  ·replace H := bnd H; obtain ⟨⟨t105, t106⟩, A16, H⟩ := H
   dsimp only at H
   replace H := bnd H; obtain ⟨⟨t107, t108, t109⟩, A17, H⟩ := H
   simp only [Option.some.injEq, Prod.mk.injEq] at H
   obtain ⟨rfl, rfl, rfl, rfl⟩ := H
   have hnb0 := NB101_102.out
   go_wp2_with (first | ((with_reducible refine gate_callee (f := 51) rfl ?_); refine gl 17 Tryz.func51 #[.pointer (some ⟨g, 0, none⟩), .int .i64 4] ((spec_l20Rd_pick.calls (w := _) (w0 := w0) (hI := zI) (hB := zB) (h := A16.out)).mono ?_); rintro e w18 ⟨rfl, hi, hb, hk⟩; refine ⟨_, rfl, ?_⟩; replace BK101 := KB hk BK101 NB101_0; replace BK102 := KB hk BK102 NB102_0; replace HK := KS HK hk; replace HI0 := Aside0.mk (hi); replace HB := Aside0.mk (hb); clear hb hk hi) | ((with_reducible refine gate_callee (f := 130) rfl ?_); refine gl 19 Tryz.func130 #[.pointer (some ⟨g, 0, none⟩)] ((spec_l20Addr.calls (w := _) (w0 := w0) (hI := zI) (hB := zB) (h := A17.out)).mono ?_); rintro e w19 ⟨rfl, hi, hb, hk⟩; refine ⟨_, rfl, ?_⟩; replace BK101 := KB hk BK101 NB101_0; replace BK102 := KB hk BK102 NB102_0; replace HK := KS HK hk; replace HI0 := Aside0.mk (hi); replace HB := Aside0.mk (hb); clear hb hk hi; have hnb22 := NB102_101.out; have hnc22 := NB101_102.out; have hcz24 := cz2 BK102.out; have hfz24 := fz2 BK102.out))
   refine bodyPost_ret (results_tc rfl _ _ gb102 32 #[.string t107, .string t108] (0, 0) _ rfl (kQ BK102) Tryz.underlying32 rfl (by kernel_rfl)) rfl ?_
   exact ⟨zr, zI, zB, zK⟩
  ·replace H := bnd H; obtain ⟨⟨t110, t111⟩, A25, H⟩ := H
   dsimp only at H
   replace H := itn_cde H; obtain ⟨p, p1, p2, H⟩ := H
   replace H := itn_cde H; obtain ⟨q, q1, q2, H⟩ := H
   replace H := itp_cqn H; obtain ⟨z, z1, z2, H⟩ := H
   replace H := bnd H; obtain ⟨⟨t112, t113⟩, A26, H⟩ := H
   dsimp only at H
   replace H := itn_cde H; obtain ⟨u, u1, u2, H⟩ := H
   replace H := itn_cde H; obtain ⟨v, v1, v2, H⟩ := H
   simp only [Option.some.injEq, Prod.mk.injEq] at H
   obtain ⟨rfl, rfl, rfl, rfl⟩ := H
   obtain ⟨ad, A3, c3, A4, c4, rfl, l3, hE⟩ := elem_keep HR1_1.out t110 p q
   obtain ⟨ae, rfl, hF⟩ := addr_keep (fun W_ hk => (hE W_ hk).2) t112 u v
   have HE := Aside0.mk (fun W_ hk => (hE W_ hk).1)
   have HF := Aside0.mk hF
   clear hE hF p q u v z
   go_wp2
   replace BK101 := Aside0.mk (blk_drew BK101.out)
   replace BK102 := Aside0.mk (blk_drew BK102.out)
   replace HI0 := Aside0.mk (IsS109.drew HI0.out)
   replace HK := Aside0.mk (keep_drew HK.out)
   replace HB := Aside0.mk (below_drew1 HB.out)
   refine start_ (n := 11) (S := fun w' => w'.cell? ⟨gb101, 1, none⟩ = some (.slice (some ad) l1_1.length c1_1) ∧ w'.cell? (ad.add (t110.toNat * 5)) = some (.int .i64 (rd_T117 l1_1 t110).f0) ∧ w'.cell? ⟨(ad.add (t110.toNat * 5)).block, (ad.add (t110.toNat * 5)).off + 1, none⟩ = some (.string (rd_T117 l1_1 t110).f1.f0) ∧ w'.cell? ⟨(ad.add (t110.toNat * 5)).block, (ad.add (t110.toNat * 5)).off + 2, none⟩ = some (.string (rd_T117 l1_1 t110).f1.f1) ∧ w'.cell? ⟨(ad.add (t110.toNat * 5)).block, (ad.add (t110.toNat * 5)).off + 3, none⟩ = some (.slice (some ae) (rd_T117 l1_1 t110).f2.length c3) ∧ w'.cell? ⟨(ad.add (t110.toNat * 5)).block, (ad.add (t110.toNat * 5)).off + 4, none⟩ = some (.slice A4 (rd_T117 l1_1 t110).f3.length c4)) (ds := []) #[false, false, false, false, false, false, false, false, false, false, false] (by kernel_rfl) rfl rfl ⟨(blk_cell BK101.out 1).trans rfl, HE.out _ HK.out⟩ (fun hHeld => ?_)
   generalize wc.drew = w5 at BK101 BK102 HI0 HK HB hHeld ⊢
   refine pu 0 20 ?_
   refine pu 2 22 ?_
   refine pu 3 23 ?_
   refine ta 1 21 ?_
   refine ta 4 24 ?_
   refine pu 5 25 ?_
   refine join_ (σ := Nat) 1 #[true, true, true, true, true, true, true, true, true, true, false] (fun s_ => [(26, .int .i64 t110), (27, .pointer (some (ad.add (t110.toNat * 5)))), (28, .agg #[.int .i64 (rd_T117 l1_1 t110).f0, .string (rd_T117 l1_1 t110).f1.f0, .string (rd_T117 l1_1 t110).f1.f1, .slice (some ae) (rd_T117 l1_1 t110).f2.length c3, .slice A4 (rd_T117 l1_1 t110).f3.length c4]), (6, .pointer (some ⟨s_, 0, none⟩))]) (fun s_ w' => Aside0 (w'.heap[gb101]? = some (.cells #[.int .i64 a1_0, .slice (some ad) l1_1.length c1_1] 80 (0, 0))) ∧ Aside0 (w'.heap[gb102]? = some (.cells #[.string (⟨#[]⟩ : ByteArray), .string (⟨#[]⟩ : ByteArray)] 32 (0, 0))) ∧ Aside0 (w'.heap[s_]? = some (.cells #[.int .i64 0, .string (⟨#[]⟩ : ByteArray), .string (⟨#[]⟩ : ByteArray), .slice none 0 0, .slice none 0 0] 117 (0, 0))) ∧ Aside0 (w0.heap.size ≤ s_) ∧ Aside0 (w.heap.size ≤ s_) ∧ Aside0 (g ≠ s_) ∧ Aside0 (s_ ≠ g) ∧ Aside0 (IsS109 w0 w' g s0_0 t111) ∧ Aside0 (KeepBut w w' g none) ∧ Aside0 (Below w0.heap.size w0 w')) ?_ ?_
   rotate_left
   ·intro hCont
    refine tw 6 9 (some 26) (some 6) (fun K hK => ?_) (fun K hK => ?_)
    ·refine goes_ Tryz.func51 (by kernel_rfl) rfl #[.pointer (some ⟨g, 0, none⟩), .int .i64 (l1_1.length : Int)] (by rfl) rfl rfl zm ?_
     refine (spec_l20Rd_pick.calls (w := _) (w0 := w0) (hI := zI) (hB := zB) (h := A25.out)).mono ?_
     rintro e w6 ⟨rfl, hi, hb, hk⟩
     refine ⟨_, rfl, ?_⟩
     replace BK101 := KB hk BK101 NB101_0
     replace BK102 := KB hk BK102 NB102_0
     replace HK := KS HK hk
     replace HI0 := Aside0.mk hi
     replace HB := Aside0.mk hb
     clear hb hk hi
     refine kO 26 hK (fun hHeld => ?_) ⟨(blk_cell BK101.out 1).trans rfl, HE.out _ HK.out⟩
     clear hK K
     refine pu 7 27 ?_
     refine ta 8 28 ?_
     refine on 9 (some 6) (fun K hK => ?_)
     refine box_step ?hg (N := 6) ?hd (cs := #[.int .i64 0, .string (⟨#[]⟩ : ByteArray), .string (⟨#[]⟩ : ByteArray), .slice none 0 0, .slice none 0 0]) (t := 117) ?hr ?_; (case hd => rfl); (case hg => rfl); (case hr => first | (go_simp; done) | (go_simp; rfl))
     intro gb110 hg w7 hbox hb
     have GW110 := GK HK hg
     have GE110 := GT HK hg HW0
     replace BK101 := kS BK101 hb
     replace BK102 := kS BK102 hb
     have NB0_110 := IL HI0 hg
     have NB110_0 := IG HI0 hg
     replace HI0 := IS HI0 hb
     replace HK := KT HK hb
     replace HB := bF HB hb
     have BK110 := Aside0.mk hbox
     clear hb hbox hg
     refine kO 6 hK (fun hHeld => ?_) ⟨(blk_cell BK101.out 1).trans rfl, HE.out _ HK.out⟩
     clear hK K
     exact norm_ (by simp only [putAll, Act.put, List.setIfInBounds_toArray, List.set_cons_zero, List.set_cons_succ]) (hCont gb110 _ ⟨BK101, BK102, BK110, GE110, GW110, NB0_110, NB110_0, HI0, HK, HB⟩)
    ·refine box_step ?hg (N := 6) ?hd (cs := #[.int .i64 0, .string (⟨#[]⟩ : ByteArray), .string (⟨#[]⟩ : ByteArray), .slice none 0 0, .slice none 0 0]) (t := 117) ?hr ?_; (case hd => rfl); (case hg => rfl); (case hr => first | (go_simp; done) | (go_simp; rfl))
     intro gb110 hg w7 hbox hb
     have GW110 := GK HK hg
     have GE110 := GT HK hg HW0
     replace BK101 := kS BK101 hb
     replace BK102 := kS BK102 hb
     have NB0_110 := IL HI0 hg
     have NB110_0 := IG HI0 hg
     replace HI0 := IS HI0 hb
     replace HK := KT HK hb
     replace HB := bF HB hb
     have BK110 := Aside0.mk hbox
     clear hb hbox hg
     refine kO 6 hK (fun hHeld => ?_) ⟨(blk_cell BK101.out 1).trans rfl, HE.out _ HK.out⟩
     clear hK K
     refine on 6 (some 26) (fun K hK => ?_)
     refine goes_ Tryz.func51 (by kernel_rfl) rfl #[.pointer (some ⟨g, 0, none⟩), .int .i64 (l1_1.length : Int)] (by rfl) rfl rfl zm ?_
     refine (spec_l20Rd_pick.calls (w := _) (w0 := w0) (hI := zI) (hB := zB) (h := A25.out)).mono ?_
     rintro e w6 ⟨rfl, hi, hb, hk⟩
     refine ⟨_, rfl, ?_⟩
     replace BK101 := KB hk BK101 NB101_0
     replace BK102 := KB hk BK102 NB102_0
     replace BK110 := KB hk BK110 NB110_0
     replace HK := KS HK hk
     replace HI0 := Aside0.mk hi
     replace HB := Aside0.mk hb
     clear hb hk hi
     refine kO 26 hK (fun hHeld => ?_) ⟨(blk_cell BK101.out 1).trans rfl, HE.out _ HK.out⟩
     clear hK K
     refine pu 7 27 ?_
     refine ta 8 28 ?_
     exact norm_ (by simp only [putAll, Act.put, List.setIfInBounds_toArray, List.set_cons_zero, List.set_cons_succ]) (hCont gb110 _ ⟨BK101, BK102, BK110, GE110, GW110, NB0_110, NB110_0, HI0, HK, HB⟩)
   clear BK101 BK102 HI0 HK HB
   rintro gb110 w8 ⟨BK101, BK102, BK110, GE110, GW110, NB0_110, NB110_0, HI0, HK, HB⟩
   have NB101_110 := Aside0.mk (blk_ne BK101.out BK110.out (by decide))
   have NB110_101 := Aside0.mk (blk_ne BK110.out BK101.out (by decide))
   have NB102_110 := Aside0.mk (blk_ne BK102.out BK110.out (by decide))
   have NB110_102 := Aside0.mk (blk_ne BK110.out BK102.out (by decide))
   have hHeld := And.intro ((blk_cell BK101.out 1).trans rfl : w8.cell? ⟨gb101, 1, none⟩ = some (.slice (some ad) l1_1.length c1_1)) (HE.out _ HK.out)
   refine norm_ (a' := ?_) ?_ ?_
   rotate_left
   ·simp only [putAll, Act.put, List.setIfInBounds_toArray, List.set_cons_zero, List.set_cons_succ]
    rfl
   refine on 10 none (fun K hK => ?_)
   have hs_ := cz5 BK110.out
   have hf_ := fz5 BK110.out
   refine skW (fun w9 hw => ?_)
   have BK := Aside0.mk (show w9.heap[gb110]? = some (.cells #[.int .i64 (rd_T117 l1_1 t110).f0, .string (rd_T117 l1_1 t110).f1.f0, .string (rd_T117 l1_1 t110).f1.f1, .slice (some ae) (rd_T117 l1_1 t110).f2.length c3, .slice A4 (rd_T117 l1_1 t110).f3.length c4] 117 (0, 0)) by rw [hw]; exact kQ BK110)
   replace BK101 := Aside0.mk (show w9.heap[gb101]? = some (.cells #[.int .i64 a1_0, .slice (some ad) l1_1.length c1_1] 80 (0, 0)) by rw [hw]; exact kQ BK101)
   replace BK102 := Aside0.mk (show w9.heap[gb102]? = some (.cells #[.string (⟨#[]⟩ : ByteArray), .string (⟨#[]⟩ : ByteArray)] 32 (0, 0)) by rw [hw]; exact kQ BK102)
   replace HI0 := Aside0.mk (show IsS109 w0 w9 g s0_0 t111 by rw [hw]; exact zI)
   replace HK := Aside0.mk (show KeepBut w w9 g none by rw [hw]; exact zK)
   replace HB := Aside0.mk (show Below w0.heap.size w0 w9 by rw [hw]; exact zB)
   clear hw BK110 hs_ hf_
   refine hK.out _ _ ⟨(blk_cell BK101.out 1).trans rfl, HE.out _ HK.out⟩ (fun hHeld => ?_)
   clear hK K
   refine done_ (by kernel_rfl) ?_
   have hz_ := cz5 BK.out
   have hnb_ := NB101_110.out
   go_wp2
   replace BK := Aside0.mk (blk_drew BK.out)
   replace BK102 := Aside0.mk (blk_drew BK102.out)
   replace HI0 := Aside0.mk (IsS109.drew HI0.out)
   replace HK := Aside0.mk (keep_drew HK.out)
   replace HB := Aside0.mk (below_drew1 HB.out)
   clear hHeld hz_ HE
   refine start_ (n := 14) (S := fun w' => w'.cell? ⟨gb110, 0, none⟩ = some (.int .i64 (rd_T117 l1_1 t110).f0) ∧ w'.cell? ⟨gb110, 3, none⟩ = some (.slice (some ae) (rd_T117 l1_1 t110).f2.length c3) ∧ w'.cell? (ae.add (t112.toNat * 4)) = some (.string (rd_T143 (rd_T117 l1_1 t110).f2 t112).f0.f0) ∧ w'.cell? ⟨(ae.add (t112.toNat * 4)).block, (ae.add (t112.toNat * 4)).off + 1, none⟩ = some (.string (rd_T143 (rd_T117 l1_1 t110).f2 t112).f0.f1)) (ds := []) #[false, false, false, false, false, false, false, false, false, false, false, false, false, false] (by kernel_rfl) rfl rfl ⟨(blk_cell BK.out 0).trans rfl, (blk_cell BK.out 3).trans rfl, HF.out _ HK.out⟩ (fun hHeld => ?_)
   generalize w9.drew = w10 at BK BK101 BK102 HI0 HK HB hHeld ⊢
   refine pu 0 37 ?_
   refine pu 2 39 ?_
   refine pu 4 41 ?_
   refine pu 5 42 ?_
   refine ta 1 38 ?_
   refine ta 3 40 ?_
   refine ta 6 43 ?_
   refine pu 7 44 ?_
   refine on 8 (some 45) (fun K hK => ?_)
   refine goes_ Tryz.func51 (by kernel_rfl) rfl #[.pointer (some ⟨g, 0, none⟩), .int .i64 ((rd_T117 l1_1 t110).f2.length : Int)] (by rfl) rfl rfl zm ?_
   refine (spec_l20Rd_pick.calls (w := _) (w0 := w0) (hI := zI) (hB := zB) (h := A26.out)).mono ?_
   rintro e w11 ⟨rfl, hi, hb, hk⟩
   refine ⟨_, rfl, ?_⟩
   replace BK := KB hk BK NB110_0
   replace BK102 := KB hk BK102 NB102_0
   replace HK := KS HK hk
   replace HI0 := Aside0.mk hi
   replace HB := Aside0.mk hb
   clear hb hk hi
   refine kO 45 hK (fun hHeld => ?_) ⟨(blk_cell BK.out 0).trans rfl, (blk_cell BK.out 3).trans rfl, HF.out _ HK.out⟩
   clear hK K
   refine pu 9 46 ?_
   refine pu 10 47 ?_
   refine ta 11 48 ?_
   refine pu 12 4 ?_
   refine on 13 none (fun K hK => ?_)
   have hs_ := cz2 BK102.out
   have hf_ := fz2 BK102.out
   refine skW (fun w12 hw => ?_)
   replace BK := Aside0.mk (show w12.heap[gb110]? = some (.cells #[.int .i64 (rd_T117 l1_1 t110).f0, .string (rd_T117 l1_1 t110).f1.f0, .string (rd_T117 l1_1 t110).f1.f1, .slice (some ae) (rd_T117 l1_1 t110).f2.length c3, .slice A4 (rd_T117 l1_1 t110).f3.length c4] 117 (0, 0)) by rw [hw]; exact kQ BK)
   replace BK102 := Aside0.mk (show w12.heap[gb102]? = some (.cells #[.string (rd_T143 (rd_T117 l1_1 t110).f2 t112).f0.f0, .string (rd_T143 (rd_T117 l1_1 t110).f2 t112).f0.f1] 32 (0, 0)) by rw [hw]; exact kQ BK102)
   replace HI0 := Aside0.mk (show IsS109 w0 w12 g s0_0 t113 by rw [hw]; exact zI)
   replace HK := Aside0.mk (show KeepBut w w12 g none by rw [hw]; exact zK)
   replace HB := Aside0.mk (show Below w0.heap.size w0 w12 by rw [hw]; exact zB)
   clear hw hs_ hf_
   refine hK.out _ _ ⟨(blk_cell BK.out 0).trans rfl, (blk_cell BK.out 3).trans rfl, HF.out _ HK.out⟩ (fun hHeld => ?_)
   clear hK K
   refine done_ (by kernel_rfl) ?_
   try go_wp2
   refine bodyPost_ret (results_tc rfl _ _ gb102 32 #[.string (rd_T143 (rd_T117 l1_1 t110).f2 t112).f0.f0, .string (rd_T143 (rd_T117 l1_1 t110).f2 t112).f0.f1] (0, 0) _ rfl (kQ BK102) Tryz.underlying32 rfl (by kernel_rfl)) rfl ?_
   exact ⟨zr, zI, zB, zK⟩
end Go.Proofs.YtbncnjgflhoneaaGreatDoor.F
