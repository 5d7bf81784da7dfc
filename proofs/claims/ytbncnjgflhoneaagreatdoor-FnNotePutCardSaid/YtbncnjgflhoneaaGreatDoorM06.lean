/- Of this claim, merged by program: F95. -/
import Derived.Test.YtbncnjgflhoneaaGreatDoorM02
import Derived.Test.YtbncnjgflhoneaaGreatDoorM05
namespace Go.Proofs.YtbncnjgflhoneaaGreatDoor.F
open Go.RowKit Go.Proofs.YtbncnjgflhoneaaGreatDoor.Hand Go.Proofs.YtbncnjgflhoneaaGreatDoorW.PrintWords Go.Proofs.YtbncnjgflhoneaaGreatDoorW.PrintLast Go.Proofs.YtbncnjgflhoneaaGreatDoorW.PrintMore
set_option linter.unusedVariables false
set_option linter.unusedSimpArgs false
def spec_l5Add.l0 : Nat → Int → Int → Int → List (S117) → ByteArray → ByteArray → List (S32) → List ByteArray → Int → ByteArray → ByteArray → List (S143) → List ByteArray → Option (Int × (List (S117)))
 | 0, _, _, _, _, _, _, _, _, _, _, _, _, _ => none
 | k + 1, x2, x8, x102000, x102001, x103000, x103001, x103002, x103003, x111000, x111001, x111002, x111003, x111004 => if x8 < (x103002.length : Int) then (if 0 ≤ x8 then ((some (([(⟨(⟨(rd_T32 x103002 x8).f0, (rd_T32 x103002 x8).f1⟩ : S32), 0, x2⟩ : S143)] : List (S143)) : List (S143))).bind fun y112 => (if x111003.length + y112.length < 2932031007402 then (spec_l5Add.l0 k x2 (wrap64 (x8 + 1)) x102000 x102001 x103000 x103001 x103002 x103003 x111000 x111001 x111002 (x111003 ++ y112) x111004) else (none))) else (none)) else ((some (([] : List (S117)) : List (S117))).bind fun y118 => (if y118.length + x102001.length < 1599289640401 then ((some (y118 ++ x102001 : List (S117))).bind fun y121 => ((some (([(⟨x111000, (⟨x111001, x111002⟩ : S32), x111003, x111004⟩ : S117)] : List (S117)) : List (S117))).bind fun y124 => (if y121.length + y124.length < 1599289640401 then (some (wrap64 (x102000 + 1), (y121 ++ y124))) else (none)))) else (none)))
def spec_l5Add.f (k : Nat) (a0_0 : Int) (l0_1 : List (S117)) (a1_0 : ByteArray) (a1_1 : ByteArray) (l1_2 : List (S32)) (l1_3 : List ByteArray) (a2 : Int) : Option (Int × (List (S117))) := (some (([] : List ByteArray) : List ByteArray)).bind fun y104 => (if y104.length + l1_3.length < 8796093022208 then (spec_l5Add.l0 k a2 0 a0_0 l0_1 a1_0 a1_1 l1_2 l1_3 (wrap64 (a0_0 + 1)) a1_0 a1_1 ([] : List (S143)) (y104 ++ l1_3)) else (none))
def spec_l5Add.T1 : Bool × List (List Nat × List Nat) := (true, [([], []), ([0], [0]), ([1], [1]), ([], []), ([3], [3]), ([], []), ([], []), ([6], [6]), ([5, 7], [5, 7]), ([2, 4, 8], [2, 4, 8]), ([], []), ([10, 9, 8, 0, 1, 2, 3, 4, 5, 6, 7, 8, 9, 10], [9, 10])])
def spec_l5Add.B1 : List Nat := [0, 1, 3, 0, 8, 0, 0, 64, 224, 511, 0, 2047]
theorem spec_l5Add.tab1 : rtab .any (opsOf Tryz.f95 1) = spec_l5Add.T1 := by kernel_rfl
theorem spec_l5Add.bits1 : waitsOk spec_l5Add.T1.2 spec_l5Add.B1 = true := by kernel_rfl
def spec_l5Add.T5 : Bool × List (List Nat × List Nat) := (true, [([], []), ([0], [0]), ([], []), ([2], [2]), ([], []), ([3, 4], [3, 4]), ([5], [5]), ([], []), ([6, 7], [6, 7]), ([8], [8]), ([1, 9], [1, 9]), ([0, 1, 2, 3, 4, 5, 6, 7, 8, 9, 10], []), ([11, 10, 10, 0, 1, 2, 3, 4, 5, 6, 7, 8, 9, 10], [10, 11])])
def spec_l5Add.B5 : List Nat := [0, 1, 0, 4, 0, 28, 60, 0, 252, 508, 1023, 2047, 4095]
theorem spec_l5Add.tab5 : rtab .any (opsOf Tryz.f95 5) = spec_l5Add.T5 := by kernel_rfl
theorem spec_l5Add.bits5 : waitsOk spec_l5Add.T5.2 spec_l5Add.B5 = true := by kernel_rfl
def spec_l5Add.T7 : Bool × List (List Nat × List Nat) := (true, [([], []), ([], []), ([1], [1]), ([0, 2], [0, 2]), ([], []), ([4], [4]), ([3, 5, 3], [3, 5]), ([0, 1, 2, 3, 4, 5, 6], []), ([7, 6, 6, 0, 1, 2, 3, 4, 5, 6], [6, 7])])
def spec_l5Add.B7 : List Nat := [0, 0, 2, 7, 0, 16, 63, 127, 255]
theorem spec_l5Add.tab7 : rtab .any (opsOf Tryz.f95 7) = spec_l5Add.T7 := by kernel_rfl
theorem spec_l5Add.bits7 : waitsOk spec_l5Add.T7.2 spec_l5Add.B7 = true := by kernel_rfl
set_option maxHeartbeats 8000000 in
set_option maxRecDepth 100000 in
theorem spec_l5Add.calls (k : Nat) (a0_0 : Int) (P0_1_ : Nat → Prop) (A0_1 : Option Addr) (c0_1 : Nat) (l0_1 : List (S117)) (a1_0 : ByteArray) (a1_1 : ByteArray) (A1_2 : Option Addr) (c1_2 : Nat) (l1_2 : List (S32)) (A1_3 : Option Addr) (c1_3 : Nat) (l1_3 : List ByteArray) (a2 : Int) (r1 : Int) (r2 : List (S117)) (w : World) (hs0_1 : Kd.V k117 117 w w.heap.size (fun k_ => P0_1_ k_) (.slice A0_1 l0_1.length c0_1) l0_1) (hr1_2 : Kd.C k32 w A1_2 l1_2.length l1_2) (hc1_2 : l1_2.length ≤ c1_2) (hr1_3 : Kd.C Kd.string w A1_3 l1_3.length l1_3) (hc1_3 : l1_3.length ≤ c1_3) (h : spec_l5Add.f k a0_0 l0_1 a1_0 a1_1 l1_2 l1_3 a2 = some (r1, r2)) :
  Calls Tryz.prog 95 #[.agg #[.int .i64 a0_0, .slice A0_1 l0_1.length c0_1], .agg #[.string a1_0, .string a1_1, .slice A1_2 l1_2.length c1_2, .slice A1_3 l1_3.length c1_3], .int .i64 a2] w fun e w' => ∃ v1_ : Value, e = .returned (.agg #[.int .i64 r1, v1_]) ∧ Kd.N k117 117 w' w.heap.size (fun k_ => (P0_1_ k_ ∨ w.heap.size ≤ k_)) v1_ r2 ∧ Below w.heap.size w w' := by
 have hu80 := Tryz.underlying80
 have hu35 := Tryz.underlying35
 have hu32 := Tryz.underlying32
 have hu117 := Tryz.underlying117
 have hu143 := Tryz.underlying143
 have HO0_1 := Aside0.mk (show Kd.V k117 117 w w.heap.size (fun k_ => (P0_1_ k_ ∨ w.heap.size ≤ k_)) (.slice A0_1 l0_1.length c0_1) l0_1 from Kd.V_mono hs0_1 (fun k_ hk => .inl hk))
 have HR1_2 := Aside0.mk hr1_2
 have HC1_2 := Aside0.mk hc1_2
 clear hr1_2 hc1_2
 have HR1_3 := Aside0.mk hr1_3
 have HC1_3 := Aside0.mk hc1_3
 clear hr1_3 hc1_3
 have HB := Aside0.mk (Below.refl w.heap.size w)
 have H := h
 clear h
 unfold spec_l5Add.f at H
 first | (with_reducible replace H := bne (([] : List ByteArray) : List ByteArray) H; obtain ⟨y104, Ny104, H⟩ := H) | (generalize hy_ : (([] : List ByteArray) : List ByteArray) = y104 at H; have Ny104 := Aside0.mk hy_.symm; clear hy_)
 replace H := itn_L H; obtain ⟨LMc4, H⟩ := H
 first | (with_reducible replace H := bne (y104 ++ l1_3 : List ByteArray) H; obtain ⟨y107, Ny107, H⟩ := H) | (generalize hy_ : (y104 ++ l1_3 : List ByteArray) = y107 at H; have Ny107 := Aside0.mk hy_.symm; clear hy_)
 have H' := Aside0.mk H
 clear H
 go_enter Tryz.func95, Tryz.ntmps95
 try go_wp2_with (first | ((with_reducible refine gate_dst (N := 3) rfl ?_); refine bx (cs := #[.int .i64 a0_0, .slice A0_1 l0_1.length c0_1]) (t := 80) ?_; intro gb101 hg w5 hbox hb; replace HO0_1 := vE hg HO0_1 hb; have BK101 := Aside0.mk (hbox); have GW101 := gS hg; have GE101 := gS hg; replace HB := bS hb; clear hb hbox hg) | ((with_reducible refine gate_dst (N := 4) rfl ?_); refine bx (cs := #[.string a1_0, .string a1_1, .slice A1_2 l1_2.length c1_2, .slice A1_3 l1_3.length c1_3]) (t := 35) ?_; intro gb102 hg w6 hbox hb; replace HO0_1 := vE hg HO0_1 hb; have BK102 := Aside0.mk (hbox); have GW102 := gS hg; have GE102 := gS hg; have NB101_102 := nS hg BK101; have NB102_101 := nG hg BK101; replace BK101 := kS BK101 hb; replace HB := bS hb; clear hb hbox hg) | ((with_reducible refine gate_dst (N := 6) rfl ?_); refine bx (cs := #[.int .i64 0, .slice none 0 0]) (t := 80) ?_; intro gb103 hg w7 hbox hb; replace HO0_1 := vE hg HO0_1 hb; have BK103 := Aside0.mk (hbox); have GW103 := gS hg; have GE103 := gS hg; have NB101_103 := nS hg BK101; have NB103_101 := nG hg BK101; replace BK101 := kS BK101 hb; have NB102_103 := nS hg BK102; have NB103_102 := nG hg BK102; replace BK102 := kS BK102 hb; replace HB := bS hb; clear hb hbox hg))
 replace HO0_1 := Aside0.mk (Kd.V_drew HO0_1.out)
 replace BK101 := Aside0.mk (blk_drew BK101.out)
 replace BK102 := Aside0.mk (blk_drew BK102.out)
 replace BK103 := Aside0.mk (blk_drew BK103.out)
 replace HB := Aside0.mk (below_drew1 HB.out)
 refine start_ (n := 12) (S := fun w' => w'.cell? ⟨gb101, 0, none⟩ = some (.int .i64 a0_0) ∧ w'.cell? ⟨gb101, 1, none⟩ = some (.slice A0_1 l0_1.length c0_1) ∧ w'.cell? ⟨gb102, 0, none⟩ = some (.string a1_0) ∧ w'.cell? ⟨gb102, 1, none⟩ = some (.string a1_1) ∧ w'.cell? ⟨gb102, 2, none⟩ = some (.slice A1_2 l1_2.length c1_2) ∧ w'.cell? ⟨gb102, 3, none⟩ = some (.slice A1_3 l1_3.length c1_3)) (ds := []) #[false, false, false, false, false, false, false, false, false, false, false, false] (by kernel_rfl) rfl rfl ⟨(blk_cell BK101.out 0).trans rfl, (blk_cell BK101.out 1).trans rfl, (blk_cell BK102.out 0).trans rfl, (blk_cell BK102.out 1).trans rfl, (blk_cell BK102.out 2).trans rfl, (blk_cell BK102.out 3).trans rfl⟩ (fun hHeld => ?_); refine with_tabW spec_l5Add.tab1 spec_l5Add.bits1 (fun HT_ HW_ => ?_)
 generalize w7.drew = w8 at HO0_1 BK101 BK102 BK103 HB hHeld ⊢
 refine pu 0 9 ?_
 refine pu 3 12 ?_
 refine pu 6 15 ?_
 refine ta 1 10 ?_
 refine pu 2 11 ?_
 refine ta 4 13 ?_
 refine ta 7 16 ?_
 refine join_ (σ := Value × Value × Nat) 1 #[true, true, true, true, true, true, true, true, true, true, true, false] (fun s_ => [(14, s_.1), (17, s_.2.1), (7, .pointer (some ⟨s_.2.2, 0, none⟩)), (18, .agg #[.int .i64 (wrap64 (a0_0 + 1)), .string a1_0, .string a1_1, .slice none 0 0, s_.2.1])]) (fun s_ w' => (w'.cell? ⟨gb101, 0, none⟩ = some (.int .i64 a0_0) ∧ w'.cell? ⟨gb101, 1, none⟩ = some (.slice A0_1 l0_1.length c0_1) ∧ w'.cell? ⟨gb102, 0, none⟩ = some (.string a1_0) ∧ w'.cell? ⟨gb102, 1, none⟩ = some (.string a1_1) ∧ w'.cell? ⟨gb102, 2, none⟩ = some (.slice A1_2 l1_2.length c1_2) ∧ w'.cell? ⟨gb102, 3, none⟩ = some (.slice A1_3 l1_3.length c1_3)) ∧ (Kd.V k117 117 w' w.heap.size (fun k_ => (P0_1_ k_ ∨ w.heap.size ≤ k_) ∧ some k_ ≠ (s_.2.1 : Value).ownBlock ∧ k_ ≠ gb101 ∧ k_ ≠ gb102 ∧ k_ ≠ gb103 ∧ k_ ≠ s_.2.2) (.slice A0_1 l0_1.length c0_1) l0_1) ∧ (Kd.R Kd.string 9 w' w.heap.size (fun k_ => (w.heap.size ≤ k_)) s_.2.1 y107) ∧ (w'.heap[gb101]? = some (.cells #[.int .i64 a0_0, .slice A0_1 l0_1.length c0_1] 80 (0, 0))) ∧ (w'.heap[gb102]? = some (.cells #[.string a1_0, .string a1_1, .slice A1_2 l1_2.length c1_2, .slice A1_3 l1_3.length c1_3] 35 (0, 0))) ∧ (w'.heap[gb103]? = some (.cells #[.int .i64 0, .slice none 0 0] 80 (0, 0))) ∧ (w'.heap[s_.2.2]? = some (.cells #[.int .i64 0, .string (⟨#[]⟩ : ByteArray), .string (⟨#[]⟩ : ByteArray), .slice none 0 0, .slice none 0 0] 117 (0, 0))) ∧ (w.heap.size ≤ s_.2.2) ∧ (w.heap.size ≤ s_.2.2) ∧ (gb101 ≠ s_.2.2) ∧ (s_.2.2 ≠ gb101) ∧ (gb102 ≠ s_.2.2) ∧ (s_.2.2 ≠ gb102) ∧ (gb103 ≠ s_.2.2) ∧ (s_.2.2 ≠ gb103) ∧ (Below w.heap.size w w')) ?_ ?_
 rotate_left
 ·intro hCont
  refine tw 5 10 (some 14) (some 7) (fun K hK => ?_) (fun K hK => ?_)
  ·skip
   refine rL Kd.string 9 14 Ny104 (fun v105 w9 ho10 hb => ?_)
   replace HO0_1 := Aside0.mk (Kd.V_elder' (vO HO0_1) (Kd.R_base ho10) hb)
   have HO106 := Aside0.mk (Kd.R_lower (Kd.R_newM (M := fun k_ => (w.heap.size ≤ k_)) ho10 (bZ) (fun k_ h_ => h_)) (bZ))
   replace BK101 := kS BK101 hb
   replace BK102 := kS BK102 hb
   replace BK103 := kS BK103 hb
   replace HB := bS hb
   clear hb ho10
   refine kO 14 hK (fun hHeld => ?_)
   clear hK K
   refine tw 8 10 (some 17) (some 7) (fun K hK => ?_) (fun K hK => ?_)
   ·skip
    refine Kd.R_append_rows_step Kd.string (w0 := w) w.heap.size (by rfl) (.tmp 14) (.tmp 16) 25 9 (.string ⟨#[]⟩) 16 rfl Tryz.underlying25 info9 rfl z0_ (by omega) v105 y104 l1_3 _ _ _ (fun k_ => (w.heap.size ≤ k_)) (fun _ => False) rfl rfl ?aO ?aR (fun _ _ h => h) (fun _ h => h.elim) ?aF ?aB ?aS ?aL ?_
    (case aR => exact cB HR1_3)
    (case aB => exact zB)
    (case aF => exact (fun k_ hk => (Nat.le_trans (bZ) hk)))
    (case aO => exact (by (with_reducible repeat (first | apply Kd.R_alloc | apply Kd.R_drewN | apply Kd.R_drew)); exact Kd.R_mono HO106.out (fun _ hk => hk.1)))
    (case aS => exact (bZ))
    (case aL => have := LMc4.out; omega)
    intro v108 w11 ho hb hg hat
    rw [← Ny107.out] at ho
    replace HO0_1 := Aside0.mk (Kd.V_afterv (ok := (fun k_ => (P0_1_ k_ ∨ w.heap.size ≤ k_) ∧ k_ ≠ gb101 ∧ k_ ≠ gb102 ∧ k_ ≠ gb103)) (fV HO0_1) hg hat)
    replace BK101 := bG BK101 HO106 hg
    replace BK102 := bG BK102 HO106 hg
    replace BK103 := bG BK103 HO106 hg
    replace HB := Aside0.mk (hb)
    have HO109 := Aside0.mk (ho)
    clear HO106 ho hb hg hat
    obtain ⟨Ao12, co12, eo12⟩ := Kd.R_slice HO109.out
    (first | subst eo12 | (injection eo12 with f1_ f2_ f3_; have f4_ := f1_.symm; have f5_ := f3_.symm; clear f1_ f2_ f3_; subst f4_; subst f5_))
    refine kO 17 hK (fun hHeld => ?_)
    clear hK K
    refine pu 9 18 ?_
    refine on 10 (some 7) (fun K hK => ?_)
    refine box_step ?hg (N := 7) ?hd (cs := #[.int .i64 0, .string (⟨#[]⟩ : ByteArray), .string (⟨#[]⟩ : ByteArray), .slice none 0 0, .slice none 0 0]) (t := 117) ?hr ?_; (case hd => rfl); (case hg => rfl); (case hr => first | (go_simp; done) | (go_simp; rfl))
    intro gb110 hg w13 hbox hb
    replace HO0_1 := vE hg HO0_1 hb
    replace HO109 := rS HO109 hb
    have BK110 := Aside0.mk (hbox)
    have GW110 := gS hg
    have GE110 := gS hg
    replace HB := bS hb
    have NB101_110 := nS hg BK101
    have NB110_101 := nG hg BK101
    replace BK101 := kS BK101 hb
    have NB102_110 := nS hg BK102
    have NB110_102 := nG hg BK102
    replace BK102 := kS BK102 hb
    have NB103_110 := nS hg BK103
    have NB110_103 := nG hg BK103
    replace BK103 := kS BK103 hb
    clear hb hbox hg
    refine kO 7 hK (fun hHeld => ?_)
    clear hK K
    exact norm_ (by simp only [putAll, Act.put, List.setIfInBounds_toArray, List.set_cons_zero, List.set_cons_succ]) (hCont (v105, .slice Ao12 y107.length co12, gb110) _ ⟨hHeld, (fV HO0_1), (rO HO109), (kQ BK101), (kQ BK102), (kQ BK103), (kQ BK110), GW110.out, GE110.out, NB101_110.out, NB110_101.out, NB102_110.out, NB110_102.out, NB103_110.out, NB110_103.out, zB⟩)
   ·skip
    refine box_step ?hg (N := 7) ?hd (cs := #[.int .i64 0, .string (⟨#[]⟩ : ByteArray), .string (⟨#[]⟩ : ByteArray), .slice none 0 0, .slice none 0 0]) (t := 117) ?hr ?_; (case hd => rfl); (case hg => rfl); (case hr => first | (go_simp; done) | (go_simp; rfl))
    intro gb110 hg w11 hbox hb
    replace HO0_1 := vE hg HO0_1 hb
    replace HO106 := rS HO106 hb
    have BK110 := Aside0.mk (hbox)
    have GW110 := gS hg
    have GE110 := gS hg
    replace HB := bS hb
    have NB101_110 := nS hg BK101
    have NB110_101 := nG hg BK101
    replace BK101 := kS BK101 hb
    have NB102_110 := nS hg BK102
    have NB110_102 := nG hg BK102
    replace BK102 := kS BK102 hb
    have NB103_110 := nS hg BK103
    have NB110_103 := nG hg BK103
    replace BK103 := kS BK103 hb
    clear hb hbox hg
    refine kO 7 hK (fun hHeld => ?_)
    clear hK K
    refine on 8 (some 17) (fun K hK => ?_)
    refine Kd.R_append_rows_step Kd.string (w0 := w) w.heap.size (by rfl) (.tmp 14) (.tmp 16) 25 9 (.string ⟨#[]⟩) 16 rfl Tryz.underlying25 info9 rfl z0_ (by omega) v105 y104 l1_3 _ _ _ (fun k_ => (w.heap.size ≤ k_)) (fun _ => False) rfl rfl ?aO ?aR (fun _ _ h => h) (fun _ h => h.elim) ?aF ?aB ?aS ?aL ?_
    (case aR => exact cB HR1_3)
    (case aB => exact zB)
    (case aF => exact (fun k_ hk => (Nat.le_trans (bZ) hk)))
    (case aO => exact (by (with_reducible repeat (first | apply Kd.R_alloc | apply Kd.R_drewN | apply Kd.R_drew)); exact Kd.R_mono HO106.out (fun _ hk => hk.1)))
    (case aS => exact (bZ))
    (case aL => have := LMc4.out; omega)
    intro v108 w12 ho hb hg hat
    rw [← Ny107.out] at ho
    replace HO0_1 := Aside0.mk (Kd.V_afterv (ok := (fun k_ => (P0_1_ k_ ∨ w.heap.size ≤ k_) ∧ k_ ≠ gb101 ∧ k_ ≠ gb102 ∧ k_ ≠ gb103 ∧ k_ ≠ gb110)) (fV HO0_1) hg hat)
    replace BK101 := bG BK101 HO106 hg
    replace BK102 := bG BK102 HO106 hg
    replace BK103 := bG BK103 HO106 hg
    replace BK110 := bG BK110 HO106 hg
    replace HB := Aside0.mk (hb)
    have HO109 := Aside0.mk (ho)
    clear HO106 ho hb hg hat
    obtain ⟨Ao13, co13, eo13⟩ := Kd.R_slice HO109.out
    (first | subst eo13 | (injection eo13 with f1_ f2_ f3_; have f4_ := f1_.symm; have f5_ := f3_.symm; clear f1_ f2_ f3_; subst f4_; subst f5_))
    refine kO 17 hK (fun hHeld => ?_)
    clear hK K
    refine pu 9 18 ?_
    exact norm_ (by simp only [putAll, Act.put, List.setIfInBounds_toArray, List.set_cons_zero, List.set_cons_succ]) (hCont (v105, .slice Ao13 y107.length co13, gb110) _ ⟨hHeld, (fV HO0_1), (rO HO109), (kQ BK101), (kQ BK102), (kQ BK103), (kQ BK110), GW110.out, GE110.out, NB101_110.out, NB110_101.out, NB102_110.out, NB110_102.out, NB103_110.out, NB110_103.out, zB⟩)
  ·skip
   refine box_step ?hg (N := 7) ?hd (cs := #[.int .i64 0, .string (⟨#[]⟩ : ByteArray), .string (⟨#[]⟩ : ByteArray), .slice none 0 0, .slice none 0 0]) (t := 117) ?hr ?_; (case hd => rfl); (case hg => rfl); (case hr => first | (go_simp; done) | (go_simp; rfl))
   intro gb110 hg w9 hbox hb
   replace HO0_1 := vE hg HO0_1 hb
   have BK110 := Aside0.mk (hbox)
   have GW110 := gS hg
   have GE110 := gS hg
   replace HB := bS hb
   have NB101_110 := nS hg BK101
   have NB110_101 := nG hg BK101
   replace BK101 := kS BK101 hb
   have NB102_110 := nS hg BK102
   have NB110_102 := nG hg BK102
   replace BK102 := kS BK102 hb
   have NB103_110 := nS hg BK103
   have NB110_103 := nG hg BK103
   replace BK103 := kS BK103 hb
   clear hb hbox hg
   refine kO 7 hK (fun hHeld => ?_)
   clear hK K
   refine on 5 (some 14) (fun K hK => ?_)
   refine rL Kd.string 9 14 Ny104 (fun v105 w10 ho11 hb => ?_)
   replace HO0_1 := Aside0.mk (Kd.V_elder' (vO HO0_1) (Kd.R_base ho11) hb)
   have HO106 := Aside0.mk (Kd.R_lower (Kd.R_newM (M := fun k_ => (w.heap.size ≤ k_)) ho11 (bZ) (fun k_ h_ => h_)) (bZ))
   replace BK101 := kS BK101 hb
   replace BK102 := kS BK102 hb
   replace BK103 := kS BK103 hb
   replace BK110 := kS BK110 hb
   replace HB := bS hb
   clear hb ho11
   refine kO 14 hK (fun hHeld => ?_)
   clear hK K
   refine on 8 (some 17) (fun K hK => ?_)
   refine Kd.R_append_rows_step Kd.string (w0 := w) w.heap.size (by rfl) (.tmp 14) (.tmp 16) 25 9 (.string ⟨#[]⟩) 16 rfl Tryz.underlying25 info9 rfl z0_ (by omega) v105 y104 l1_3 _ _ _ (fun k_ => (w.heap.size ≤ k_)) (fun _ => False) rfl rfl ?aO ?aR (fun _ _ h => h) (fun _ h => h.elim) ?aF ?aB ?aS ?aL ?_
   (case aR => exact cB HR1_3)
   (case aB => exact zB)
   (case aF => exact (fun k_ hk => (Nat.le_trans (bZ) hk)))
   (case aO => exact (by (with_reducible repeat (first | apply Kd.R_alloc | apply Kd.R_drewN | apply Kd.R_drew)); exact Kd.R_mono HO106.out (fun _ hk => hk.1)))
   (case aS => exact (bZ))
   (case aL => have := LMc4.out; omega)
   intro v108 w12 ho hb hg hat
   rw [← Ny107.out] at ho
   replace HO0_1 := Aside0.mk (Kd.V_afterv (ok := (fun k_ => (P0_1_ k_ ∨ w.heap.size ≤ k_) ∧ k_ ≠ gb101 ∧ k_ ≠ gb102 ∧ k_ ≠ gb103 ∧ k_ ≠ gb110)) (fV HO0_1) hg hat)
   replace BK101 := bG BK101 HO106 hg
   replace BK102 := bG BK102 HO106 hg
   replace BK103 := bG BK103 HO106 hg
   replace BK110 := bG BK110 HO106 hg
   replace HB := Aside0.mk (hb)
   have HO109 := Aside0.mk (ho)
   clear HO106 ho hb hg hat
   obtain ⟨Ao13, co13, eo13⟩ := Kd.R_slice HO109.out
   (first | subst eo13 | (injection eo13 with f1_ f2_ f3_; have f4_ := f1_.symm; have f5_ := f3_.symm; clear f1_ f2_ f3_; subst f4_; subst f5_))
   refine kO 17 hK (fun hHeld => ?_)
   clear hK K
   refine pu 9 18 ?_
   exact norm_ (by simp only [putAll, Act.put, List.setIfInBounds_toArray, List.set_cons_zero, List.set_cons_succ]) (hCont (v105, .slice Ao13 y107.length co13, gb110) _ ⟨hHeld, (fV HO0_1), (rO HO109), (kQ BK101), (kQ BK102), (kQ BK103), (kQ BK110), GW110.out, GE110.out, NB101_110.out, NB110_101.out, NB102_110.out, NB110_102.out, NB103_110.out, NB110_103.out, zB⟩)
 rintro ⟨v105, v108, gb110⟩ w14 ⟨hS_, h0_, h1_, h2_, h3_, h4_, h5_, h6_, h7_, h8_, h9_, h10_, h11_, h12_, h13_, h14_⟩
 replace HO0_1 : Aside0 (Kd.V k117 117 w14 w.heap.size (fun k_ => (P0_1_ k_ ∨ w.heap.size ≤ k_) ∧ some k_ ≠ (v108 : Value).ownBlock ∧ k_ ≠ gb101 ∧ k_ ≠ gb102 ∧ k_ ≠ gb103 ∧ k_ ≠ gb110) (.slice A0_1 l0_1.length c0_1) l0_1) := ⟨h0_⟩
 have HO109 : Aside0 (Kd.R Kd.string 9 w14 w.heap.size (fun k_ => (w.heap.size ≤ k_)) v108 y107) := ⟨h1_⟩
 replace BK101 : Aside0 (w14.heap[gb101]? = some (.cells #[.int .i64 a0_0, .slice A0_1 l0_1.length c0_1] 80 (0, 0))) := ⟨h2_⟩
 replace BK102 : Aside0 (w14.heap[gb102]? = some (.cells #[.string a1_0, .string a1_1, .slice A1_2 l1_2.length c1_2, .slice A1_3 l1_3.length c1_3] 35 (0, 0))) := ⟨h3_⟩
 replace BK103 : Aside0 (w14.heap[gb103]? = some (.cells #[.int .i64 0, .slice none 0 0] 80 (0, 0))) := ⟨h4_⟩
 have BK110 : Aside0 (w14.heap[gb110]? = some (.cells #[.int .i64 0, .string (⟨#[]⟩ : ByteArray), .string (⟨#[]⟩ : ByteArray), .slice none 0 0, .slice none 0 0] 117 (0, 0))) := ⟨h5_⟩
 have GW110 : Aside0 (w.heap.size ≤ gb110) := ⟨h6_⟩
 have GE110 : Aside0 (w.heap.size ≤ gb110) := ⟨h7_⟩
 have NB101_110 : Aside0 (gb101 ≠ gb110) := ⟨h8_⟩
 have NB110_101 : Aside0 (gb110 ≠ gb101) := ⟨h9_⟩
 have NB102_110 : Aside0 (gb102 ≠ gb110) := ⟨h10_⟩
 have NB110_102 : Aside0 (gb110 ≠ gb102) := ⟨h11_⟩
 have NB103_110 : Aside0 (gb103 ≠ gb110) := ⟨h12_⟩
 have NB110_103 : Aside0 (gb110 ≠ gb103) := ⟨h13_⟩
 replace HB : Aside0 (Below w.heap.size w w14) := ⟨h14_⟩
 clear h0_ h1_ h2_ h3_ h4_ h5_ h6_ h7_ h8_ h9_ h10_ h11_ h12_ h13_ h14_
 have hHeld : w14.cell? ⟨gb101, 0, none⟩ = some (.int .i64 a0_0) ∧ w14.cell? ⟨gb101, 1, none⟩ = some (.slice A0_1 l0_1.length c0_1) ∧ w14.cell? ⟨gb102, 0, none⟩ = some (.string a1_0) ∧ w14.cell? ⟨gb102, 1, none⟩ = some (.string a1_1) ∧ w14.cell? ⟨gb102, 2, none⟩ = some (.slice A1_2 l1_2.length c1_2) ∧ w14.cell? ⟨gb102, 3, none⟩ = some (.slice A1_3 l1_3.length c1_3) := hS_
 obtain ⟨Ao15, co15, eo15⟩ := Kd.R_slice HO109.out
 (first | subst eo15 | (injection eo15 with f1_ f2_ f3_; have f4_ := f1_.symm; have f5_ := f3_.symm; clear f1_ f2_ f3_; subst f4_; subst f5_))
 refine norm_ (a' := ?_) ?_ ?_
 rotate_left
 ·simp only [putAll, Act.put, List.setIfInBounds_toArray, List.set_cons_zero, List.set_cons_succ]
  rfl
 refine on 11 none (fun K hK => ?_)
 have hs_hs16 := cz5 BK110.out
 have hf_hs16 := fz5 BK110.out
 have hn0_hs16 := NB101_110.out
 have hn1_hs16 := NB102_110.out
 have hn2_hs16 := NB103_110.out
 have hn3_hs16 := NB110_101.out
 have hn4_hs16 := NB110_102.out
 have hn5_hs16 := NB110_103.out
 refine sk ?_
 refine hK.out _ _ zF (fun hHeld => ?_)
 clear hK K
 refine done_ (done_of HT_.out (by kernel_rfl)) ?_
 try go_wp2
 go_loopg [8] k (fun kq v8 w' => ∃ (x8_1 : Int) (x111003_1 : List (S143)) (u111003 : Value), v8 = .int .i64 x8_1 ∧ Aside0 (spec_l5Add.l0 kq a2 x8_1 a0_0 l0_1 a1_0 a1_1 l1_2 l1_3 (wrap64 (a0_0 + 1)) a1_0 a1_1 x111003_1 y107 = some (r1, r2)) ∧ Aside0 (kq ≤ k) ∧ Aside0 (Kd.V k117 117 w' w.heap.size (fun k_ => (P0_1_ k_ ∨ w.heap.size ≤ k_) ∧ some k_ ≠ (u111003 : Value).ownBlock ∧ some k_ ≠ ((.slice Ao15 y107.length co15) : Value).ownBlock ∧ k_ ≠ gb101 ∧ k_ ≠ gb102 ∧ k_ ≠ gb103 ∧ k_ ≠ gb110) (.slice A0_1 l0_1.length c0_1) l0_1) ∧ Aside0 (Kd.R k143 143 w' w.heap.size (fun k_ => (w.heap.size ≤ k_)) u111003 x111003_1) ∧ Aside0 (Kd.R Kd.string 9 w' w.heap.size (fun k_ => (w.heap.size ≤ k_)) (.slice Ao15 y107.length co15) y107) ∧ Aside0 (w'.heap[gb101]? = some (.cells #[.int .i64 a0_0, (.slice A0_1 l0_1.length c0_1)] 80 (0, 0))) ∧ Aside0 (w'.heap[gb102]? = some (.cells #[.string a1_0, .string a1_1, (.slice A1_2 l1_2.length c1_2), (.slice A1_3 l1_3.length c1_3)] 35 (0, 0))) ∧ Aside0 (w'.heap[gb103]? = some (.cells #[.int .i64 0, (.slice none 0 0)] 80 (0, 0))) ∧ Aside0 (w'.heap[gb110]? = some (.cells #[.int .i64 (wrap64 (a0_0 + 1)), .string a1_0, .string a1_1, u111003, (.slice Ao15 y107.length co15)] 117 (0, 0))) ∧ Aside0 (Below w.heap.size w w'))
 case atStart => exact ⟨(0), (([] : List (S143))), (.slice none 0 0), zs, H', ⟨Nat.le_refl _⟩, ⟨fV HO0_1⟩, ⟨zn⟩, ⟨fM HO109 BK110 (fun _ hk => hk.1)⟩, ⟨kQ BK101⟩, ⟨kQ BK102⟩, ⟨kQ BK103⟩, ⟨kQ BK110⟩, ⟨zB⟩⟩
 case round =>
  clear H'
  obtain ⟨x8_1, x111003_1, u111003, rfl, HA, HK1, HO_102001, HO_111003, HO_111004, BK101, BK102, BK103, BK110, HB⟩ := hrel
  cases gk with
  | zero => exact absurd HA.out (by simp [spec_l5Add.l0])
  | succ k1 =>
   have H := HA.out
   clear HA
   simp only [spec_l5Add.l0] at H
   replace H := its_d_d H; rcases H with ⟨c21b0, H⟩ | ⟨c21b0, H⟩
   ·replace H := itn_d H; obtain ⟨c22b0, H⟩ := H
    first | (with_reducible replace H := bne (([(⟨(⟨(rd_T32 l1_2 x8_1).f0, (rd_T32 l1_2 x8_1).f1⟩ : S32), 0, a2⟩ : S143)] : List (S143)) : List (S143)) H; obtain ⟨y112, Ny112, H⟩ := H) | (generalize hy_ : (([(⟨(⟨(rd_T32 l1_2 x8_1).f0, (rd_T32 l1_2 x8_1).f1⟩ : S32), 0, a2⟩ : S143)] : List (S143)) : List (S143)) = y112 at H; have Ny112 := Aside0.mk hy_.symm; clear hy_)
    replace H := itn_L H; obtain ⟨LMc23, H⟩ := H
    first | (with_reducible replace H := bne (x111003_1 ++ y112 : List (S143)) H; obtain ⟨y115, Ny115, H⟩ := H) | (generalize hy_ : (x111003_1 ++ y112 : List (S143)) = y115 at H; have Ny115 := Aside0.mk hy_.symm; clear hy_)
    have H' := Aside0.mk H
    clear H
    have hnb24 := NB102_101.out
    have hnc24 := NB101_102.out
    have hnb25 := NB102_103.out
    have hnc25 := NB103_102.out
    have hnb26 := NB102_110.out
    have hnc26 := NB110_102.out
    have hcz27 := cz4 BK102.out
    have hfz27 := fz4 BK102.out
    try go_wp2
    replace HO_102001 := Aside0.mk (Kd.V_drew HO_102001.out)
    replace HO_111003 := Aside0.mk (Kd.R_drew HO_111003.out)
    replace HO_111004 := Aside0.mk (Kd.R_drew HO_111004.out)
    replace BK101 := Aside0.mk (blk_drew BK101.out)
    replace BK102 := Aside0.mk (blk_drew BK102.out)
    replace BK103 := Aside0.mk (blk_drew BK103.out)
    replace BK110 := Aside0.mk (blk_drew BK110.out)
    replace HB := Aside0.mk (below_drew1 HB.out)
    have p111 : 0 ≤ (x8_1 : Int) := of_decide_eq_true za
    have q111 : x8_1 < (l1_2.length : Int) := of_decide_eq_true za
    obtain ⟨ad111, e111, hx111_0, hx111_1⟩ := at_T32 HR1_2.out x8_1 p111 q111
    have hw111_1 := hx111_1
    have hw111_0 := hx111_0
    cases e111
    replace hx111_0 := kx HB hx111_0
    replace hx111_1 := kx HB hx111_1
    replace p111 := eq_true p111
    replace q111 := eq_true q111
    refine start_ (n := 13) (S := fun w' => w'.cell? ⟨gb110, 0, none⟩ = some (.int .i64 (wrap64 (a0_0 + 1))) ∧ w'.cell? ⟨gb110, 1, none⟩ = some (.string a1_0) ∧ w'.cell? ⟨gb110, 2, none⟩ = some (.string a1_1) ∧ w'.cell? ⟨gb110, 3, none⟩ = some (u111003) ∧ w'.cell? ⟨gb110, 4, none⟩ = some (.slice Ao15 y107.length co15) ∧ w'.cell? ⟨gb102, 0, none⟩ = some (.string a1_0) ∧ w'.cell? ⟨gb102, 1, none⟩ = some (.string a1_1) ∧ w'.cell? ⟨gb102, 2, none⟩ = some (.slice (some ad111) l1_2.length c1_2) ∧ w'.cell? ⟨gb102, 3, none⟩ = some (.slice A1_3 l1_3.length c1_3) ∧ w'.cell? (ad111.add ((x8_1).toNat * 2)) = some (.string ((rd_T32 l1_2 x8_1).f0)) ∧ w'.cell? ⟨(ad111.add ((x8_1).toNat * 2)).block, (ad111.add ((x8_1).toNat * 2)).off + 1, none⟩ = some (.string ((rd_T32 l1_2 x8_1).f1))) (ds := [12]) #[false, false, false, false, false, false, false, false, false, false, false, false, false] (by kernel_rfl) rfl rfl ⟨(blk_cell BK110.out 0).trans rfl, (blk_cell BK110.out 1).trans rfl, (blk_cell BK110.out 2).trans rfl, (blk_cell BK110.out 3).trans rfl, (blk_cell BK110.out 4).trans rfl, (blk_cell BK102.out 0).trans rfl, (blk_cell BK102.out 1).trans rfl, (blk_cell BK102.out 2).trans rfl, (blk_cell BK102.out 3).trans rfl, (kx HB hw111_0), (kx HB hw111_1)⟩ (fun hHeld => ?_); refine with_tabW spec_l5Add.tab5 spec_l5Add.bits5 (fun HT_ HW_ => ?_)
    generalize wr.drew = w28 at HO_102001 HO_111003 HO_111004 BK101 BK102 BK103 BK110 HB hx111_0 hx111_1 hHeld ⊢
    refine pu 0 26 ?_
    refine pu 2 28 ?_
    refine pu 4 30 ?_
    refine pu 7 33 ?_
    refine ta 1 27 ?_
    refine ta 3 29 ?_
    refine pu 5 31 ?_
    refine ta 6 32 ?_
    refine pu 8 34 ?_
    refine on 9 (some 35) (fun K hK => ?_)
    refine Kd.R_lit_step k143 _ 143 ?hg (N := 35) ?hd (xs := ([(⟨(⟨(rd_T32 l1_2 x8_1).f0, (rd_T32 l1_2 x8_1).f1⟩ : S32), 0, a2⟩ : S143)] : List (S143))) (inner := [.string ((rd_T32 l1_2 x8_1).f0), .string ((rd_T32 l1_2 x8_1).f1), .int .i64 0, .int .i64 a2]) (ok := fun _ => True) (okp := fun _ => True) ?hr ?hp (fun _ hk => hk) trivial (Below.refl _ _) (Nat.le_refl _) (by simp) ?_; (case hd => rfl); (case hg => rfl); (case hr => first | (go_simp; done) | (go_simp; rfl)); (case hp => exact (Reps.c4 (show Kd.M k143 _ _ _ (⟨(⟨(rd_T32 l1_2 x8_1).f0, (rd_T32 l1_2 x8_1).f1⟩ : S32), 0, a2⟩ : S143) [.string ((rd_T32 l1_2 x8_1).f0), .string ((rd_T32 l1_2 x8_1).f1), .int .i64 0, .int .i64 a2] from (k143_mkM _ _ _ (⟨(⟨(rd_T32 l1_2 x8_1).f0, (rd_T32 l1_2 x8_1).f1⟩ : S32), 0, a2⟩ : S143) )) (Reps.none _ _)))
    intro v113 w29 ho30 hb hg_ hnew_
    clear hg_ hnew_
    (first | rw [← Ny112.out] at ho30 | (simp only [Int.reduceToNat] at ho30; rw [← Ny112.out] at ho30))
    replace HO_102001 := Aside0.mk (Kd.V_elder' (vO HO_102001) (Kd.R_base ho30) hb)
    replace HO_111004 := rS HO_111004 hb
    have HO114 := Aside0.mk (Kd.R_lower (Kd.R_new' (Kd.R_newM (M := fun k_ => (w.heap.size ≤ k_)) ho30 (bZ) (fun k_ h_ => h_)) (Kd.R_lt (rO HO_111003))) (bZ))
    replace HO_111003 := Aside0.mk (Kd.R_elder' (rO HO_111003) (Kd.R_base ho30) hb)
    replace BK101 := kS BK101 hb
    replace BK102 := kS BK102 hb
    replace BK103 := kS BK103 hb
    replace BK110 := kS BK110 hb
    replace HB := bS hb
    clear hb ho30
    obtain ⟨Ao32, co32, eo32⟩ := Kd.R_slice HO114.out
    (first | subst eo32 | (injection eo32 with f1_ f2_ f3_; have f4_ := f1_.symm; have f5_ := f3_.symm; clear f1_ f2_ f3_; subst f4_; subst f5_))
    refine kO 35 hK (fun hHeld => ?_) ⟨(blk_cell BK110.out 0).trans rfl, (blk_cell BK110.out 1).trans rfl, (blk_cell BK110.out 2).trans rfl, (blk_cell BK110.out 3).trans rfl, (blk_cell BK110.out 4).trans rfl, (blk_cell BK102.out 0).trans rfl, (blk_cell BK102.out 1).trans rfl, (blk_cell BK102.out 2).trans rfl, (blk_cell BK102.out 3).trans rfl, (kx HB hw111_0), (kx HB hw111_1)⟩
    clear hK K
    refine on 10 (some 36) (fun K hK => ?_)
    refine Kd.R_append_rows_step k143 (w0 := w) w.heap.size (by rfl) (.tmp 27) (.tmp 35) 115 143 (.agg #[(.string ⟨#[]⟩), (.string ⟨#[]⟩), (.int .i64 0), (.int .i64 0)]) 48 rfl Tryz.underlying115 info143 rfl z0_ (by omega) u111003 x111003_1 y112 _ _ _ (fun k_ => (w.heap.size ≤ k_) ∧ some k_ ≠ (.slice Ao32 y112.length co32 : Value).ownBlock) (fun _ => False) rfl rfl ?aO ?aR (fun _ _ h => h) (fun _ h => h.elim) ?aF ?aB ?aS ?aL ?_
    (case aR => repeat (first | exact (Kd.R_reads' HO114.out).2.2 | (with_reducible refine Kd.C_alloc ?_ _) | (with_reducible refine Kd.C_drewN ?_ _) | (with_reducible refine Kd.C_drew ?_)))
    (case aB => exact zB)
    (case aF => exact (fun k_ hk => ⟨(Nat.le_trans (bZ) hk), Kd.fresh' (Kd.R_lt (rO HO114)) k_ hk⟩))
    (case aO => exact (rO HO_111003))
    (case aS => exact (bZ))
    (case aL => have := LMc23.out; omega)
    intro v116 w31 ho hb hg hat
    rw [← Ny115.out] at ho
    replace HO_102001 := Aside0.mk (Kd.V_afterv (ok := (fun k_ => (P0_1_ k_ ∨ w.heap.size ≤ k_) ∧ some k_ ≠ (.slice Ao15 y107.length co15 : Value).ownBlock ∧ some k_ ≠ (.slice Ao32 y112.length co32 : Value).ownBlock ∧ k_ ≠ gb101 ∧ k_ ≠ gb102 ∧ k_ ≠ gb103 ∧ k_ ≠ gb110)) (fV HO_102001) hg hat)
    replace HO_111004 := Aside0.mk (Kd.R_over' (rO HO_111004) (Kd.R_typed (rO HO_111003)) z0_ hg)
    replace BK101 := bG BK101 HO_111003 hg
    replace BK102 := bG BK102 HO_111003 hg
    replace BK103 := bG BK103 HO_111003 hg
    replace BK110 := bG BK110 HO_111003 hg
    replace HO114 := Aside0.mk (Kd.R_after (ok := (fun k_ => (w.heap.size ≤ k_))) (by (with_reducible repeat (first | apply Kd.R_alloc | apply Kd.R_drewN | apply Kd.R_drew)); exact Kd.R_mono HO114.out (fun _ hk => ⟨hk.1.1, hk.2⟩)) hg hat)
    replace HB := Aside0.mk (hb)
    have HO117 := Aside0.mk (ho)
    clear HO_111003 ho hb hg hat
    obtain ⟨Ao33, co33, eo33⟩ := Kd.R_slice HO117.out
    (first | subst eo33 | (injection eo33 with f1_ f2_ f3_; have f4_ := f1_.symm; have f5_ := f3_.symm; clear f1_ f2_ f3_; subst f4_; subst f5_))
    refine kO 36 hK (fun hHeld => ?_) ⟨(blk_cell BK110.out 0).trans rfl, (blk_cell BK110.out 1).trans rfl, (blk_cell BK110.out 2).trans rfl, (blk_cell BK110.out 3).trans rfl, (blk_cell BK110.out 4).trans rfl, (blk_cell BK102.out 0).trans rfl, (blk_cell BK102.out 1).trans rfl, (blk_cell BK102.out 2).trans rfl, (blk_cell BK102.out 3).trans rfl, (kx HB hw111_0), (kx HB hw111_1)⟩
    clear hK K
    refine pu 11 37 ?_
    refine last_ (i := 12) (N := none) #[true, true, true, true, true, true, true, true, true, true, true, true, true] rfl rfl (one_of HT_.out (by kernel_rfl)) z0_ (fun K hK => ?_)
    have hs34 : w31.cell? ⟨gb110, 3, none⟩ = some (u111003) := (blk_cell BK110.out 3).trans rfl
    have hfs34 := blk_frozen BK110.out 3
    have hns34_0 := NB101_110.out
    have hns34_1 := NB102_110.out
    have hns34_2 := NB103_110.out
    have hms34_0 := NB110_101.out
    have hms34_1 := NB110_102.out
    have hms34_2 := NB110_103.out
    refine sk ?_
    refine hK.out _ _ ?_
    clear hK K
    refine done_ (done_of HT_.out (by kernel_rfl)) ?_
    try go_wp2
    go_roundg k1
    case measure => have := HK1.out; omega
    case rel => exact ⟨(wrap64 (x8_1 + 1)), (y115), (.slice Ao33 y115.length co33), zs, H', ⟨by have := HK1.out; omega⟩, ⟨fV HO_102001⟩, ⟨fM HO117 BK110 (fun _ hk => hk.1.1)⟩, ⟨fM HO_111004 BK110 (fun _ hk => hk.1)⟩, ⟨kQ BK101⟩, ⟨kQ BK102⟩, ⟨kQ BK103⟩, ⟨kQ BK110⟩, ⟨zB⟩⟩
   ·first | (with_reducible replace H := bne (([] : List (S117)) : List (S117)) H; obtain ⟨y118, Ny118, H⟩ := H) | (generalize hy_ : (([] : List (S117)) : List (S117)) = y118 at H; have Ny118 := Aside0.mk hy_.symm; clear hy_)
    replace H := itn_L H; obtain ⟨LMc35, H⟩ := H
    first | (with_reducible replace H := bne (y118 ++ l0_1 : List (S117)) H; obtain ⟨y121, Ny121, H⟩ := H) | (generalize hy_ : (y118 ++ l0_1 : List (S117)) = y121 at H; have Ny121 := Aside0.mk hy_.symm; clear hy_)
    first | (with_reducible replace H := bne (([(⟨(wrap64 (a0_0 + 1)), (⟨a1_0, a1_1⟩ : S32), x111003_1, y107⟩ : S117)] : List (S117)) : List (S117)) H; obtain ⟨y124, Ny124, H⟩ := H) | (generalize hy_ : (([(⟨(wrap64 (a0_0 + 1)), (⟨a1_0, a1_1⟩ : S32), x111003_1, y107⟩ : S117)] : List (S117)) : List (S117)) = y124 at H; have Ny124 := Aside0.mk hy_.symm; clear hy_)
    replace H := itn_L H; obtain ⟨LMc36, H⟩ := H
    first | (with_reducible replace H := bne (y121 ++ y124 : List (S117)) H; obtain ⟨y127, Ny127, H⟩ := H) | (generalize hy_ : (y121 ++ y124 : List (S117)) = y127 at H; have Ny127 := Aside0.mk hy_.symm; clear hy_)
    simp only [Option.some.injEq, Prod.mk.injEq] at H
    obtain ⟨rfl, rfl⟩ := H
    have hnb37 := NB102_101.out
    have hnc37 := NB101_102.out
    have hnb38 := NB102_103.out
    have hnc38 := NB103_102.out
    have hnb39 := NB102_110.out
    have hnc39 := NB110_102.out
    have hcz40 := cz4 BK102.out
    have hfz40 := fz4 BK102.out
    have hnb41 := NB101_103.out
    have hnc41 := NB103_101.out
    have hnb42 := NB101_110.out
    have hnc42 := NB110_101.out
    have hcz43 := cz2 BK101.out
    have hfz43 := fz2 BK101.out
    try go_wp2
    have n0_ : Aside0 (Kd.V k117 117 (wr.setCell ⟨gb101, 0, none⟩ (.int .i64 (wrap64 (a0_0 + 1)))) w.heap.size (fun k_ => (P0_1_ k_ ∨ w.heap.size ≤ k_) ∧ some k_ ≠ (u111003 : Value).ownBlock ∧ some k_ ≠ (.slice Ao15 y107.length co15 : Value).ownBlock ∧ k_ ≠ gb101 ∧ k_ ≠ gb102 ∧ k_ ≠ gb103 ∧ k_ ≠ gb110) (.slice A0_1 l0_1.length c0_1) l0_1) := ⟨fV HO_102001⟩
    have n1_ : Aside0 (Kd.R k143 143 (wr.setCell ⟨gb101, 0, none⟩ (.int .i64 (wrap64 (a0_0 + 1)))) w.heap.size (fun k_ => (w.heap.size ≤ k_)) u111003 x111003_1) := ⟨fM HO_111003 BK101 (fun _ hk => hk.1)⟩
    have n2_ : Aside0 (Kd.R Kd.string 9 (wr.setCell ⟨gb101, 0, none⟩ (.int .i64 (wrap64 (a0_0 + 1)))) w.heap.size (fun k_ => (w.heap.size ≤ k_)) (.slice Ao15 y107.length co15) y107) := ⟨fM HO_111004 BK101 (fun _ hk => hk.1)⟩
    have n3_ : Aside0 ((wr.setCell ⟨gb101, 0, none⟩ (.int .i64 (wrap64 (a0_0 + 1)))).heap[gb101]? = some (.cells #[.int .i64 (wrap64 (a0_0 + 1)), .slice A0_1 l0_1.length c0_1] 80 (0, 0))) := ⟨kQ BK101⟩
    have n4_ : Aside0 ((wr.setCell ⟨gb101, 0, none⟩ (.int .i64 (wrap64 (a0_0 + 1)))).heap[gb102]? = some (.cells #[.string a1_0, .string a1_1, .slice A1_2 l1_2.length c1_2, .slice A1_3 l1_3.length c1_3] 35 (0, 0))) := ⟨kQ BK102⟩
    have n5_ : Aside0 ((wr.setCell ⟨gb101, 0, none⟩ (.int .i64 (wrap64 (a0_0 + 1)))).heap[gb103]? = some (.cells #[.int .i64 0, .slice none 0 0] 80 (0, 0))) := ⟨kQ BK103⟩
    have n6_ : Aside0 ((wr.setCell ⟨gb101, 0, none⟩ (.int .i64 (wrap64 (a0_0 + 1)))).heap[gb110]? = some (.cells #[.int .i64 (wrap64 (a0_0 + 1)), .string a1_0, .string a1_1, u111003, .slice Ao15 y107.length co15] 117 (0, 0))) := ⟨kQ BK110⟩
    have n7_ : Aside0 (Below w.heap.size w (wr.setCell ⟨gb101, 0, none⟩ (.int .i64 (wrap64 (a0_0 + 1))))) := ⟨zB⟩
    (try clear HO_102001)
    (try clear HO_111003)
    (try clear HO_111004)
    (try clear BK101)
    (try clear BK102)
    (try clear BK103)
    (try clear BK110)
    (try clear HB)
    generalize (wr.setCell ⟨gb101, 0, none⟩ (.int .i64 (wrap64 (a0_0 + 1)))) = w44 at n0_ n1_ n2_ n3_ n4_ n5_ n6_ n7_ ⊢
    have HO_102001 := n0_
    have HO_111003 := n1_
    have HO_111004 := n2_
    have BK101 := n3_
    have BK102 := n4_
    have BK103 := n5_
    have BK110 := n6_
    have HB := n7_
    clear n0_ n1_ n2_ n3_ n4_ n5_ n6_ n7_
    replace HO_102001 := Aside0.mk (Kd.V_drew HO_102001.out)
    replace HO_111003 := Aside0.mk (Kd.R_drew HO_111003.out)
    replace HO_111004 := Aside0.mk (Kd.R_drew HO_111004.out)
    replace BK101 := Aside0.mk (blk_drew BK101.out)
    replace BK102 := Aside0.mk (blk_drew BK102.out)
    replace BK103 := Aside0.mk (blk_drew BK103.out)
    replace BK110 := Aside0.mk (blk_drew BK110.out)
    replace HB := Aside0.mk (below_drew1 HB.out)
    obtain ⟨Ao49, co49, eo49⟩ := Kd.R_slice HO_111003.out
    subst eo49
    refine start_ (n := 9) (S := fun w' => w'.cell? ⟨gb101, 0, none⟩ = some (.int .i64 (wrap64 (a0_0 + 1))) ∧ w'.cell? ⟨gb101, 1, none⟩ = some (.slice A0_1 l0_1.length c0_1) ∧ w'.cell? ⟨gb110, 0, none⟩ = some (.int .i64 (wrap64 (a0_0 + 1))) ∧ w'.cell? ⟨gb110, 1, none⟩ = some (.string a1_0) ∧ w'.cell? ⟨gb110, 2, none⟩ = some (.string a1_1) ∧ w'.cell? ⟨gb110, 3, none⟩ = some (.slice Ao49 x111003_1.length co49) ∧ w'.cell? ⟨gb110, 4, none⟩ = some (.slice Ao15 y107.length co15)) (ds := [8]) #[false, false, false, false, false, false, false, false, false] (by kernel_rfl) rfl rfl ⟨(blk_cell BK101.out 0).trans rfl, (blk_cell BK101.out 1).trans rfl, (blk_cell BK110.out 0).trans rfl, (blk_cell BK110.out 1).trans rfl, (blk_cell BK110.out 2).trans rfl, (blk_cell BK110.out 3).trans rfl, (blk_cell BK110.out 4).trans rfl⟩ (fun hHeld => ?_); refine with_tabW spec_l5Add.tab7 spec_l5Add.bits7 (fun HT_ HW_ => ?_)
    generalize w44.drew = w45 at HO_102001 HO_111003 HO_111004 BK101 BK102 BK103 BK110 HB hHeld ⊢
    refine pu 1 43 ?_
    refine ta 2 44 ?_
    refine ta 4 46 ?_
    refine join_ (σ := Value × Value × Value) 3 #[true, true, true, true, true, true, false, false, false] (fun s_ => [(42, s_.1), (45, s_.2.1), (47, s_.2.2)]) (fun s_ w' => (w'.cell? ⟨gb101, 0, none⟩ = some (.int .i64 (wrap64 (a0_0 + 1))) ∧ w'.cell? ⟨gb101, 1, none⟩ = some (.slice A0_1 l0_1.length c0_1) ∧ w'.cell? ⟨gb110, 0, none⟩ = some (.int .i64 (wrap64 (a0_0 + 1))) ∧ w'.cell? ⟨gb110, 1, none⟩ = some (.string a1_0) ∧ w'.cell? ⟨gb110, 2, none⟩ = some (.string a1_1) ∧ w'.cell? ⟨gb110, 3, none⟩ = some (.slice Ao49 x111003_1.length co49) ∧ w'.cell? ⟨gb110, 4, none⟩ = some (.slice Ao15 y107.length co15)) ∧ (Kd.N k117 117 w' w.heap.size (fun k_ => (P0_1_ k_ ∨ w.heap.size ≤ k_) ∧ some k_ ≠ (s_.2.2 : Value).ownBlock ∧ k_ ≠ gb101 ∧ k_ ≠ gb102 ∧ k_ ≠ gb103 ∧ k_ ≠ gb110) s_.2.1 y121) ∧ (Kd.N k117 117 w' w.heap.size (fun k_ => (P0_1_ k_ ∨ w.heap.size ≤ k_) ∧ some k_ ≠ (s_.2.1 : Value).ownBlock ∧ k_ ≠ gb101 ∧ k_ ≠ gb102 ∧ k_ ≠ gb103 ∧ k_ ≠ gb110) s_.2.2 y124) ∧ (Kd.V k117 117 w' w.heap.size (fun k_ => (P0_1_ k_ ∨ w.heap.size ≤ k_) ∧ some k_ ≠ (s_.2.1 : Value).ownBlock ∧ some k_ ≠ (s_.2.2 : Value).ownBlock ∧ k_ ≠ gb101 ∧ k_ ≠ gb102 ∧ k_ ≠ gb103 ∧ k_ ≠ gb110) (.slice A0_1 l0_1.length c0_1) l0_1) ∧ (w'.heap[gb101]? = some (.cells #[.int .i64 (wrap64 (a0_0 + 1)), .slice A0_1 l0_1.length c0_1] 80 (0, 0))) ∧ (w'.heap[gb102]? = some (.cells #[.string a1_0, .string a1_1, .slice A1_2 l1_2.length c1_2, .slice A1_3 l1_3.length c1_3] 35 (0, 0))) ∧ (w'.heap[gb103]? = some (.cells #[.int .i64 0, .slice none 0 0] 80 (0, 0))) ∧ (w'.heap[gb110]? = some (.cells #[.int .i64 (wrap64 (a0_0 + 1)), .string a1_0, .string a1_1, .slice Ao49 x111003_1.length co49, .slice Ao15 y107.length co15] 117 (0, 0))) ∧ (Below w.heap.size w w')) ?_ ?_
    rotate_left
    ·intro hCont
     refine tw 0 5 (some 42) (some 47) (fun K hK => ?_) (fun K hK => ?_)
     ·skip
      refine Kd.N_lit_step k117 _ 117 ?hg (N' := 42) ?hd (xs := ([] : List (S117))) (inner := []) (ok := (fun k_ => (P0_1_ k_ ∨ w.heap.size ≤ k_) ∧ some k_ ≠ ((.slice Ao49 x111003_1.length co49) : Value).ownBlock ∧ some k_ ≠ (.slice Ao15 y107.length co15 : Value).ownBlock ∧ k_ ≠ gb101 ∧ k_ ≠ gb102 ∧ k_ ≠ gb103 ∧ k_ ≠ gb110)) (okp := (fun k_ => (P0_1_ k_ ∨ w.heap.size ≤ k_) ∧ some k_ ≠ ((.slice Ao49 x111003_1.length co49) : Value).ownBlock ∧ some k_ ≠ (.slice Ao15 y107.length co15 : Value).ownBlock ∧ k_ ≠ gb101 ∧ k_ ≠ gb102 ∧ k_ ≠ gb103 ∧ k_ ≠ gb110)) ?hr ?hp (fun _ hk => hk) ((show ∀ k_, w45.heap.size ≤ k_ → (fun k_ => (P0_1_ k_ ∨ w.heap.size ≤ k_) ∧ some k_ ≠ ((.slice Ao49 x111003_1.length co49) : Value).ownBlock ∧ some k_ ≠ (.slice Ao15 y107.length co15 : Value).ownBlock ∧ k_ ≠ gb101 ∧ k_ ≠ gb102 ∧ k_ ≠ gb103 ∧ k_ ≠ gb110) k_ from fun k_ hk => ⟨(.inr (Nat.le_trans (bZ) hk)), Kd.fresh' (Kd.R_lt (rO HO_111003)) k_ hk, Kd.fresh' (Kd.R_lt (rO HO_111004)) k_ hk, (kG BK101) k_ hk, (kG BK102) k_ hk, (kG BK103) k_ hk, (kG BK110) k_ hk⟩) _ (Nat.le_refl _)) (Below.refl _ _) (Nat.le_refl _) (by simp) ?_; (case hd => rfl); (case hg => rfl); (case hr => first | (go_simp; done) | (go_simp; rfl)); (case hp => exact (Reps.none _ _))
      intro v119 w46 ho47 hb hg_ hnew_
      clear hg_ hnew_
      (first | rw [← Ny118.out] at ho47 | (simp only [Int.reduceToNat] at ho47; rw [← Ny118.out] at ho47))
      replace HO_102001 := Aside0.mk (Kd.V_elder' (vO HO_102001) (Kd.N_base ho47) hb)
      replace HO_111003 := rS HO_111003 hb
      replace HO_111004 := rS HO_111004 hb
      have HO120 := Aside0.mk (Kd.N_lower ho47 (bZ))
      replace BK101 := kS BK101 hb
      replace BK102 := kS BK102 hb
      replace BK103 := kS BK103 hb
      replace BK110 := kS BK110 hb
      replace HB := bS hb
      clear hb ho47
      refine kO 42 hK (fun hHeld => ?_)
      clear hK K
      refine tw 3 5 (some 45) (some 47) (fun K hK => ?_) (fun K hK => ?_)
      ·skip
       refine Kd.N_append_rows_step k117 (w0 := w) w.heap.size (by rfl) (.tmp 42) (.tmp 44) 78 117 (.agg #[(.int .i64 0), (.string ⟨#[]⟩), (.string ⟨#[]⟩), (.slice none 0 0), (.slice none 0 0)]) 88 rfl Tryz.underlying78 info117 rfl z0_ (by omega) v119 y118 l0_1 _ _ _ (fun k_ => (P0_1_ k_ ∨ w.heap.size ≤ k_) ∧ some k_ ≠ ((.slice Ao49 x111003_1.length co49) : Value).ownBlock ∧ some k_ ≠ (.slice Ao15 y107.length co15 : Value).ownBlock ∧ k_ ≠ gb101 ∧ k_ ≠ gb102 ∧ k_ ≠ gb103 ∧ k_ ≠ gb110) (fun k_ => ((fun k_ => (P0_1_ k_ ∨ w.heap.size ≤ k_) ∧ some k_ ≠ ((.slice Ao49 x111003_1.length co49) : Value).ownBlock ∧ some k_ ≠ (.slice Ao15 y107.length co15 : Value).ownBlock ∧ k_ ≠ gb101 ∧ k_ ≠ gb102 ∧ k_ ≠ gb103 ∧ k_ ≠ gb110)) k_ ∧ some k_ ≠ (v119 : Value).ownBlock) rfl rfl ?aO ?aR (fun _ hk => hk) ?aF ?aB ?aS ?aL ?_
       (case aR => exact (by skip; exact Kd.V_F (Kd.V_mono (ok' := (fun k_ => ((fun k_ => (P0_1_ k_ ∨ w.heap.size ≤ k_) ∧ some k_ ≠ ((.slice Ao49 x111003_1.length co49) : Value).ownBlock ∧ some k_ ≠ (.slice Ao15 y107.length co15 : Value).ownBlock ∧ k_ ≠ gb101 ∧ k_ ≠ gb102 ∧ k_ ≠ gb103 ∧ k_ ≠ gb110)) k_ ∧ some k_ ≠ (v119 : Value).ownBlock)) (HO_102001.out) (fun k_ hk => ⟨⟨hk.1.1, ⟨hk.1.2.1, ⟨hk.1.2.2.1, ⟨hk.1.2.2.2.1, ⟨hk.1.2.2.2.2.1, ⟨hk.1.2.2.2.2.2.1, hk.1.2.2.2.2.2.2⟩⟩⟩⟩⟩⟩, hk.2⟩))))
       (case aB => exact zB)
       (case aF => exact (fun k_ hk => ⟨(.inr (Nat.le_trans (bZ) hk)), Kd.fresh' (Kd.R_lt (rO HO_111003)) k_ hk, Kd.fresh' (Kd.R_lt (rO HO_111004)) k_ hk, (kG BK101) k_ hk, (kG BK102) k_ hk, (kG BK103) k_ hk, (kG BK110) k_ hk⟩))
       (case aO => exact (nO HO120))
       (case aS => exact (bZ))
       (case aL => have := LMc35.out; omega)
       intro v122 w48 ho hb hg hat
       rw [← Ny121.out] at ho
       replace HO_102001 := Aside0.mk (Kd.V_afterv (ok := (fun k_ => (P0_1_ k_ ∨ w.heap.size ≤ k_) ∧ some k_ ≠ ((.slice Ao49 x111003_1.length co49) : Value).ownBlock ∧ some k_ ≠ (.slice Ao15 y107.length co15 : Value).ownBlock ∧ k_ ≠ gb101 ∧ k_ ≠ gb102 ∧ k_ ≠ gb103 ∧ k_ ≠ gb110)) (vO HO_102001) hg hat)
       replace HO_111003 := Aside0.mk (Kd.R_over' (rO HO_111003) (Kd.N_typed (nO HO120)) z0_ hg)
       replace HO_111004 := Aside0.mk (Kd.R_over' (rO HO_111004) (Kd.N_typed (nO HO120)) z0_ hg)
       replace BK101 := bN BK101 HO120 hg
       replace BK102 := bN BK102 HO120 hg
       replace BK103 := bN BK103 HO120 hg
       replace BK110 := Aside0.mk (blk_grown (g := gb110) (o := .cells #[.int .i64 (wrap64 (a0_0 + 1)), .string a1_0, .string a1_1, (.slice Ao49 x111003_1.length co49), .slice Ao15 y107.length co15] 117 (0, 0)) (kQ BK110) hg (Kd.N_away HO120.out (fun _ hk => hk.2.2.2.2.2.2)))
       replace HB := Aside0.mk (hb)
       have HO123 := Aside0.mk (ho)
       clear HO120 ho hb hg hat
       refine kO 45 hK (fun hHeld => ?_)
       clear hK K
       refine on 5 (some 47) (fun K hK => ?_)
       refine Kd.N_lit_step k117 _ 117 ?hg (N' := 47) ?hd (xs := ([(⟨(wrap64 (a0_0 + 1)), (⟨a1_0, a1_1⟩ : S32), x111003_1, y107⟩ : S117)] : List (S117))) (inner := [.int .i64 (wrap64 (a0_0 + 1)), .string a1_0, .string a1_1, .slice Ao49 x111003_1.length co49, .slice Ao15 y107.length co15]) (ok := (fun k_ => (P0_1_ k_ ∨ w.heap.size ≤ k_) ∧ some k_ ≠ (v122 : Value).ownBlock ∧ k_ ≠ gb101 ∧ k_ ≠ gb102 ∧ k_ ≠ gb103 ∧ k_ ≠ gb110)) (okp := (fun k_ => (P0_1_ k_ ∨ w.heap.size ≤ k_) ∧ some k_ ≠ (v122 : Value).ownBlock ∧ k_ ≠ gb101 ∧ k_ ≠ gb102 ∧ k_ ≠ gb103 ∧ k_ ≠ gb110)) ?hr ?hp (fun _ hk => hk) ((show ∀ k_, w48.heap.size ≤ k_ → (fun k_ => (P0_1_ k_ ∨ w.heap.size ≤ k_) ∧ some k_ ≠ (v122 : Value).ownBlock ∧ k_ ≠ gb101 ∧ k_ ≠ gb102 ∧ k_ ≠ gb103 ∧ k_ ≠ gb110) k_ from fun k_ hk => ⟨(.inr (Nat.le_trans (bZ) hk)), Kd.fresh' (Kd.N_lt (nO HO123)) k_ hk, (kG BK101) k_ hk, (kG BK102) k_ hk, (kG BK103) k_ hk, (kG BK110) k_ hk⟩) _ (Nat.le_refl _)) (Below.refl _ _) (Nat.le_refl _) (by simp) ?_; (case hd => rfl); (case hg => rfl); (case hr => first | (go_simp; done) | (go_simp; rfl)); (case hp => exact (Reps.c5 (show Kd.FK k117 _ _ (⟨(wrap64 (a0_0 + 1)), (⟨a1_0, a1_1⟩ : S32), x111003_1, y107⟩ : S117) [.int .i64 (wrap64 (a0_0 + 1)), .string a1_0, .string a1_1, .slice Ao49 x111003_1.length co49, .slice Ao15 y107.length co15] from (k117_mkF _ _ (⟨(wrap64 (a0_0 + 1)), (⟨a1_0, a1_1⟩ : S32), x111003_1, y107⟩ : S117) (Kd.R_reads' (Kd.R_mono (ok' := (fun k_ => (P0_1_ k_ ∨ w.heap.size ≤ k_) ∧ some k_ ≠ (v122 : Value).ownBlock ∧ k_ ≠ gb101 ∧ k_ ≠ gb102 ∧ k_ ≠ gb103 ∧ k_ ≠ gb110)) (Kd.R_types (Kd.R_types (Kd.R_types (Kd.R_types (Kd.R_apart' (HO_111003.out) (Kd.N_typed HO123.out) z0_) BK101.out z0_) BK102.out z0_) BK103.out z0_) BK110.out z0_) (fun k_ hk => ⟨(.inr (hk.1.1.1.1.1)), ⟨hk.1.1.1.1.2, ⟨hk.1.1.1.2, ⟨hk.1.1.2, ⟨hk.1.2, hk.2⟩⟩⟩⟩⟩))).2.1 (Kd.R_F (Kd.R_mono (ok' := (fun k_ => (P0_1_ k_ ∨ w.heap.size ≤ k_) ∧ some k_ ≠ (v122 : Value).ownBlock ∧ k_ ≠ gb101 ∧ k_ ≠ gb102 ∧ k_ ≠ gb103 ∧ k_ ≠ gb110)) (Kd.R_types (Kd.R_types (Kd.R_types (Kd.R_types (Kd.R_apart' (HO_111003.out) (Kd.N_typed HO123.out) z0_) BK101.out z0_) BK102.out z0_) BK103.out z0_) BK110.out z0_) (fun k_ hk => ⟨(.inr (hk.1.1.1.1.1)), ⟨hk.1.1.1.1.2, ⟨hk.1.1.1.2, ⟨hk.1.1.2, ⟨hk.1.2, hk.2⟩⟩⟩⟩⟩))) (Kd.R_reads' (Kd.R_mono (ok' := (fun k_ => (P0_1_ k_ ∨ w.heap.size ≤ k_) ∧ some k_ ≠ (v122 : Value).ownBlock ∧ k_ ≠ gb101 ∧ k_ ≠ gb102 ∧ k_ ≠ gb103 ∧ k_ ≠ gb110)) (Kd.R_types (Kd.R_types (Kd.R_types (Kd.R_types (Kd.R_apart' (HO_111004.out) (Kd.N_typed HO123.out) z0_) BK101.out z0_) BK102.out z0_) BK103.out z0_) BK110.out z0_) (fun k_ hk => ⟨(.inr (hk.1.1.1.1.1)), ⟨hk.1.1.1.1.2, ⟨hk.1.1.1.2, ⟨hk.1.1.2, ⟨hk.1.2, hk.2⟩⟩⟩⟩⟩))).2.1 (Kd.R_F (Kd.R_mono (ok' := (fun k_ => (P0_1_ k_ ∨ w.heap.size ≤ k_) ∧ some k_ ≠ (v122 : Value).ownBlock ∧ k_ ≠ gb101 ∧ k_ ≠ gb102 ∧ k_ ≠ gb103 ∧ k_ ≠ gb110)) (Kd.R_types (Kd.R_types (Kd.R_types (Kd.R_types (Kd.R_apart' (HO_111004.out) (Kd.N_typed HO123.out) z0_) BK101.out z0_) BK102.out z0_) BK103.out z0_) BK110.out z0_) (fun k_ hk => ⟨(.inr (hk.1.1.1.1.1)), ⟨hk.1.1.1.1.2, ⟨hk.1.1.1.2, ⟨hk.1.1.2, ⟨hk.1.2, hk.2⟩⟩⟩⟩⟩))))) (Reps.none _ _)))
       intro v125 w50 ho51 hb hg_ hnew_
       clear hg_ hnew_
       (first | rw [← Ny124.out] at ho51 | (simp only [Int.reduceToNat] at ho51; rw [← Ny124.out] at ho51))
       replace HO_102001 := Aside0.mk (Kd.V_elder' (vO HO_102001) (Kd.N_base ho51) hb)
       replace HO123 := Aside0.mk (Kd.N_elder' (nO HO123) (Kd.N_base ho51) hb)
       have HO126 := Aside0.mk (Kd.N_lower ho51 (bZ))
       replace BK101 := kS BK101 hb
       replace BK102 := kS BK102 hb
       replace BK103 := kS BK103 hb
       replace BK110 := kS BK110 hb
       replace HB := bS hb
       clear HO_111003 HO_111004 hb ho51
       refine kO 47 hK (fun hHeld => ?_)
       clear hK K
       exact norm_ (by simp only [putAll, Act.put, List.setIfInBounds_toArray, List.set_cons_zero, List.set_cons_succ]) (hCont (v119, v122, v125) _ ⟨hHeld, (fN HO123), (nO HO126), (fV HO_102001), (kQ BK101), (kQ BK102), (kQ BK103), (kQ BK110), zB⟩)
      ·skip
       refine Kd.N_lit_step k117 _ 117 ?hg (N' := 47) ?hd (xs := ([(⟨(wrap64 (a0_0 + 1)), (⟨a1_0, a1_1⟩ : S32), x111003_1, y107⟩ : S117)] : List (S117))) (inner := [.int .i64 (wrap64 (a0_0 + 1)), .string a1_0, .string a1_1, .slice Ao49 x111003_1.length co49, .slice Ao15 y107.length co15]) (ok := (fun k_ => (P0_1_ k_ ∨ w.heap.size ≤ k_) ∧ some k_ ≠ (v119 : Value).ownBlock ∧ k_ ≠ gb101 ∧ k_ ≠ gb102 ∧ k_ ≠ gb103 ∧ k_ ≠ gb110)) (okp := (fun k_ => (P0_1_ k_ ∨ w.heap.size ≤ k_) ∧ some k_ ≠ (v119 : Value).ownBlock ∧ k_ ≠ gb101 ∧ k_ ≠ gb102 ∧ k_ ≠ gb103 ∧ k_ ≠ gb110)) ?hr ?hp (fun _ hk => hk) ((show ∀ k_, w46.heap.size ≤ k_ → (fun k_ => (P0_1_ k_ ∨ w.heap.size ≤ k_) ∧ some k_ ≠ (v119 : Value).ownBlock ∧ k_ ≠ gb101 ∧ k_ ≠ gb102 ∧ k_ ≠ gb103 ∧ k_ ≠ gb110) k_ from fun k_ hk => ⟨(.inr (Nat.le_trans (bZ) hk)), Kd.fresh' (Kd.N_lt (nO HO120)) k_ hk, (kG BK101) k_ hk, (kG BK102) k_ hk, (kG BK103) k_ hk, (kG BK110) k_ hk⟩) _ (Nat.le_refl _)) (Below.refl _ _) (Nat.le_refl _) (by simp) ?_; (case hd => rfl); (case hg => rfl); (case hr => first | (go_simp; done) | (go_simp; rfl)); (case hp => exact (Reps.c5 (show Kd.FK k117 _ _ (⟨(wrap64 (a0_0 + 1)), (⟨a1_0, a1_1⟩ : S32), x111003_1, y107⟩ : S117) [.int .i64 (wrap64 (a0_0 + 1)), .string a1_0, .string a1_1, .slice Ao49 x111003_1.length co49, .slice Ao15 y107.length co15] from (k117_mkF _ _ (⟨(wrap64 (a0_0 + 1)), (⟨a1_0, a1_1⟩ : S32), x111003_1, y107⟩ : S117) (Kd.R_reads' (Kd.R_mono (ok' := (fun k_ => (P0_1_ k_ ∨ w.heap.size ≤ k_) ∧ some k_ ≠ (v119 : Value).ownBlock ∧ k_ ≠ gb101 ∧ k_ ≠ gb102 ∧ k_ ≠ gb103 ∧ k_ ≠ gb110)) (Kd.R_types (Kd.R_types (Kd.R_types (Kd.R_types (Kd.R_apart' (HO_111003.out) (Kd.N_typed HO120.out) z0_) BK101.out z0_) BK102.out z0_) BK103.out z0_) BK110.out z0_) (fun k_ hk => ⟨(.inr (hk.1.1.1.1.1)), ⟨hk.1.1.1.1.2, ⟨hk.1.1.1.2, ⟨hk.1.1.2, ⟨hk.1.2, hk.2⟩⟩⟩⟩⟩))).2.1 (Kd.R_F (Kd.R_mono (ok' := (fun k_ => (P0_1_ k_ ∨ w.heap.size ≤ k_) ∧ some k_ ≠ (v119 : Value).ownBlock ∧ k_ ≠ gb101 ∧ k_ ≠ gb102 ∧ k_ ≠ gb103 ∧ k_ ≠ gb110)) (Kd.R_types (Kd.R_types (Kd.R_types (Kd.R_types (Kd.R_apart' (HO_111003.out) (Kd.N_typed HO120.out) z0_) BK101.out z0_) BK102.out z0_) BK103.out z0_) BK110.out z0_) (fun k_ hk => ⟨(.inr (hk.1.1.1.1.1)), ⟨hk.1.1.1.1.2, ⟨hk.1.1.1.2, ⟨hk.1.1.2, ⟨hk.1.2, hk.2⟩⟩⟩⟩⟩))) (Kd.R_reads' (Kd.R_mono (ok' := (fun k_ => (P0_1_ k_ ∨ w.heap.size ≤ k_) ∧ some k_ ≠ (v119 : Value).ownBlock ∧ k_ ≠ gb101 ∧ k_ ≠ gb102 ∧ k_ ≠ gb103 ∧ k_ ≠ gb110)) (Kd.R_types (Kd.R_types (Kd.R_types (Kd.R_types (Kd.R_apart' (HO_111004.out) (Kd.N_typed HO120.out) z0_) BK101.out z0_) BK102.out z0_) BK103.out z0_) BK110.out z0_) (fun k_ hk => ⟨(.inr (hk.1.1.1.1.1)), ⟨hk.1.1.1.1.2, ⟨hk.1.1.1.2, ⟨hk.1.1.2, ⟨hk.1.2, hk.2⟩⟩⟩⟩⟩))).2.1 (Kd.R_F (Kd.R_mono (ok' := (fun k_ => (P0_1_ k_ ∨ w.heap.size ≤ k_) ∧ some k_ ≠ (v119 : Value).ownBlock ∧ k_ ≠ gb101 ∧ k_ ≠ gb102 ∧ k_ ≠ gb103 ∧ k_ ≠ gb110)) (Kd.R_types (Kd.R_types (Kd.R_types (Kd.R_types (Kd.R_apart' (HO_111004.out) (Kd.N_typed HO120.out) z0_) BK101.out z0_) BK102.out z0_) BK103.out z0_) BK110.out z0_) (fun k_ hk => ⟨(.inr (hk.1.1.1.1.1)), ⟨hk.1.1.1.1.2, ⟨hk.1.1.1.2, ⟨hk.1.1.2, ⟨hk.1.2, hk.2⟩⟩⟩⟩⟩))))) (Reps.none _ _)))
       intro v125 w49 ho50 hb hg_ hnew_
       clear hg_ hnew_
       (first | rw [← Ny124.out] at ho50 | (simp only [Int.reduceToNat] at ho50; rw [← Ny124.out] at ho50))
       replace HO_102001 := Aside0.mk (Kd.V_elder' (vO HO_102001) (Kd.N_base ho50) hb)
       replace HO120 := Aside0.mk (Kd.N_elder' (nO HO120) (Kd.N_base ho50) hb)
       have HO126 := Aside0.mk (Kd.N_lower ho50 (bZ))
       replace BK101 := kS BK101 hb
       replace BK102 := kS BK102 hb
       replace BK103 := kS BK103 hb
       replace BK110 := kS BK110 hb
       replace HB := bS hb
       clear HO_111003 HO_111004 hb ho50
       refine kO 47 hK (fun hHeld => ?_)
       clear hK K
       refine on 3 (some 45) (fun K hK => ?_)
       refine Kd.N_append_rows_step k117 (w0 := w) w.heap.size (by rfl) (.tmp 42) (.tmp 44) 78 117 (.agg #[(.int .i64 0), (.string ⟨#[]⟩), (.string ⟨#[]⟩), (.slice none 0 0), (.slice none 0 0)]) 88 rfl Tryz.underlying78 info117 rfl z0_ (by omega) v119 y118 l0_1 _ _ _ (fun k_ => (P0_1_ k_ ∨ w.heap.size ≤ k_) ∧ some k_ ≠ (v125 : Value).ownBlock ∧ k_ ≠ gb101 ∧ k_ ≠ gb102 ∧ k_ ≠ gb103 ∧ k_ ≠ gb110) (fun k_ => ((fun k_ => (P0_1_ k_ ∨ w.heap.size ≤ k_) ∧ some k_ ≠ (v125 : Value).ownBlock ∧ k_ ≠ gb101 ∧ k_ ≠ gb102 ∧ k_ ≠ gb103 ∧ k_ ≠ gb110)) k_ ∧ some k_ ≠ (v119 : Value).ownBlock) rfl rfl ?aO ?aR (fun _ hk => hk) ?aF ?aB ?aS ?aL ?_
       (case aR => exact (by skip; exact Kd.V_F (Kd.V_mono (ok' := (fun k_ => ((fun k_ => (P0_1_ k_ ∨ w.heap.size ≤ k_) ∧ some k_ ≠ (v125 : Value).ownBlock ∧ k_ ≠ gb101 ∧ k_ ≠ gb102 ∧ k_ ≠ gb103 ∧ k_ ≠ gb110)) k_ ∧ some k_ ≠ (v119 : Value).ownBlock)) (HO_102001.out) (fun k_ hk => ⟨⟨hk.1.1.1, ⟨hk.2, ⟨hk.1.1.2.2.2.1, ⟨hk.1.1.2.2.2.2.1, ⟨hk.1.1.2.2.2.2.2.1, hk.1.1.2.2.2.2.2.2⟩⟩⟩⟩⟩, hk.1.2⟩))))
       (case aB => exact zB)
       (case aF => exact (fun k_ hk => ⟨(.inr (Nat.le_trans (bZ) hk)), Kd.fresh' (Kd.N_lt (nO HO126)) k_ hk, (kG BK101) k_ hk, (kG BK102) k_ hk, (kG BK103) k_ hk, (kG BK110) k_ hk⟩))
       (case aO => exact (fN HO120))
       (case aS => exact (bZ))
       (case aL => have := LMc35.out; omega)
       intro v122 w51 ho hb hg hat
       rw [← Ny121.out] at ho
       replace HO_102001 := Aside0.mk (Kd.V_afterv (ok := (fun k_ => (P0_1_ k_ ∨ w.heap.size ≤ k_) ∧ some k_ ≠ (v125 : Value).ownBlock ∧ k_ ≠ gb101 ∧ k_ ≠ gb102 ∧ k_ ≠ gb103 ∧ k_ ≠ gb110)) (fV HO_102001) hg hat)
       replace BK101 := bN BK101 HO120 hg
       replace BK102 := bN BK102 HO120 hg
       replace BK103 := bN BK103 HO120 hg
       replace BK110 := Aside0.mk (blk_grown (g := gb110) (o := .cells #[.int .i64 (wrap64 (a0_0 + 1)), .string a1_0, .string a1_1, .slice Ao49 x111003_1.length co49, .slice Ao15 y107.length co15] 117 (0, 0)) (kQ BK110) hg (Kd.N_away HO120.out (fun _ hk => hk.1.2.2.2.2.2.2)))
       replace HO126 := Aside0.mk (Kd.N_afterv (ok := (fun k_ => (P0_1_ k_ ∨ w.heap.size ≤ k_) ∧ k_ ≠ gb101 ∧ k_ ≠ gb102 ∧ k_ ≠ gb103 ∧ k_ ≠ gb110)) (fN HO126) hg hat)
       replace HB := Aside0.mk (hb)
       have HO123 := Aside0.mk (ho)
       clear HO120 ho hb hg hat
       refine kO 45 hK (fun hHeld => ?_)
       clear hK K
       exact norm_ (by simp only [putAll, Act.put, List.setIfInBounds_toArray, List.set_cons_zero, List.set_cons_succ]) (hCont (v119, v122, v125) _ ⟨hHeld, (nO HO123), (fN HO126), (fV HO_102001), (kQ BK101), (kQ BK102), (kQ BK103), (kQ BK110), zB⟩)
     ·skip
      refine Kd.N_lit_step k117 _ 117 ?hg (N' := 47) ?hd (xs := ([(⟨(wrap64 (a0_0 + 1)), (⟨a1_0, a1_1⟩ : S32), x111003_1, y107⟩ : S117)] : List (S117))) (inner := [.int .i64 (wrap64 (a0_0 + 1)), .string a1_0, .string a1_1, .slice Ao49 x111003_1.length co49, .slice Ao15 y107.length co15]) (ok := (fun k_ => (P0_1_ k_ ∨ w.heap.size ≤ k_) ∧ k_ ≠ gb101 ∧ k_ ≠ gb102 ∧ k_ ≠ gb103 ∧ k_ ≠ gb110)) (okp := (fun k_ => (P0_1_ k_ ∨ w.heap.size ≤ k_) ∧ k_ ≠ gb101 ∧ k_ ≠ gb102 ∧ k_ ≠ gb103 ∧ k_ ≠ gb110)) ?hr ?hp (fun _ hk => hk) ((show ∀ k_, w45.heap.size ≤ k_ → (fun k_ => (P0_1_ k_ ∨ w.heap.size ≤ k_) ∧ k_ ≠ gb101 ∧ k_ ≠ gb102 ∧ k_ ≠ gb103 ∧ k_ ≠ gb110) k_ from fun k_ hk => ⟨(.inr (Nat.le_trans (bZ) hk)), (kG BK101) k_ hk, (kG BK102) k_ hk, (kG BK103) k_ hk, (kG BK110) k_ hk⟩) _ (Nat.le_refl _)) (Below.refl _ _) (Nat.le_refl _) (by simp) ?_; (case hd => rfl); (case hg => rfl); (case hr => first | (go_simp; done) | (go_simp; rfl)); (case hp => exact (Reps.c5 (show Kd.FK k117 _ _ (⟨(wrap64 (a0_0 + 1)), (⟨a1_0, a1_1⟩ : S32), x111003_1, y107⟩ : S117) [.int .i64 (wrap64 (a0_0 + 1)), .string a1_0, .string a1_1, .slice Ao49 x111003_1.length co49, .slice Ao15 y107.length co15] from (k117_mkF _ _ (⟨(wrap64 (a0_0 + 1)), (⟨a1_0, a1_1⟩ : S32), x111003_1, y107⟩ : S117) (Kd.R_reads' (Kd.R_mono (ok' := (fun k_ => (P0_1_ k_ ∨ w.heap.size ≤ k_) ∧ k_ ≠ gb101 ∧ k_ ≠ gb102 ∧ k_ ≠ gb103 ∧ k_ ≠ gb110)) (Kd.R_types (Kd.R_types (Kd.R_types (Kd.R_types (HO_111003.out) BK101.out z0_) BK102.out z0_) BK103.out z0_) BK110.out z0_) (fun k_ hk => ⟨(.inr (hk.1.1.1.1)), ⟨hk.1.1.1.2, ⟨hk.1.1.2, ⟨hk.1.2, hk.2⟩⟩⟩⟩))).2.1 (Kd.R_F (Kd.R_mono (ok' := (fun k_ => (P0_1_ k_ ∨ w.heap.size ≤ k_) ∧ k_ ≠ gb101 ∧ k_ ≠ gb102 ∧ k_ ≠ gb103 ∧ k_ ≠ gb110)) (Kd.R_types (Kd.R_types (Kd.R_types (Kd.R_types (HO_111003.out) BK101.out z0_) BK102.out z0_) BK103.out z0_) BK110.out z0_) (fun k_ hk => ⟨(.inr (hk.1.1.1.1)), ⟨hk.1.1.1.2, ⟨hk.1.1.2, ⟨hk.1.2, hk.2⟩⟩⟩⟩))) (Kd.R_reads' (Kd.R_mono (ok' := (fun k_ => (P0_1_ k_ ∨ w.heap.size ≤ k_) ∧ k_ ≠ gb101 ∧ k_ ≠ gb102 ∧ k_ ≠ gb103 ∧ k_ ≠ gb110)) (Kd.R_types (Kd.R_types (Kd.R_types (Kd.R_types (HO_111004.out) BK101.out z0_) BK102.out z0_) BK103.out z0_) BK110.out z0_) (fun k_ hk => ⟨(.inr (hk.1.1.1.1)), ⟨hk.1.1.1.2, ⟨hk.1.1.2, ⟨hk.1.2, hk.2⟩⟩⟩⟩))).2.1 (Kd.R_F (Kd.R_mono (ok' := (fun k_ => (P0_1_ k_ ∨ w.heap.size ≤ k_) ∧ k_ ≠ gb101 ∧ k_ ≠ gb102 ∧ k_ ≠ gb103 ∧ k_ ≠ gb110)) (Kd.R_types (Kd.R_types (Kd.R_types (Kd.R_types (HO_111004.out) BK101.out z0_) BK102.out z0_) BK103.out z0_) BK110.out z0_) (fun k_ hk => ⟨(.inr (hk.1.1.1.1)), ⟨hk.1.1.1.2, ⟨hk.1.1.2, ⟨hk.1.2, hk.2⟩⟩⟩⟩))))) (Reps.none _ _)))
      intro v125 w47 ho48 hb hg_ hnew_
      clear hg_ hnew_
      (first | rw [← Ny124.out] at ho48 | (simp only [Int.reduceToNat] at ho48; rw [← Ny124.out] at ho48))
      replace HO_102001 := Aside0.mk (Kd.V_elder' (vO HO_102001) (Kd.N_base ho48) hb)
      have HO126 := Aside0.mk (Kd.N_lower ho48 (bZ))
      replace BK101 := kS BK101 hb
      replace BK102 := kS BK102 hb
      replace BK103 := kS BK103 hb
      replace BK110 := kS BK110 hb
      replace HB := bS hb
      clear HO_111003 HO_111004 hb ho48
      refine kO 47 hK (fun hHeld => ?_)
      clear hK K
      refine on 0 (some 42) (fun K hK => ?_)
      refine Kd.N_lit_step k117 _ 117 ?hg (N' := 42) ?hd (xs := ([] : List (S117))) (inner := []) (ok := (fun k_ => (P0_1_ k_ ∨ w.heap.size ≤ k_) ∧ some k_ ≠ (v125 : Value).ownBlock ∧ k_ ≠ gb101 ∧ k_ ≠ gb102 ∧ k_ ≠ gb103 ∧ k_ ≠ gb110)) (okp := (fun k_ => (P0_1_ k_ ∨ w.heap.size ≤ k_) ∧ some k_ ≠ (v125 : Value).ownBlock ∧ k_ ≠ gb101 ∧ k_ ≠ gb102 ∧ k_ ≠ gb103 ∧ k_ ≠ gb110)) ?hr ?hp (fun _ hk => hk) ((show ∀ k_, w47.heap.size ≤ k_ → (fun k_ => (P0_1_ k_ ∨ w.heap.size ≤ k_) ∧ some k_ ≠ (v125 : Value).ownBlock ∧ k_ ≠ gb101 ∧ k_ ≠ gb102 ∧ k_ ≠ gb103 ∧ k_ ≠ gb110) k_ from fun k_ hk => ⟨(.inr (Nat.le_trans (bZ) hk)), Kd.fresh' (Kd.N_lt (nO HO126)) k_ hk, (kG BK101) k_ hk, (kG BK102) k_ hk, (kG BK103) k_ hk, (kG BK110) k_ hk⟩) _ (Nat.le_refl _)) (Below.refl _ _) (Nat.le_refl _) (by simp) ?_; (case hd => rfl); (case hg => rfl); (case hr => first | (go_simp; done) | (go_simp; rfl)); (case hp => exact (Reps.none _ _))
      intro v119 w49 ho50 hb hg_ hnew_
      clear hg_ hnew_
      (first | rw [← Ny118.out] at ho50 | (simp only [Int.reduceToNat] at ho50; rw [← Ny118.out] at ho50))
      replace HO_102001 := Aside0.mk (Kd.V_elder' (vO HO_102001) (Kd.N_base ho50) hb)
      replace HO126 := Aside0.mk (Kd.N_elder' (nO HO126) (Kd.N_base ho50) hb)
      have HO120 := Aside0.mk (Kd.N_lower ho50 (bZ))
      replace BK101 := kS BK101 hb
      replace BK102 := kS BK102 hb
      replace BK103 := kS BK103 hb
      replace BK110 := kS BK110 hb
      replace HB := bS hb
      clear hb ho50
      refine kO 42 hK (fun hHeld => ?_)
      clear hK K
      refine on 3 (some 45) (fun K hK => ?_)
      refine Kd.N_append_rows_step k117 (w0 := w) w.heap.size (by rfl) (.tmp 42) (.tmp 44) 78 117 (.agg #[(.int .i64 0), (.string ⟨#[]⟩), (.string ⟨#[]⟩), (.slice none 0 0), (.slice none 0 0)]) 88 rfl Tryz.underlying78 info117 rfl z0_ (by omega) v119 y118 l0_1 _ _ _ (fun k_ => (P0_1_ k_ ∨ w.heap.size ≤ k_) ∧ some k_ ≠ (v125 : Value).ownBlock ∧ k_ ≠ gb101 ∧ k_ ≠ gb102 ∧ k_ ≠ gb103 ∧ k_ ≠ gb110) (fun k_ => ((fun k_ => (P0_1_ k_ ∨ w.heap.size ≤ k_) ∧ some k_ ≠ (v125 : Value).ownBlock ∧ k_ ≠ gb101 ∧ k_ ≠ gb102 ∧ k_ ≠ gb103 ∧ k_ ≠ gb110)) k_ ∧ some k_ ≠ (v119 : Value).ownBlock) rfl rfl ?aO ?aR (fun _ hk => hk) ?aF ?aB ?aS ?aL ?_
      (case aR => exact (by skip; exact Kd.V_F (Kd.V_mono (ok' := (fun k_ => ((fun k_ => (P0_1_ k_ ∨ w.heap.size ≤ k_) ∧ some k_ ≠ (v125 : Value).ownBlock ∧ k_ ≠ gb101 ∧ k_ ≠ gb102 ∧ k_ ≠ gb103 ∧ k_ ≠ gb110)) k_ ∧ some k_ ≠ (v119 : Value).ownBlock)) (HO_102001.out) (fun k_ hk => ⟨⟨hk.1.1.1, ⟨hk.1.2, ⟨hk.1.1.2.2.2.1, ⟨hk.1.1.2.2.2.2.1, ⟨hk.1.1.2.2.2.2.2.1, hk.1.1.2.2.2.2.2.2⟩⟩⟩⟩⟩, hk.2⟩))))
      (case aB => exact zB)
      (case aF => exact (fun k_ hk => ⟨(.inr (Nat.le_trans (bZ) hk)), Kd.fresh' (Kd.N_lt (nO HO126)) k_ hk, (kG BK101) k_ hk, (kG BK102) k_ hk, (kG BK103) k_ hk, (kG BK110) k_ hk⟩))
      (case aO => exact (nO HO120))
      (case aS => exact (bZ))
      (case aL => have := LMc35.out; omega)
      intro v122 w51 ho hb hg hat
      rw [← Ny121.out] at ho
      replace HO_102001 := Aside0.mk (Kd.V_afterv (ok := (fun k_ => (P0_1_ k_ ∨ w.heap.size ≤ k_) ∧ some k_ ≠ (v125 : Value).ownBlock ∧ k_ ≠ gb101 ∧ k_ ≠ gb102 ∧ k_ ≠ gb103 ∧ k_ ≠ gb110)) (fV HO_102001) hg hat)
      replace BK101 := bN BK101 HO120 hg
      replace BK102 := bN BK102 HO120 hg
      replace BK103 := bN BK103 HO120 hg
      replace BK110 := Aside0.mk (blk_grown (g := gb110) (o := .cells #[.int .i64 (wrap64 (a0_0 + 1)), .string a1_0, .string a1_1, .slice Ao49 x111003_1.length co49, .slice Ao15 y107.length co15] 117 (0, 0)) (kQ BK110) hg (Kd.N_away HO120.out (fun _ hk => hk.2.2.2.2.2)))
      replace HO126 := Aside0.mk (Kd.N_afterv (ok := (fun k_ => (P0_1_ k_ ∨ w.heap.size ≤ k_) ∧ k_ ≠ gb101 ∧ k_ ≠ gb102 ∧ k_ ≠ gb103 ∧ k_ ≠ gb110)) (nO HO126) hg hat)
      replace HB := Aside0.mk (hb)
      have HO123 := Aside0.mk (ho)
      clear HO120 ho hb hg hat
      refine kO 45 hK (fun hHeld => ?_)
      clear hK K
      exact norm_ (by simp only [putAll, Act.put, List.setIfInBounds_toArray, List.set_cons_zero, List.set_cons_succ]) (hCont (v119, v122, v125) _ ⟨hHeld, (nO HO123), (fN HO126), (fV HO_102001), (kQ BK101), (kQ BK102), (kQ BK103), (kQ BK110), zB⟩)
    rintro ⟨v119, v122, v125⟩ w52 ⟨hS_, h0_, h1_, h2_, h3_, h4_, h5_, h6_, h7_⟩
    have HO123 : Aside0 (Kd.N k117 117 w52 w.heap.size (fun k_ => (P0_1_ k_ ∨ w.heap.size ≤ k_) ∧ some k_ ≠ (v125 : Value).ownBlock ∧ k_ ≠ gb101 ∧ k_ ≠ gb102 ∧ k_ ≠ gb103 ∧ k_ ≠ gb110) v122 y121) := ⟨h0_⟩
    have HO126 : Aside0 (Kd.N k117 117 w52 w.heap.size (fun k_ => (P0_1_ k_ ∨ w.heap.size ≤ k_) ∧ some k_ ≠ (v122 : Value).ownBlock ∧ k_ ≠ gb101 ∧ k_ ≠ gb102 ∧ k_ ≠ gb103 ∧ k_ ≠ gb110) v125 y124) := ⟨h1_⟩
    replace HO_102001 : Aside0 (Kd.V k117 117 w52 w.heap.size (fun k_ => (P0_1_ k_ ∨ w.heap.size ≤ k_) ∧ some k_ ≠ (v122 : Value).ownBlock ∧ some k_ ≠ (v125 : Value).ownBlock ∧ k_ ≠ gb101 ∧ k_ ≠ gb102 ∧ k_ ≠ gb103 ∧ k_ ≠ gb110) (.slice A0_1 l0_1.length c0_1) l0_1) := ⟨h2_⟩
    replace BK101 : Aside0 (w52.heap[gb101]? = some (.cells #[.int .i64 (wrap64 (a0_0 + 1)), .slice A0_1 l0_1.length c0_1] 80 (0, 0))) := ⟨h3_⟩
    replace BK102 : Aside0 (w52.heap[gb102]? = some (.cells #[.string a1_0, .string a1_1, .slice A1_2 l1_2.length c1_2, .slice A1_3 l1_3.length c1_3] 35 (0, 0))) := ⟨h4_⟩
    replace BK103 : Aside0 (w52.heap[gb103]? = some (.cells #[.int .i64 0, .slice none 0 0] 80 (0, 0))) := ⟨h5_⟩
    replace BK110 : Aside0 (w52.heap[gb110]? = some (.cells #[.int .i64 (wrap64 (a0_0 + 1)), .string a1_0, .string a1_1, .slice Ao49 x111003_1.length co49, .slice Ao15 y107.length co15] 117 (0, 0))) := ⟨h6_⟩
    replace HB : Aside0 (Below w.heap.size w w52) := ⟨h7_⟩
    clear HO_111003 HO_111004 h0_ h1_ h2_ h3_ h4_ h5_ h6_ h7_
    have hHeld : w52.cell? ⟨gb101, 0, none⟩ = some (.int .i64 (wrap64 (a0_0 + 1))) ∧ w52.cell? ⟨gb101, 1, none⟩ = some (.slice A0_1 l0_1.length c0_1) ∧ w52.cell? ⟨gb110, 0, none⟩ = some (.int .i64 (wrap64 (a0_0 + 1))) ∧ w52.cell? ⟨gb110, 1, none⟩ = some (.string a1_0) ∧ w52.cell? ⟨gb110, 2, none⟩ = some (.string a1_1) ∧ w52.cell? ⟨gb110, 3, none⟩ = some (.slice Ao49 x111003_1.length co49) ∧ w52.cell? ⟨gb110, 4, none⟩ = some (.slice Ao15 y107.length co15) := hS_
    obtain ⟨Ao54, co54, eo54⟩ := Kd.N_slice HO126.out
    (first | subst eo54 | (injection eo54 with f1_ f2_ f3_; have f4_ := f1_.symm; have f5_ := f3_.symm; clear f1_ f2_ f3_; subst f4_; subst f5_))
    refine norm_ (a' := ?_) ?_ ?_
    rotate_left
    ·simp only [putAll, Act.put, List.setIfInBounds_toArray, List.set_cons_zero, List.set_cons_succ]
     rfl
    refine on 6 (some 48) (fun K hK => ?_)
    refine Kd.N_append_rows_step k117 (w0 := w) w.heap.size (by rfl) (.tmp 45) (.tmp 47) 78 117 (.agg #[(.int .i64 0), (.string ⟨#[]⟩), (.string ⟨#[]⟩), (.slice none 0 0), (.slice none 0 0)]) 88 rfl Tryz.underlying78 info117 rfl z0_ (by omega) v122 y121 y124 _ _ _ (fun k_ => (P0_1_ k_ ∨ w.heap.size ≤ k_) ∧ k_ ≠ gb101 ∧ k_ ≠ gb102 ∧ k_ ≠ gb103 ∧ k_ ≠ gb110) (fun k_ => ((fun k_ => (P0_1_ k_ ∨ w.heap.size ≤ k_) ∧ k_ ≠ gb101 ∧ k_ ≠ gb102 ∧ k_ ≠ gb103 ∧ k_ ≠ gb110)) k_ ∧ some k_ ≠ (v122 : Value).ownBlock) rfl rfl ?aO ?aR (fun _ hk => hk) ?aF ?aB ?aS ?aL ?_
    (case aR => exact (by skip; exact Kd.N_F (Kd.N_mono (ok' := (fun k_ => ((fun k_ => (P0_1_ k_ ∨ w.heap.size ≤ k_) ∧ k_ ≠ gb101 ∧ k_ ≠ gb102 ∧ k_ ≠ gb103 ∧ k_ ≠ gb110)) k_ ∧ some k_ ≠ (v122 : Value).ownBlock)) (HO126.out) (fun k_ hk => ⟨⟨hk.1, ⟨hk.2.2.1, ⟨hk.2.2.2.1, ⟨hk.2.2.2.2.1, hk.2.2.2.2.2⟩⟩⟩⟩, hk.2.1⟩))))
    (case aB => exact zB)
    (case aF => exact (fun k_ hk => ⟨(.inr (Nat.le_trans (bZ) hk)), (kG BK101) k_ hk, (kG BK102) k_ hk, (kG BK103) k_ hk, (kG BK110) k_ hk⟩))
    (case aO => exact (fN HO123))
    (case aS => exact (bZ))
    (case aL => have := LMc36.out; omega)
    intro v128 w53 ho hb hg hat
    rw [← Ny127.out] at ho
    replace HO_102001 := Aside0.mk (Kd.V_afterv (ok := (fun k_ => (P0_1_ k_ ∨ w.heap.size ≤ k_) ∧ some k_ ≠ (.slice Ao54 y124.length co54 : Value).ownBlock ∧ k_ ≠ gb101 ∧ k_ ≠ gb102 ∧ k_ ≠ gb103 ∧ k_ ≠ gb110)) (fV HO_102001) hg hat)
    replace BK101 := bN BK101 HO123 hg
    replace BK102 := bN BK102 HO123 hg
    replace BK103 := bN BK103 HO123 hg
    replace BK110 := Aside0.mk (blk_grown (g := gb110) (o := .cells #[.int .i64 (wrap64 (a0_0 + 1)), .string a1_0, .string a1_1, .slice Ao49 x111003_1.length co49, .slice Ao15 y107.length co15] 117 (0, 0)) (kQ BK110) hg (Kd.N_away HO123.out (fun _ hk => hk.2.2.2.2.2)))
    replace HO126 := Aside0.mk (Kd.N_afterv (ok := (fun k_ => (P0_1_ k_ ∨ w.heap.size ≤ k_) ∧ k_ ≠ gb101 ∧ k_ ≠ gb102 ∧ k_ ≠ gb103 ∧ k_ ≠ gb110)) (fN HO126) hg hat)
    replace HB := Aside0.mk (hb)
    have HO129 := Aside0.mk (ho)
    clear HO123 ho hb hg hat
    obtain ⟨Ao55, co55, eo55⟩ := Kd.N_slice HO129.out
    (first | subst eo55 | (injection eo55 with f1_ f2_ f3_; have f4_ := f1_.symm; have f5_ := f3_.symm; clear f1_ f2_ f3_; subst f4_; subst f5_))
    refine kO 48 hK (fun hHeld => ?_)
    clear hK K
    refine pu 7 49 ?_
    refine last_ (i := 8) (N := none) #[true, true, true, true, true, true, true, true, true] rfl rfl (one_of HT_.out (by kernel_rfl)) z0_ (fun K hK => ?_)
    have hs56 : w53.cell? ⟨gb101, 1, none⟩ = some (.slice A0_1 l0_1.length c0_1) := (blk_cell BK101.out 1).trans rfl
    have hfs56 := blk_frozen BK101.out 1
    have hns56_1 := NB102_101.out
    have hns56_2 := NB103_101.out
    have hns56_3 := NB110_101.out
    have hms56_1 := NB101_102.out
    have hms56_2 := NB101_103.out
    have hms56_3 := NB101_110.out
    refine sk ?_
    refine hK.out _ _ ?_
    clear hK K
    refine done_ (done_of HT_.out (by kernel_rfl)) ?_
    have hcz57 := cz2 BK101.out
    have hfz57 := fz2 BK101.out
    have hnb58 := NB103_110.out
    have hnc58 := NB110_103.out
    have hcz59 := cz2 BK103.out
    have hfz59 := fz2 BK103.out
    try go_wp2
    refine bodyPost_ret (results_cell_row rfl _ _ gb103 80 #[.int .i64 (wrap64 (a0_0 + 1)), .slice Ao55 y127.length co55] (0, 0) _ rfl (kQ BK103) Tryz.underlying80 rfl (by kernel_rfl)) rfl ?_
    exact ⟨_, zr, fN HO129, zB⟩
end Go.Proofs.YtbncnjgflhoneaaGreatDoor.F
