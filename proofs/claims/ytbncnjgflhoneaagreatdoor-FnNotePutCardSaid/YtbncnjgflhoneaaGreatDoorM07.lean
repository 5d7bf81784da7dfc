/- Of this claim, merged by program: F132. -/
import Derived.Test.YtbncnjgflhoneaaGreatDoorM02
import Derived.Test.YtbncnjgflhoneaaGreatDoorM05
namespace Go.Proofs.YtbncnjgflhoneaaGreatDoor.F
open Go.RowKit Go.Proofs.YtbncnjgflhoneaaGreatDoor.Hand Go.Proofs.YtbncnjgflhoneaaGreatDoorW.PrintWords Go.Proofs.YtbncnjgflhoneaaGreatDoorW.PrintLast Go.Proofs.YtbncnjgflhoneaaGreatDoorW.PrintMore
set_option linter.unusedVariables false
set_option linter.unusedSimpArgs false
def spec_l5CopyItem.f (a0_0 : Int) (a0_1 : ByteArray) (a0_2 : ByteArray) (l0_3 : List (S143)) (l0_4 : List ByteArray) : Option (Int × ByteArray × ByteArray × (List (S143)) × List ByteArray) := (some (([] : List (S143)) : List (S143))).bind fun y103 => (if y103.length + l0_3.length < 2932031007402 then ((some (([] : List ByteArray) : List ByteArray)).bind fun y109 => (if y109.length + l0_4.length < 8796093022208 then (some (a0_0, a0_1, a0_2, (y103 ++ l0_3), (y109 ++ l0_4))) else (none))) else (none))
def spec_l5CopyItem.T1 : Bool × List (List Nat × List Nat) := (true, [([], []), ([0], [0]), ([], []), ([2], [2]), ([], []), ([], []), ([5], [5]), ([4, 6], [4, 6]), ([], []), ([], []), ([9], [9]), ([8, 10, 7], [8, 10]), ([1, 3, 7, 11], [1, 3, 7, 11]), ([12, 11, 0, 1, 2, 3, 4, 5, 6, 7, 8, 9, 10, 11, 12], [12])])
def spec_l5CopyItem.B1 : List Nat := [0, 1, 0, 4, 0, 0, 32, 112, 0, 0, 512, 2032, 4095, 8191]
theorem spec_l5CopyItem.tab1 : rtab .any (opsOf Tryz.f132 1) = spec_l5CopyItem.T1 := by kernel_rfl
theorem spec_l5CopyItem.bits1 : waitsOk spec_l5CopyItem.T1.2 spec_l5CopyItem.B1 = true := by kernel_rfl
set_option maxHeartbeats 8000000 in
set_option maxRecDepth 100000 in
theorem spec_l5CopyItem.calls (a0_0 : Int) (a0_1 : ByteArray) (a0_2 : ByteArray) (A0_3 : Option Addr) (c0_3 : Nat) (l0_3 : List (S143)) (A0_4 : Option Addr) (c0_4 : Nat) (l0_4 : List ByteArray) (r1 : Int) (r2 : ByteArray) (r3 : ByteArray) (r4 : List (S143)) (r5 : List ByteArray) (w : World) (hr0_3 : Kd.C k143 w A0_3 l0_3.length l0_3) (hc0_3 : l0_3.length ≤ c0_3) (hr0_4 : Kd.C Kd.string w A0_4 l0_4.length l0_4) (hc0_4 : l0_4.length ≤ c0_4) (h : spec_l5CopyItem.f a0_0 a0_1 a0_2 l0_3 l0_4 = some (r1, r2, r3, r4, r5)) :
  Calls Tryz.prog 132 #[.agg #[.int .i64 a0_0, .string a0_1, .string a0_2, .slice A0_3 l0_3.length c0_3, .slice A0_4 l0_4.length c0_4]] w fun e w' => ∃ v3_ v4_ : Value, e = .returned (.agg #[.int .i64 r1, .string r2, .string r3, v3_, v4_]) ∧ Kd.R k143 143 w' w.heap.size (fun _ => True) v3_ r4 ∧ Kd.R Kd.string 9 w' w.heap.size (fun _ => True) v4_ r5 ∧ Below w.heap.size w w' := by
 have hu117 := Tryz.underlying117
 have hu32 := Tryz.underlying32
 have HR0_3 := Aside0.mk hr0_3
 have HC0_3 := Aside0.mk hc0_3
 clear hr0_3 hc0_3
 have HR0_4 := Aside0.mk hr0_4
 have HC0_4 := Aside0.mk hc0_4
 clear hr0_4 hc0_4
 have HB := Aside0.mk (Below.refl w.heap.size w)
 have H := h
 clear h
 unfold spec_l5CopyItem.f at H
 first | (with_reducible replace H := bne (([] : List (S143)) : List (S143)) H; obtain ⟨y103, Ny103, H⟩ := H) | (generalize hy_ : (([] : List (S143)) : List (S143)) = y103 at H; have Ny103 := Aside0.mk hy_.symm; clear hy_)
 replace H := itn_L H; obtain ⟨LMc2, H⟩ := H
 first | (with_reducible replace H := bne (y103 ++ l0_3 : List (S143)) H; obtain ⟨y106, Ny106, H⟩ := H) | (generalize hy_ : (y103 ++ l0_3 : List (S143)) = y106 at H; have Ny106 := Aside0.mk hy_.symm; clear hy_)
 first | (with_reducible replace H := bne (([] : List ByteArray) : List ByteArray) H; obtain ⟨y109, Ny109, H⟩ := H) | (generalize hy_ : (([] : List ByteArray) : List ByteArray) = y109 at H; have Ny109 := Aside0.mk hy_.symm; clear hy_)
 replace H := itn_L H; obtain ⟨LMc3, H⟩ := H
 first | (with_reducible replace H := bne (y109 ++ l0_4 : List ByteArray) H; obtain ⟨y112, Ny112, H⟩ := H) | (generalize hy_ : (y109 ++ l0_4 : List ByteArray) = y112 at H; have Ny112 := Aside0.mk hy_.symm; clear hy_)
 simp only [Option.some.injEq, Prod.mk.injEq] at H
 obtain ⟨rfl, rfl, rfl, rfl, rfl⟩ := H
 go_enter Tryz.func132, Tryz.ntmps132
 try go_wp2_with (first | ((with_reducible refine gate_dst (N := 1) rfl ?_); refine bx (cs := #[.int .i64 a0_0, .string a0_1, .string a0_2, .slice A0_3 l0_3.length c0_3, .slice A0_4 l0_4.length c0_4]) (t := 117) ?_; intro gb101 hg w4 hbox hb; have BK101 := Aside0.mk (hbox); have GW101 := gS hg; have GE101 := gS hg; replace HB := bS hb; clear hb hbox hg) | ((with_reducible refine gate_dst (N := 2) rfl ?_); refine bx (cs := #[.int .i64 0, .string ⟨#[]⟩, .string ⟨#[]⟩, .slice none 0 0, .slice none 0 0]) (t := 117) ?_; intro gb102 hg w5 hbox hb; have BK102 := Aside0.mk (hbox); have GW102 := gS hg; have GE102 := gS hg; have NB101_102 := nS hg BK101; have NB102_101 := nG hg BK101; replace BK101 := kS BK101 hb; replace HB := bS hb; clear hb hbox hg))
 replace BK101 := Aside0.mk (blk_drew BK101.out)
 replace BK102 := Aside0.mk (blk_drew BK102.out)
 replace HB := Aside0.mk (below_drew1 HB.out)
 refine start_ (n := 14) (S := fun w' => w'.cell? ⟨gb101, 0, none⟩ = some (.int .i64 a0_0) ∧ w'.cell? ⟨gb101, 1, none⟩ = some (.string a0_1) ∧ w'.cell? ⟨gb101, 2, none⟩ = some (.string a0_2) ∧ w'.cell? ⟨gb101, 3, none⟩ = some (.slice A0_3 l0_3.length c0_3) ∧ w'.cell? ⟨gb101, 4, none⟩ = some (.slice A0_4 l0_4.length c0_4)) (ds := []) #[false, false, false, false, false, false, false, false, false, false, false, false, false, false] (by kernel_rfl) rfl rfl ⟨(blk_cell BK101.out 0).trans rfl, (blk_cell BK101.out 1).trans rfl, (blk_cell BK101.out 2).trans rfl, (blk_cell BK101.out 3).trans rfl, (blk_cell BK101.out 4).trans rfl⟩ (fun hHeld => ?_); refine with_tabW spec_l5CopyItem.tab1 spec_l5CopyItem.bits1 (fun HT_ HW_ => ?_)
 generalize w5.drew = w6 at BK101 BK102 HB hHeld ⊢
 refine pu 0 3 ?_
 refine pu 2 5 ?_
 refine pu 5 8 ?_
 refine pu 9 12 ?_
 refine ta 1 4 ?_
 refine ta 3 6 ?_
 refine ta 6 9 ?_
 refine ta 10 13 ?_
 refine join_ (σ := Value × Value × Value) 3 #[true, true, true, true, true, true, true, true, true, true, true, false, false, false] (fun s_ => [(7, s_.1), (10, s_.2.1), (11, s_.2.2)]) (fun s_ w' => (w'.cell? ⟨gb101, 0, none⟩ = some (.int .i64 a0_0) ∧ w'.cell? ⟨gb101, 1, none⟩ = some (.string a0_1) ∧ w'.cell? ⟨gb101, 2, none⟩ = some (.string a0_2) ∧ w'.cell? ⟨gb101, 3, none⟩ = some (.slice A0_3 l0_3.length c0_3) ∧ w'.cell? ⟨gb101, 4, none⟩ = some (.slice A0_4 l0_4.length c0_4)) ∧ (Kd.R k143 143 w' w.heap.size (fun _ => True) s_.2.1 y106) ∧ (Kd.R Kd.string 9 w' w.heap.size (fun _ => True) s_.2.2 y109) ∧ (w'.heap[gb101]? = some (.cells #[.int .i64 a0_0, .string a0_1, .string a0_2, .slice A0_3 l0_3.length c0_3, .slice A0_4 l0_4.length c0_4] 117 (0, 0))) ∧ (w'.heap[gb102]? = some (.cells #[.int .i64 0, .string (⟨#[]⟩ : ByteArray), .string (⟨#[]⟩ : ByteArray), .slice none 0 0, .slice none 0 0] 117 (0, 0))) ∧ (Below w.heap.size w w')) ?_ ?_
 rotate_left
 ·intro hCont
  refine tw 4 8 (some 7) (some 11) (fun K hK => ?_) (fun K hK => ?_)
  ·skip
   refine rL k143 143 7 Ny103 (fun v104 w7 ho8 hb => ?_)
   have HO105 := lS ho8
   replace BK101 := kS BK101 hb
   replace BK102 := kS BK102 hb
   replace HB := bS hb
   clear hb ho8
   refine kO 7 hK (fun hHeld => ?_)
   clear hK K
   refine tw 7 8 (some 10) (some 11) (fun K hK => ?_) (fun K hK => ?_)
   ·skip
    refine Kd.R_append_rows_step k143 (w0 := w) w.heap.size (by rfl) (.tmp 7) (.tmp 9) 115 143 (.agg #[(.string ⟨#[]⟩), (.string ⟨#[]⟩), (.int .i64 0), (.int .i64 0)]) 48 rfl Tryz.underlying115 info143 rfl z0_ (by omega) v104 y103 l0_3 _ _ _ (fun _ => True) (fun _ => False) rfl rfl ?aO ?aR (fun _ _ h => h) (fun _ h => h.elim) ?aF ?aB ?aS ?aL ?_
    (case aR => exact cB HR0_3)
    (case aB => exact zB)
    (case aF => exact (fun _ _ => trivial))
    (case aO => exact (rO HO105))
    (case aS => exact (bZ))
    (case aL => have := LMc2.out; omega)
    intro v107 w9 ho hb hg hat
    rw [← Ny106.out] at ho
    replace BK101 := bG BK101 HO105 hg
    replace BK102 := bG BK102 HO105 hg
    replace HB := Aside0.mk (hb)
    have HO108 := Aside0.mk (ho)
    clear HO105 ho hb hg hat
    refine kO 10 hK (fun hHeld => ?_)
    clear hK K
    refine on 8 (some 11) (fun K hK => ?_)
    refine rL Kd.string 9 11 Ny109 (fun v110 w10 ho11 hb => ?_)
    replace HO108 := rS HO108 hb
    have HO111 := lS ho11
    replace BK101 := kS BK101 hb
    replace BK102 := kS BK102 hb
    replace HB := bS hb
    clear hb ho11
    refine kO 11 hK (fun hHeld => ?_)
    clear hK K
    exact norm_ (by simp only [putAll, Act.put, List.setIfInBounds_toArray, List.set_cons_zero, List.set_cons_succ]) (hCont (v104, v107, v110) _ ⟨hHeld, (rO HO108), (rO HO111), (kQ BK101), (kQ BK102), zB⟩)
   ·skip
    refine rL Kd.string 9 11 Ny109 (fun v110 w9 ho10 hb => ?_)
    replace HO105 := rS HO105 hb
    have HO111 := lS ho10
    replace BK101 := kS BK101 hb
    replace BK102 := kS BK102 hb
    replace HB := bS hb
    clear hb ho10
    refine kO 11 hK (fun hHeld => ?_)
    clear hK K
    refine on 7 (some 10) (fun K hK => ?_)
    refine Kd.R_append_rows_step k143 (w0 := w) w.heap.size (by rfl) (.tmp 7) (.tmp 9) 115 143 (.agg #[(.string ⟨#[]⟩), (.string ⟨#[]⟩), (.int .i64 0), (.int .i64 0)]) 48 rfl Tryz.underlying115 info143 rfl z0_ (by omega) v104 y103 l0_3 _ _ _ (fun _ => True) (fun _ => False) rfl rfl ?aO ?aR (fun _ _ h => h) (fun _ h => h.elim) ?aF ?aB ?aS ?aL ?_
    (case aR => exact cB HR0_3)
    (case aB => exact zB)
    (case aF => exact (fun _ _ => trivial))
    (case aO => exact (rO HO105))
    (case aS => exact (bZ))
    (case aL => have := LMc2.out; omega)
    intro v107 w11 ho hb hg hat
    rw [← Ny106.out] at ho
    replace BK101 := bG BK101 HO105 hg
    replace BK102 := bG BK102 HO105 hg
    replace HO111 := Aside0.mk (Kd.R_over' (rO HO111) (Kd.R_typed (rO HO105)) z0_ hg)
    replace HB := Aside0.mk (hb)
    have HO108 := Aside0.mk (ho)
    clear HO105 ho hb hg hat
    refine kO 10 hK (fun hHeld => ?_)
    clear hK K
    exact norm_ (by simp only [putAll, Act.put, List.setIfInBounds_toArray, List.set_cons_zero, List.set_cons_succ]) (hCont (v104, v107, v110) _ ⟨hHeld, (rO HO108), (rO HO111), (kQ BK101), (kQ BK102), zB⟩)
  ·skip
   refine rL Kd.string 9 11 Ny109 (fun v110 w7 ho8 hb => ?_)
   have HO111 := lS ho8
   replace BK101 := kS BK101 hb
   replace BK102 := kS BK102 hb
   replace HB := bS hb
   clear hb ho8
   refine kO 11 hK (fun hHeld => ?_)
   clear hK K
   refine on 4 (some 7) (fun K hK => ?_)
   refine rL k143 143 7 Ny103 (fun v104 w9 ho10 hb => ?_)
   replace HO111 := rS HO111 hb
   have HO105 := lS ho10
   replace BK101 := kS BK101 hb
   replace BK102 := kS BK102 hb
   replace HB := bS hb
   clear hb ho10
   refine kO 7 hK (fun hHeld => ?_)
   clear hK K
   refine on 7 (some 10) (fun K hK => ?_)
   refine Kd.R_append_rows_step k143 (w0 := w) w.heap.size (by rfl) (.tmp 7) (.tmp 9) 115 143 (.agg #[(.string ⟨#[]⟩), (.string ⟨#[]⟩), (.int .i64 0), (.int .i64 0)]) 48 rfl Tryz.underlying115 info143 rfl z0_ (by omega) v104 y103 l0_3 _ _ _ (fun _ => True) (fun _ => False) rfl rfl ?aO ?aR (fun _ _ h => h) (fun _ h => h.elim) ?aF ?aB ?aS ?aL ?_
   (case aR => exact cB HR0_3)
   (case aB => exact zB)
   (case aF => exact (fun _ _ => trivial))
   (case aO => exact (rO HO105))
   (case aS => exact (bZ))
   (case aL => have := LMc2.out; omega)
   intro v107 w11 ho hb hg hat
   rw [← Ny106.out] at ho
   replace BK101 := bG BK101 HO105 hg
   replace BK102 := bG BK102 HO105 hg
   replace HO111 := Aside0.mk (Kd.R_over' (rO HO111) (Kd.R_typed (rO HO105)) z0_ hg)
   replace HB := Aside0.mk (hb)
   have HO108 := Aside0.mk (ho)
   clear HO105 ho hb hg hat
   refine kO 10 hK (fun hHeld => ?_)
   clear hK K
   exact norm_ (by simp only [putAll, Act.put, List.setIfInBounds_toArray, List.set_cons_zero, List.set_cons_succ]) (hCont (v104, v107, v110) _ ⟨hHeld, (rO HO108), (rO HO111), (kQ BK101), (kQ BK102), zB⟩)
 rintro ⟨v104, v107, v110⟩ w12 ⟨hS_, h0_, h1_, h2_, h3_, h4_⟩
 have HO108 : Aside0 (Kd.R k143 143 w12 w.heap.size (fun _ => True) v107 y106) := ⟨h0_⟩
 have HO111 : Aside0 (Kd.R Kd.string 9 w12 w.heap.size (fun _ => True) v110 y109) := ⟨h1_⟩
 replace BK101 : Aside0 (w12.heap[gb101]? = some (.cells #[.int .i64 a0_0, .string a0_1, .string a0_2, .slice A0_3 l0_3.length c0_3, .slice A0_4 l0_4.length c0_4] 117 (0, 0))) := ⟨h2_⟩
 replace BK102 : Aside0 (w12.heap[gb102]? = some (.cells #[.int .i64 0, .string (⟨#[]⟩ : ByteArray), .string (⟨#[]⟩ : ByteArray), .slice none 0 0, .slice none 0 0] 117 (0, 0))) := ⟨h3_⟩
 replace HB : Aside0 (Below w.heap.size w w12) := ⟨h4_⟩
 clear h0_ h1_ h2_ h3_ h4_
 have hHeld : w12.cell? ⟨gb101, 0, none⟩ = some (.int .i64 a0_0) ∧ w12.cell? ⟨gb101, 1, none⟩ = some (.string a0_1) ∧ w12.cell? ⟨gb101, 2, none⟩ = some (.string a0_2) ∧ w12.cell? ⟨gb101, 3, none⟩ = some (.slice A0_3 l0_3.length c0_3) ∧ w12.cell? ⟨gb101, 4, none⟩ = some (.slice A0_4 l0_4.length c0_4) := hS_
 refine norm_ (a' := ?_) ?_ ?_
 rotate_left
 ·simp only [putAll, Act.put, List.setIfInBounds_toArray, List.set_cons_zero, List.set_cons_succ]
  rfl
 refine on 11 (some 14) (fun K hK => ?_)
 refine Kd.R_append_rows_step Kd.string (w0 := w) w.heap.size (by rfl) (.tmp 11) (.tmp 13) 25 9 (.string ⟨#[]⟩) 16 rfl Tryz.underlying25 info9 rfl z0_ (by omega) v110 y109 l0_4 _ _ _ (fun _ => True) (fun _ => False) rfl rfl ?aO ?aR (fun _ _ h => h) (fun _ h => h.elim) ?aF ?aB ?aS ?aL ?_
 (case aR => exact cB HR0_4)
 (case aB => exact zB)
 (case aF => exact (fun _ _ => trivial))
 (case aO => exact (rO HO111))
 (case aS => exact (bZ))
 (case aL => have := LMc3.out; omega)
 intro v113 w13 ho hb hg hat
 rw [← Ny112.out] at ho
 replace BK101 := bG BK101 HO111 hg
 replace BK102 := bG BK102 HO111 hg
 replace HO108 := Aside0.mk (Kd.R_over' (rO HO108) (Kd.R_typed (rO HO111)) z0_ hg)
 replace HB := Aside0.mk (hb)
 have HO114 := Aside0.mk (ho)
 clear HO111 ho hb hg hat
 obtain ⟨Ao14, co14, eo14⟩ := Kd.R_slice HO114.out
 (first | subst eo14 | (injection eo14 with f1_ f2_ f3_; have f4_ := f1_.symm; have f5_ := f3_.symm; clear f1_ f2_ f3_; subst f4_; subst f5_))
 obtain ⟨Ao15, co15, eo15⟩ := Kd.R_slice HO108.out
 (first | subst eo15 | (injection eo15 with f1_ f2_ f3_; have f4_ := f1_.symm; have f5_ := f3_.symm; clear f1_ f2_ f3_; subst f4_; subst f5_))
 refine kO 14 hK (fun hHeld => ?_)
 clear hK K
 refine pu 12 15 ?_
 refine on 13 none (fun K hK => ?_)
 have hs_hs16 := cz5 BK102.out
 have hf_hs16 := fz5 BK102.out
 have hn0_hs16 := NB101_102.out
 have hn1_hs16 := NB102_101.out
 refine sk ?_
 refine hK.out _ _ zF (fun hHeld => ?_)
 clear hK K
 refine done_ (done_of HT_.out (by kernel_rfl)) ?_
 try go_wp2
 refine bodyPost_ret (results_cell_row rfl _ _ gb102 117 #[.int .i64 a0_0, .string a0_1, .string a0_2, .slice Ao15 y106.length co15, .slice Ao14 y112.length co14] (0, 0) _ rfl (kQ BK102) Tryz.underlying117 rfl (by kernel_rfl)) rfl ?_
 exact ⟨_, _, zr, fM HO108 BK102 (fun _ hk => trivial), fM HO114 BK102 (fun _ hk => trivial), zB⟩
end Go.Proofs.YtbncnjgflhoneaaGreatDoor.F
