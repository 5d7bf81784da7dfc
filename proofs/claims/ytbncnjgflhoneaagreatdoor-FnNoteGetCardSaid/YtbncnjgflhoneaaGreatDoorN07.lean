/- Of this claim, merged by program: F132. -/
import Derived.Test.YtbncnjgflhoneaaGreatDoorN02
import Derived.Test.YtbncnjgflhoneaaGreatDoorN05
set_option linter.unusedVariables false
set_option linter.unusedSimpArgs false
namespace Go.Proofs.YtbncnjgflhoneaaGreatDoor.F
open Go.RowKit Go.Proofs.YtbncnjgflhoneaaGreatDoor.Hand Go.Proofs.YtbncnjgflhoneaaGreatDoorW.l8 Go.Proofs.YtbncnjgflhoneaaGreatDoorW.s9 Go.Proofs.YtbncnjgflhoneaaGreatDoorW.y9
def I0.f (r0 : Int) (D2 : ByteArray) (R1 : ByteArray) (P8 : List (X1)) (aW2 : List ByteArray) : Option (Int × ByteArray × ByteArray × (List (X1)) × List ByteArray) := (some (([] : List (X1)) : List (X1))).bind fun bI6 => (if bI6.length + P8.length < 2932031007402 then ((some (([] : List ByteArray) : List ByteArray)).bind fun bg9 => (if bg9.length + aW2.length < 8796093022208 then (some (r0, D2, R1, (bI6 ++ P8), (bg9 ++ aW2))) else (none))) else (none))
def I0.T1 : Bool × List (List Nat × List Nat) := (true, [([], []), ([0], [0]), ([], []), ([2], [2]), ([], []), ([], []), ([5], [5]), ([4, 6], [4, 6]), ([], []), ([], []), ([9], [9]), ([8, 10, 7], [8, 10]), ([1, 3, 7, 11], [1, 3, 7, 11]), ([12, 11, 0, 1, 2, 3, 4, 5, 6, 7, 8, 9, 10, 11, 12], [12])])
def I0.B1 : List Nat := [0, 1, 0, 4, 0, 0, 32, 112, 0, 0, 512, 2032, 4095, 8191]
theorem I0.ds4 : aq1 .any (opsOf Tryz.f132 1) = I0.T1 := by kernel_rfl
theorem I0.cF4 : af3 I0.T1.2 I0.B1 = true := by kernel_rfl
set_option maxHeartbeats 8000000 in
set_option maxRecDepth 100000 in
theorem I0.calls (r0 : Int) (D2 : ByteArray) (R1 : ByteArray) (a71 : Option Addr) (a73 : Nat) (P8 : List (X1)) (bQ5 : Option Addr) (bQ6 : Nat) (aW2 : List ByteArray) (r1 : Int) (r2 : ByteArray) (r3 : ByteArray) (r4 : List (X1)) (r5 : List ByteArray) (w : World) (a09 : Kd.C a01 w a71 P8.length P8) (a10 : P8.length ≤ a73) (bq5 : Kd.C Kd.string w bQ5 aW2.length aW2) (bq6 : aW2.length ≤ bQ6) (h : I0.f r0 D2 R1 P8 aW2 = some (r1, r2, r3, r4, r5)) :
  Calls Tryz.prog 132 #[.agg #[.int .i64 r0, .string D2, .string R1, .slice a71 P8.length a73, .slice bQ5 aW2.length bQ6]] w fun e w' => ∃ v3_ v4_ : Value, e = .returned (.agg #[.int .i64 r1, .string r2, .string r3, v3_, v4_]) ∧ Kd.R a01 143 w' w.heap.size (fun _ => True) v3_ r4 ∧ Kd.R Kd.string 9 w' w.heap.size (fun _ => True) v4_ r5 ∧ Below w.heap.size w w' := by
 have cg2 := Tryz.underlying117
 have as2 := Tryz.underlying32
 have ax6 := j4.mk a09
 have aF3 := j4.mk a10
 clear a09 a10
 have dJ7 := j4.mk bq5
 have ep3 := j4.mk bq6
 clear bq5 bq6
 have HB := j4.mk (Below.refl w.heap.size w)
 have H := h
 clear h
 unfold I0.f at H
 first | (with_reducible replace H := bne (([] : List (X1)) : List (X1)) H; obtain ⟨bI6, cG9, H⟩ := H) | (generalize V5 : (([] : List (X1)) : List (X1)) = bI6 at H; have cG9 := j4.mk V5.symm; clear V5)
 replace H := aj5 H; obtain ⟨ds8, H⟩ := H
 first | (with_reducible replace H := bne (bI6 ++ P8 : List (X1)) H; obtain ⟨aU6, b23, H⟩ := H) | (generalize V5 : (bI6 ++ P8 : List (X1)) = aU6 at H; have b23 := j4.mk V5.symm; clear V5)
 first | (with_reducible replace H := bne (([] : List ByteArray) : List ByteArray) H; obtain ⟨bg9, bq7, H⟩ := H) | (generalize V5 : (([] : List ByteArray) : List ByteArray) = bg9 at H; have bq7 := j4.mk V5.symm; clear V5)
 replace H := aj5 H; obtain ⟨ea0, H⟩ := H
 first | (with_reducible replace H := bne (bg9 ++ aW2 : List ByteArray) H; obtain ⟨b42, b73, H⟩ := H) | (generalize V5 : (bg9 ++ aW2 : List ByteArray) = b42 at H; have b73 := j4.mk V5.symm; clear V5)
 simp only [Option.some.injEq, Prod.mk.injEq] at H
 obtain ⟨rfl, rfl, rfl, rfl, rfl⟩ := H
 go_enter Tryz.func132, Tryz.ntmps132
 try go_wp2_with (first | ((with_reducible refine l9 (N := 1) rfl ?_); refine bx (cs := #[.int .i64 r0, .string D2, .string R1, .slice a71 P8.length a73, .slice bQ5 aW2.length bQ6]) (t := 117) ?_; intro j8 hg w4 o8 hb; have j5 := j4.mk (o8); have L8 := gS hg; have J7 := gS hg; replace HB := bS hb; clear hb o8 hg) | ((with_reducible refine l9 (N := 2) rfl ?_); refine bx (cs := #[.int .i64 0, .string ⟨#[]⟩, .string ⟨#[]⟩, .slice none 0 0, .slice none 0 0]) (t := 117) ?_; intro o7 hg w5 o8 hb; have j7 := j4.mk (o8); have as7 := gS hg; have al6 := gS hg; have D1 := nS hg j5; have D3 := nG hg j5; replace j5 := kS j5 hb; replace HB := bS hb; clear hb o8 hg))
 replace j5 := j4.mk (I7 j5.out)
 replace j7 := j4.mk (I7 j7.out)
 replace HB := j4.mk (E9 HB.out)
 refine ah3 (n := 14) (S := fun w' => w'.cell? ⟨j8, 0, none⟩ = some (.int .i64 r0) ∧ w'.cell? ⟨j8, 1, none⟩ = some (.string D2) ∧ w'.cell? ⟨j8, 2, none⟩ = some (.string R1) ∧ w'.cell? ⟨j8, 3, none⟩ = some (.slice a71 P8.length a73) ∧ w'.cell? ⟨j8, 4, none⟩ = some (.slice bQ5 aW2.length bQ6)) (ds := []) #[false, false, false, false, false, false, false, false, false, false, false, false, false, false] z2_ rfl rfl ⟨(l7 j5.out 0).trans rfl, (l7 j5.out 1).trans rfl, (l7 j5.out 2).trans rfl, (l7 j5.out 3).trans rfl, (l7 j5.out 4).trans rfl⟩ (fun hHeld => ?_); refine a60 I0.ds4 I0.cF4 (fun HT_ HW_ => ?_)
 generalize w5.drew = w6 at j5 j7 HB hHeld ⊢
 refine pu 0 3 ?_
 refine pu 2 5 ?_
 refine pu 5 8 ?_
 refine pu 9 12 ?_
 refine ta 1 4 ?_
 refine ta 3 6 ?_
 refine ta 6 9 ?_
 refine ta 10 13 ?_
 refine bN4 (σ := Value × Value × Value) 3 #[true, true, true, true, true, true, true, true, true, true, true, false, false, false] (fun s_ => [(7, s_.1), (10, s_.2.1), (11, s_.2.2)]) (fun s_ w' => (w'.cell? ⟨j8, 0, none⟩ = some (.int .i64 r0) ∧ w'.cell? ⟨j8, 1, none⟩ = some (.string D2) ∧ w'.cell? ⟨j8, 2, none⟩ = some (.string R1) ∧ w'.cell? ⟨j8, 3, none⟩ = some (.slice a71 P8.length a73) ∧ w'.cell? ⟨j8, 4, none⟩ = some (.slice bQ5 aW2.length bQ6)) ∧ (Kd.R a01 143 w' w.heap.size (fun _ => True) s_.2.1 aU6) ∧ (Kd.R Kd.string 9 w' w.heap.size (fun _ => True) s_.2.2 bg9) ∧ (w'.heap[j8]? = some (.cells #[.int .i64 r0, .string D2, .string R1, .slice a71 P8.length a73, .slice bQ5 aW2.length bQ6] 117 (0, 0))) ∧ (w'.heap[o7]? = some (.cells #[.int .i64 0, .string (⟨#[]⟩ : ByteArray), .string (⟨#[]⟩ : ByteArray), .slice none 0 0, .slice none 0 0] 117 (0, 0))) ∧ (Below w.heap.size w w')) ?_ ?_
 rotate_left
 ·intro az5
  refine tw 4 8 (some 7) (some 11) (fun K hK => ?_) (fun K hK => ?_)
  ·skip
   refine rL a01 143 7 cG9 (fun bx2 w7 ho8 hb => ?_)
   have as8 := lS ho8
   replace j5 := kS j5 hb
   replace j7 := kS j7 hb
   replace HB := bS hb
   clear hb ho8
   refine kO 7 hK (fun hHeld => ?_)
   clear hK K
   refine tw 7 8 (some 10) (some 11) (fun K hK => ?_) (fun K hK => ?_)
   ·skip
    refine Kd.O4 a01 (w0 := w) w.heap.size (by rfl) (.tmp 7) (.tmp 9) 115 143 (.agg #[(.string ⟨#[]⟩), (.string ⟨#[]⟩), (.int .i64 0), (.int .i64 0)]) 48 rfl Tryz.underlying115 at1 rfl I1 (by omega) bx2 bI6 P8 _ _ _ (fun _ => True) (fun _ => False) rfl rfl ?aO ?aR (fun _ _ h => h) (fun _ h => h.elim) ?aF ?aB ?aS ?aL ?_
    (case aR => exact cB ax6)
    (case aB => exact zB)
    (case aF => exact (fun _ _ => trivial))
    (case aO => exact (rO as8))
    (case aS => exact (bZ))
    (case aL => have := ds8.out; omega)
    intro v107 w9 ho hb hg hat
    rw [← b23.out] at ho
    replace j5 := bG j5 as8 hg
    replace j7 := bG j7 as8 hg
    replace HB := j4.mk (hb)
    have P7 := j4.mk (ho)
    clear as8 ho hb hg hat
    refine kO 10 hK (fun hHeld => ?_)
    clear hK K
    refine on 8 (some 11) (fun K hK => ?_)
    refine rL Kd.string 9 11 bq7 (fun bb7 w10 cu0 hb => ?_)
    replace P7 := rS P7 hb
    have O9 := lS cu0
    replace j5 := kS j5 hb
    replace j7 := kS j7 hb
    replace HB := bS hb
    clear hb cu0
    refine kO 11 hK (fun hHeld => ?_)
    clear hK K
    exact aw9 (by simp only [ae5, Act.put, List.setIfInBounds_toArray, List.set_cons_zero, List.set_cons_succ]) (az5 (bx2, v107, bb7) _ ⟨hHeld, (rO P7), (rO O9), (kQ j5), (kQ j7), zB⟩)
   ·skip
    refine rL Kd.string 9 11 bq7 (fun bb7 w9 aA6 hb => ?_)
    replace as8 := rS as8 hb
    have O9 := lS aA6
    replace j5 := kS j5 hb
    replace j7 := kS j7 hb
    replace HB := bS hb
    clear hb aA6
    refine kO 11 hK (fun hHeld => ?_)
    clear hK K
    refine on 7 (some 10) (fun K hK => ?_)
    refine Kd.O4 a01 (w0 := w) w.heap.size (by rfl) (.tmp 7) (.tmp 9) 115 143 (.agg #[(.string ⟨#[]⟩), (.string ⟨#[]⟩), (.int .i64 0), (.int .i64 0)]) 48 rfl Tryz.underlying115 at1 rfl I1 (by omega) bx2 bI6 P8 _ _ _ (fun _ => True) (fun _ => False) rfl rfl ?aO ?aR (fun _ _ h => h) (fun _ h => h.elim) ?aF ?aB ?aS ?aL ?_
    (case aR => exact cB ax6)
    (case aB => exact zB)
    (case aF => exact (fun _ _ => trivial))
    (case aO => exact (rO as8))
    (case aS => exact (bZ))
    (case aL => have := ds8.out; omega)
    intro v107 w11 ho hb hg hat
    rw [← b23.out] at ho
    replace j5 := bG j5 as8 hg
    replace j7 := bG j7 as8 hg
    replace O9 := j4.mk (Kd.X4 (rO O9) (Kd.a44 (rO as8)) I1 hg)
    replace HB := j4.mk (hb)
    have P7 := j4.mk (ho)
    clear as8 ho hb hg hat
    refine kO 10 hK (fun hHeld => ?_)
    clear hK K
    exact aw9 (by simp only [ae5, Act.put, List.setIfInBounds_toArray, List.set_cons_zero, List.set_cons_succ]) (az5 (bx2, v107, bb7) _ ⟨hHeld, (rO P7), (rO O9), (kQ j5), (kQ j7), zB⟩)
  ·skip
   refine rL Kd.string 9 11 bq7 (fun bb7 w7 ho8 hb => ?_)
   have O9 := lS ho8
   replace j5 := kS j5 hb
   replace j7 := kS j7 hb
   replace HB := bS hb
   clear hb ho8
   refine kO 11 hK (fun hHeld => ?_)
   clear hK K
   refine on 4 (some 7) (fun K hK => ?_)
   refine rL a01 143 7 cG9 (fun bx2 w9 aA6 hb => ?_)
   replace O9 := rS O9 hb
   have as8 := lS aA6
   replace j5 := kS j5 hb
   replace j7 := kS j7 hb
   replace HB := bS hb
   clear hb aA6
   refine kO 7 hK (fun hHeld => ?_)
   clear hK K
   refine on 7 (some 10) (fun K hK => ?_)
   refine Kd.O4 a01 (w0 := w) w.heap.size (by rfl) (.tmp 7) (.tmp 9) 115 143 (.agg #[(.string ⟨#[]⟩), (.string ⟨#[]⟩), (.int .i64 0), (.int .i64 0)]) 48 rfl Tryz.underlying115 at1 rfl I1 (by omega) bx2 bI6 P8 _ _ _ (fun _ => True) (fun _ => False) rfl rfl ?aO ?aR (fun _ _ h => h) (fun _ h => h.elim) ?aF ?aB ?aS ?aL ?_
   (case aR => exact cB ax6)
   (case aB => exact zB)
   (case aF => exact (fun _ _ => trivial))
   (case aO => exact (rO as8))
   (case aS => exact (bZ))
   (case aL => have := ds8.out; omega)
   intro v107 w11 ho hb hg hat
   rw [← b23.out] at ho
   replace j5 := bG j5 as8 hg
   replace j7 := bG j7 as8 hg
   replace O9 := j4.mk (Kd.X4 (rO O9) (Kd.a44 (rO as8)) I1 hg)
   replace HB := j4.mk (hb)
   have P7 := j4.mk (ho)
   clear as8 ho hb hg hat
   refine kO 10 hK (fun hHeld => ?_)
   clear hK K
   exact aw9 (by simp only [ae5, Act.put, List.setIfInBounds_toArray, List.set_cons_zero, List.set_cons_succ]) (az5 (bx2, v107, bb7) _ ⟨hHeld, (rO P7), (rO O9), (kQ j5), (kQ j7), zB⟩)
 rintro ⟨bx2, v107, bb7⟩ w12 ⟨hS_, h0_, h1_, h2_, h3_, h4_⟩
 have P7 : j4 (Kd.R a01 143 w12 w.heap.size (fun _ => True) v107 aU6) := ⟨h0_⟩
 have O9 : j4 (Kd.R Kd.string 9 w12 w.heap.size (fun _ => True) bb7 bg9) := ⟨h1_⟩
 replace j5 : j4 (w12.heap[j8]? = some (.cells #[.int .i64 r0, .string D2, .string R1, .slice a71 P8.length a73, .slice bQ5 aW2.length bQ6] 117 (0, 0))) := ⟨h2_⟩
 replace j7 : j4 (w12.heap[o7]? = some (.cells #[.int .i64 0, .string (⟨#[]⟩ : ByteArray), .string (⟨#[]⟩ : ByteArray), .slice none 0 0, .slice none 0 0] 117 (0, 0))) := ⟨h3_⟩
 replace HB : j4 (Below w.heap.size w w12) := ⟨h4_⟩
 clear h0_ h1_ h2_ h3_ h4_
 have hHeld : w12.cell? ⟨j8, 0, none⟩ = some (.int .i64 r0) ∧ w12.cell? ⟨j8, 1, none⟩ = some (.string D2) ∧ w12.cell? ⟨j8, 2, none⟩ = some (.string R1) ∧ w12.cell? ⟨j8, 3, none⟩ = some (.slice a71 P8.length a73) ∧ w12.cell? ⟨j8, 4, none⟩ = some (.slice bQ5 aW2.length bQ6) := hS_
 refine aw9 (a' := ?_) ?_ ?_
 rotate_left
 ·simp only [ae5, Act.put, List.setIfInBounds_toArray, List.set_cons_zero, List.set_cons_succ]
  rfl
 refine on 11 (some 14) (fun K hK => ?_)
 refine Kd.O4 Kd.string (w0 := w) w.heap.size (by rfl) (.tmp 11) (.tmp 13) 25 9 (.string ⟨#[]⟩) 16 rfl Tryz.underlying25 aF0 rfl I1 (by omega) bb7 bg9 aW2 _ _ _ (fun _ => True) (fun _ => False) rfl rfl ?aO ?aR (fun _ _ h => h) (fun _ h => h.elim) ?aF ?aB ?aS ?aL ?_
 (case aR => exact cB dJ7)
 (case aB => exact zB)
 (case aF => exact (fun _ _ => trivial))
 (case aO => exact (rO O9))
 (case aS => exact (bZ))
 (case aL => have := ea0.out; omega)
 intro cu2 w13 ho hb hg hat
 rw [← b73.out] at ho
 replace j5 := bG j5 O9 hg
 replace j7 := bG j7 O9 hg
 replace P7 := j4.mk (Kd.X4 (rO P7) (Kd.a44 (rO O9)) I1 hg)
 replace HB := j4.mk (hb)
 have R2 := j4.mk (ho)
 clear O9 ho hb hg hat
 obtain ⟨aU2, aU3, bO6⟩ := Kd.s7 R2.out
 (first | subst bO6 | (injection bO6 with f1_ f2_ f3_; have f4_ := f1_.symm; have f5_ := f3_.symm; clear f1_ f2_ f3_; subst f4_; subst f5_))
 obtain ⟨ao4, am3, c03⟩ := Kd.s7 P7.out
 (first | subst c03 | (injection c03 with f1_ f2_ f3_; have f4_ := f1_.symm; have f5_ := f3_.symm; clear f1_ f2_ f3_; subst f4_; subst f5_))
 refine kO 14 hK (fun hHeld => ?_)
 clear hK K
 refine pu 12 15 ?_
 refine on 13 none (fun K hK => ?_)
 have cW2 := cz5 j7.out
 have cW3 := fz5 j7.out
 have cF8 := D1.out
 have cF9 := D3.out
 refine sk ?_
 refine hK.out _ _ zF (fun hHeld => ?_)
 clear hK K
 refine au9 (ah0 HT_.out z2_) ?_
 try go_wp2
 refine bodyPost_ret (results_cell_row rfl _ _ o7 117 #[.int .i64 r0, .string D2, .string R1, .slice ao4 aU6.length am3, .slice aU2 b42.length aU3] (0, 0) _ rfl (kQ j7) Tryz.underlying117 rfl z2_) rfl ?_
 exact ⟨_, _, zr, fM P7 j7 (fun _ hk => trivial), fM R2 j7 (fun _ hk => trivial), zB⟩
end Go.Proofs.YtbncnjgflhoneaaGreatDoor.F
