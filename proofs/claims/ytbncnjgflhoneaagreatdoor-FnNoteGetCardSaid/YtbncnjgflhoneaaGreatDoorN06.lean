/- Of this claim, merged by program: F95. -/
import Derived.Test.YtbncnjgflhoneaaGreatDoorN02
import Derived.Test.YtbncnjgflhoneaaGreatDoorN05
set_option linter.unusedVariables false
set_option linter.unusedSimpArgs false
namespace Go.Proofs.YtbncnjgflhoneaaGreatDoor.F
open Go.RowKit Go.Proofs.YtbncnjgflhoneaaGreatDoor.Hand Go.Proofs.YtbncnjgflhoneaaGreatDoorW.l8 Go.Proofs.YtbncnjgflhoneaaGreatDoorW.s9 Go.Proofs.YtbncnjgflhoneaaGreatDoorW.y9
def F2.l0 : Nat → Int → Int → Int → List (G9) → ByteArray → ByteArray → List (G6) → List ByteArray → Int → ByteArray → ByteArray → List (X1) → List ByteArray → Option (Int × (List (G9)))
 | 0, _, _, _, _, _, _, _, _, _, _, _, _, _ => none
 | k + 1, x2, x8, a14, X5, af9, a82, at3, aG3, cf8, cf9, cg0, bI2, cg1 => if x8 < (at3.length : Int) then (if 0 ≤ x8 then ((some (([(⟨(⟨(E6 at3 x8).f0, (E6 at3 x8).f1⟩ : G6), 0, x2⟩ : X1)] : List (X1)) : List (X1))).bind fun b42 => (if bI2.length + b42.length < 2932031007402 then (F2.l0 k x2 (wrap64 (x8 + 1)) a14 X5 af9 a82 at3 aG3 cf8 cf9 cg0 (bI2 ++ b42) cg1) else (none))) else (none)) else ((some (([] : List (G9)) : List (G9))).bind fun aV8 => (if aV8.length + X5.length < 1599289640401 then ((some (aV8 ++ X5 : List (G9))).bind fun ag9 => ((some (([(⟨cf8, (⟨cf9, cg0⟩ : G6), bI2, cg1⟩ : G9)] : List (G9)) : List (G9))).bind fun aV6 => (if ag9.length + aV6.length < 1599289640401 then (some (wrap64 (a14 + 1), (ag9 ++ aV6))) else (none)))) else (none)))
def F2.f (k : Nat) (r0 : Int) (C8 : List (G9)) (R8 : ByteArray) (Y1 : ByteArray) (ad4 : List (G6)) (am2 : List ByteArray) (a2 : Int) : Option (Int × (List (G9))) := (some (([] : List ByteArray) : List ByteArray)).bind fun aU4 => (if aU4.length + am2.length < 8796093022208 then (F2.l0 k a2 0 r0 C8 R8 Y1 ad4 am2 (wrap64 (r0 + 1)) R8 Y1 ([] : List (X1)) (aU4 ++ am2)) else (none))
def F2.T1 : Bool × List (List Nat × List Nat) := (true, [([], []), ([0], [0]), ([1], [1]), ([], []), ([3], [3]), ([], []), ([], []), ([6], [6]), ([5, 7], [5, 7]), ([2, 4, 8], [2, 4, 8]), ([], []), ([10, 9, 8, 0, 1, 2, 3, 4, 5, 6, 7, 8, 9, 10], [9, 10])])
def F2.B1 : List Nat := [0, 1, 3, 0, 8, 0, 0, 64, 224, 511, 0, 2047]
theorem F2.ds4 : aq1 .any (opsOf Tryz.f95 1) = F2.T1 := by kernel_rfl
theorem F2.cF4 : af3 F2.T1.2 F2.B1 = true := by kernel_rfl
def F2.T5 : Bool × List (List Nat × List Nat) := (true, [([], []), ([0], [0]), ([], []), ([2], [2]), ([], []), ([3, 4], [3, 4]), ([5], [5]), ([], []), ([6, 7], [6, 7]), ([8], [8]), ([1, 9], [1, 9]), ([0, 1, 2, 3, 4, 5, 6, 7, 8, 9, 10], []), ([11, 10, 10, 0, 1, 2, 3, 4, 5, 6, 7, 8, 9, 10], [10, 11])])
def F2.B5 : List Nat := [0, 1, 0, 4, 0, 28, 60, 0, 252, 508, 1023, 2047, 4095]
theorem F2.c00 : aq1 .any (opsOf Tryz.f95 5) = F2.T5 := by kernel_rfl
theorem F2.bp9 : af3 F2.T5.2 F2.B5 = true := by kernel_rfl
def F2.T7 : Bool × List (List Nat × List Nat) := (true, [([], []), ([], []), ([1], [1]), ([0, 2], [0, 2]), ([], []), ([4], [4]), ([3, 5, 3], [3, 5]), ([0, 1, 2, 3, 4, 5, 6], []), ([7, 6, 6, 0, 1, 2, 3, 4, 5, 6], [6, 7])])
def F2.B7 : List Nat := [0, 0, 2, 7, 0, 16, 63, 127, 255]
theorem F2.ds5 : aq1 .any (opsOf Tryz.f95 7) = F2.T7 := by kernel_rfl
theorem F2.cF5 : af3 F2.T7.2 F2.B7 = true := by kernel_rfl
set_option maxHeartbeats 8000000 in
set_option maxRecDepth 100000 in
theorem F2.calls (k : Nat) (r0 : Int) (z6 : Nat → Prop) (ae2 : Option Addr) (W4 : Nat) (C8 : List (G9)) (R8 : ByteArray) (Y1 : ByteArray) (aU5 : Option Addr) (aR2 : Nat) (ad4 : List (G6)) (aR3 : Option Addr) (aR4 : Nat) (am2 : List ByteArray) (a2 : Int) (r1 : Int) (r2 : List (G9)) (w : World) (bq0 : Kd.V U7 117 w w.heap.size (fun k_ => z6 k_) (.slice ae2 C8.length W4) C8) (bA5 : Kd.C k32 w aU5 ad4.length ad4) (bA6 : ad4.length ≤ aR2) (bA7 : Kd.C Kd.string w aR3 am2.length am2) (bA8 : am2.length ≤ aR4) (h : F2.f k r0 C8 R8 Y1 ad4 am2 a2 = some (r1, r2)) :
  Calls Tryz.prog 95 #[.agg #[.int .i64 r0, .slice ae2 C8.length W4], .agg #[.string R8, .string Y1, .slice aU5 ad4.length aR2, .slice aR3 am2.length aR4], .int .i64 a2] w fun e w' => ∃ v1_ : Value, e = .returned (.agg #[.int .i64 r1, v1_]) ∧ Kd.N U7 117 w' w.heap.size (fun k_ => (z6 k_ ∨ w.heap.size ≤ k_)) v1_ r2 ∧ Below w.heap.size w w' := by
 have bZ9 := Tryz.underlying80
 have aV0 := Tryz.underlying35
 have as2 := Tryz.underlying32
 have cg2 := Tryz.underlying117
 have ep0 := Tryz.underlying143
 have C0 := j4.mk (show Kd.V U7 117 w w.heap.size (fun k_ => (z6 k_ ∨ w.heap.size ≤ k_)) (.slice ae2 C8.length W4) C8 from Kd.J8 bq0 (fun k_ hk => .inl hk))
 have cg3 := j4.mk bA5
 have cF6 := j4.mk bA6
 clear bA5 bA6
 have bP6 := j4.mk bA7
 have df3 := j4.mk bA8
 clear bA7 bA8
 have HB := j4.mk (Below.refl w.heap.size w)
 have H := h
 clear h
 unfold F2.f at H
 first | (with_reducible replace H := bne (([] : List ByteArray) : List ByteArray) H; obtain ⟨aU4, aL4, H⟩ := H) | (generalize V5 : (([] : List ByteArray) : List ByteArray) = aU4 at H; have aL4 := j4.mk V5.symm; clear V5)
 replace H := aj5 H; obtain ⟨cF7, H⟩ := H
 first | (with_reducible replace H := bne (aU4 ++ am2 : List ByteArray) H; obtain ⟨aa4, bq1, H⟩ := H) | (generalize V5 : (aU4 ++ am2 : List ByteArray) = aa4 at H; have bq1 := j4.mk V5.symm; clear V5)
 have H' := j4.mk H
 clear H
 go_enter Tryz.func95, Tryz.ntmps95
 try go_wp2_with (first | ((with_reducible refine l9 (N := 3) rfl ?_); refine bx (cs := #[.int .i64 r0, .slice ae2 C8.length W4]) (t := 80) ?_; intro j8 hg w5 o8 hb; replace C0 := vE hg C0 hb; have j5 := j4.mk (o8); have L8 := gS hg; have J7 := gS hg; replace HB := bS hb; clear hb o8 hg) | ((with_reducible refine l9 (N := 4) rfl ?_); refine bx (cs := #[.string R8, .string Y1, .slice aU5 ad4.length aR2, .slice aR3 am2.length aR4]) (t := 35) ?_; intro o7 hg w6 o8 hb; replace C0 := vE hg C0 hb; have j7 := j4.mk (o8); have as7 := gS hg; have al6 := gS hg; have D1 := nS hg j5; have D3 := nG hg j5; replace j5 := kS j5 hb; replace HB := bS hb; clear hb o8 hg) | ((with_reducible refine l9 (N := 6) rfl ?_); refine bx (cs := #[.int .i64 0, .slice none 0 0]) (t := 80) ?_; intro K6 hg w7 o8 hb; replace C0 := vE hg C0 hb; have E7 := j4.mk (o8); have cD3 := gS hg; have cD4 := gS hg; have aA9 := nS hg j5; have aB0 := nG hg j5; replace j5 := kS j5 hb; have aI0 := nS hg j7; have aI1 := nG hg j7; replace j7 := kS j7 hb; replace HB := bS hb; clear hb o8 hg))
 replace C0 := j4.mk (Kd.aA2 C0.out)
 replace j5 := j4.mk (I7 j5.out)
 replace j7 := j4.mk (I7 j7.out)
 replace E7 := j4.mk (I7 E7.out)
 replace HB := j4.mk (E9 HB.out)
 refine ah3 (n := 12) (S := fun w' => w'.cell? ⟨j8, 0, none⟩ = some (.int .i64 r0) ∧ w'.cell? ⟨j8, 1, none⟩ = some (.slice ae2 C8.length W4) ∧ w'.cell? ⟨o7, 0, none⟩ = some (.string R8) ∧ w'.cell? ⟨o7, 1, none⟩ = some (.string Y1) ∧ w'.cell? ⟨o7, 2, none⟩ = some (.slice aU5 ad4.length aR2) ∧ w'.cell? ⟨o7, 3, none⟩ = some (.slice aR3 am2.length aR4)) (ds := []) #[false, false, false, false, false, false, false, false, false, false, false, false] z2_ rfl rfl ⟨(l7 j5.out 0).trans rfl, (l7 j5.out 1).trans rfl, (l7 j7.out 0).trans rfl, (l7 j7.out 1).trans rfl, (l7 j7.out 2).trans rfl, (l7 j7.out 3).trans rfl⟩ (fun hHeld => ?_); refine a60 F2.ds4 F2.cF4 (fun HT_ HW_ => ?_)
 generalize w7.drew = w8 at C0 j5 j7 E7 HB hHeld ⊢
 refine pu 0 9 ?_
 refine pu 3 12 ?_
 refine pu 6 15 ?_
 refine ta 1 10 ?_
 refine pu 2 11 ?_
 refine ta 4 13 ?_
 refine ta 7 16 ?_
 refine bN4 (σ := Value × Value × Nat) 1 #[true, true, true, true, true, true, true, true, true, true, true, false] (fun s_ => [(14, s_.1), (17, s_.2.1), (7, .pointer (some ⟨s_.2.2, 0, none⟩)), (18, .agg #[.int .i64 (wrap64 (r0 + 1)), .string R8, .string Y1, .slice none 0 0, s_.2.1])]) (fun s_ w' => (w'.cell? ⟨j8, 0, none⟩ = some (.int .i64 r0) ∧ w'.cell? ⟨j8, 1, none⟩ = some (.slice ae2 C8.length W4) ∧ w'.cell? ⟨o7, 0, none⟩ = some (.string R8) ∧ w'.cell? ⟨o7, 1, none⟩ = some (.string Y1) ∧ w'.cell? ⟨o7, 2, none⟩ = some (.slice aU5 ad4.length aR2) ∧ w'.cell? ⟨o7, 3, none⟩ = some (.slice aR3 am2.length aR4)) ∧ (Kd.V U7 117 w' w.heap.size (fun k_ => (z6 k_ ∨ w.heap.size ≤ k_) ∧ some k_ ≠ (s_.2.1 : Value).ownBlock ∧ k_ ≠ j8 ∧ k_ ≠ o7 ∧ k_ ≠ K6 ∧ k_ ≠ s_.2.2) (.slice ae2 C8.length W4) C8) ∧ (Kd.R Kd.string 9 w' w.heap.size (fun k_ => (w.heap.size ≤ k_)) s_.2.1 aa4) ∧ (w'.heap[j8]? = some (.cells #[.int .i64 r0, .slice ae2 C8.length W4] 80 (0, 0))) ∧ (w'.heap[o7]? = some (.cells #[.string R8, .string Y1, .slice aU5 ad4.length aR2, .slice aR3 am2.length aR4] 35 (0, 0))) ∧ (w'.heap[K6]? = some (.cells #[.int .i64 0, .slice none 0 0] 80 (0, 0))) ∧ (w'.heap[s_.2.2]? = some (.cells #[.int .i64 0, .string (⟨#[]⟩ : ByteArray), .string (⟨#[]⟩ : ByteArray), .slice none 0 0, .slice none 0 0] 117 (0, 0))) ∧ (w.heap.size ≤ s_.2.2) ∧ (w.heap.size ≤ s_.2.2) ∧ (j8 ≠ s_.2.2) ∧ (s_.2.2 ≠ j8) ∧ (o7 ≠ s_.2.2) ∧ (s_.2.2 ≠ o7) ∧ (K6 ≠ s_.2.2) ∧ (s_.2.2 ≠ K6) ∧ (Below w.heap.size w w')) ?_ ?_
 rotate_left
 ·intro az5
  refine tw 5 10 (some 14) (some 7) (fun K hK => ?_) (fun K hK => ?_)
  ·skip
   refine rL Kd.string 9 14 aL4 (fun v105 w9 aA6 hb => ?_)
   replace C0 := j4.mk (Kd.P3 (vO C0) (Kd.J6 aA6) hb)
   have N0 := j4.mk (Kd.T9 (Kd.ao7 (M := fun k_ => (w.heap.size ≤ k_)) aA6 (bZ) (fun k_ h_ => h_)) (bZ))
   replace j5 := kS j5 hb
   replace j7 := kS j7 hb
   replace E7 := kS E7 hb
   replace HB := bS hb
   clear hb aA6
   refine kO 14 hK (fun hHeld => ?_)
   clear hK K
   refine tw 8 10 (some 17) (some 7) (fun K hK => ?_) (fun K hK => ?_)
   ·skip
    refine Kd.O4 Kd.string (w0 := w) w.heap.size (by rfl) (.tmp 14) (.tmp 16) 25 9 (.string ⟨#[]⟩) 16 rfl Tryz.underlying25 aF0 rfl I1 (by omega) v105 aU4 am2 _ _ _ (fun k_ => (w.heap.size ≤ k_)) (fun _ => False) rfl rfl ?aO ?aR (fun _ _ h => h) (fun _ h => h.elim) ?aF ?aB ?aS ?aL ?_
    (case aR => exact cB bP6)
    (case aB => exact zB)
    (case aF => exact (fun k_ hk => (Nat.le_trans (bZ) hk)))
    (case aO => exact (by (with_reducible repeat (first | apply Kd.N9 | apply Kd.M8 | apply Kd.O0)); exact Kd.E0 N0.out (fun _ hk => hk.1)))
    (case aS => exact (bZ))
    (case aL => have := cF7.out; omega)
    intro aV9 w11 ho hb hg hat
    rw [← bq1.out] at ho
    replace C0 := j4.mk (Kd.D5 (ok := (fun k_ => (z6 k_ ∨ w.heap.size ≤ k_) ∧ k_ ≠ j8 ∧ k_ ≠ o7 ∧ k_ ≠ K6)) (fV C0) hg hat)
    replace j5 := bG j5 N0 hg
    replace j7 := bG j7 N0 hg
    replace E7 := bG E7 N0 hg
    replace HB := j4.mk (hb)
    have y8 := j4.mk (ho)
    clear N0 ho hb hg hat
    obtain ⟨bb6, b72, bx0⟩ := Kd.s7 y8.out
    (first | subst bx0 | (injection bx0 with f1_ f2_ f3_; have f4_ := f1_.symm; have f5_ := f3_.symm; clear f1_ f2_ f3_; subst f4_; subst f5_))
    refine kO 17 hK (fun hHeld => ?_)
    clear hK K
    refine pu 9 18 ?_
    refine on 10 (some 7) (fun K hK => ?_)
    refine aJ1 ?hg (N := 7) ?hd (cs := #[.int .i64 0, .string (⟨#[]⟩ : ByteArray), .string (⟨#[]⟩ : ByteArray), .slice none 0 0, .slice none 0 0]) (t := 117) ?hr ?_; (case hd => rfl); (case hg => rfl); (case hr => first | (go_simp; done) | (go_simp; rfl))
    intro F9 hg w13 o8 hb
    replace C0 := vE hg C0 hb
    replace y8 := rS y8 hb
    have F7 := j4.mk (o8)
    have aW0 := gS hg
    have aW1 := gS hg
    replace HB := bS hb
    have af2 := nS hg j5
    have ah7 := nG hg j5
    replace j5 := kS j5 hb
    have ah8 := nS hg j7
    have ah9 := nG hg j7
    replace j7 := kS j7 hb
    have aq6 := nS hg E7
    have aq7 := nG hg E7
    replace E7 := kS E7 hb
    clear hb o8 hg
    refine kO 7 hK (fun hHeld => ?_)
    clear hK K
    exact aw9 (by simp only [ae5, Act.put, List.setIfInBounds_toArray, List.set_cons_zero, List.set_cons_succ]) (az5 (v105, .slice bb6 aa4.length b72, F9) _ ⟨hHeld, (fV C0), (rO y8), (kQ j5), (kQ j7), (kQ E7), (kQ F7), aW0.out, aW1.out, af2.out, ah7.out, ah8.out, ah9.out, aq6.out, aq7.out, zB⟩)
   ·skip
    refine aJ1 ?hg (N := 7) ?hd (cs := #[.int .i64 0, .string (⟨#[]⟩ : ByteArray), .string (⟨#[]⟩ : ByteArray), .slice none 0 0, .slice none 0 0]) (t := 117) ?hr ?_; (case hd => rfl); (case hg => rfl); (case hr => first | (go_simp; done) | (go_simp; rfl))
    intro F9 hg w11 o8 hb
    replace C0 := vE hg C0 hb
    replace N0 := rS N0 hb
    have F7 := j4.mk (o8)
    have aW0 := gS hg
    have aW1 := gS hg
    replace HB := bS hb
    have af2 := nS hg j5
    have ah7 := nG hg j5
    replace j5 := kS j5 hb
    have ah8 := nS hg j7
    have ah9 := nG hg j7
    replace j7 := kS j7 hb
    have aq6 := nS hg E7
    have aq7 := nG hg E7
    replace E7 := kS E7 hb
    clear hb o8 hg
    refine kO 7 hK (fun hHeld => ?_)
    clear hK K
    refine on 8 (some 17) (fun K hK => ?_)
    refine Kd.O4 Kd.string (w0 := w) w.heap.size (by rfl) (.tmp 14) (.tmp 16) 25 9 (.string ⟨#[]⟩) 16 rfl Tryz.underlying25 aF0 rfl I1 (by omega) v105 aU4 am2 _ _ _ (fun k_ => (w.heap.size ≤ k_)) (fun _ => False) rfl rfl ?aO ?aR (fun _ _ h => h) (fun _ h => h.elim) ?aF ?aB ?aS ?aL ?_
    (case aR => exact cB bP6)
    (case aB => exact zB)
    (case aF => exact (fun k_ hk => (Nat.le_trans (bZ) hk)))
    (case aO => exact (by (with_reducible repeat (first | apply Kd.N9 | apply Kd.M8 | apply Kd.O0)); exact Kd.E0 N0.out (fun _ hk => hk.1)))
    (case aS => exact (bZ))
    (case aL => have := cF7.out; omega)
    intro aV9 w12 ho hb hg hat
    rw [← bq1.out] at ho
    replace C0 := j4.mk (Kd.D5 (ok := (fun k_ => (z6 k_ ∨ w.heap.size ≤ k_) ∧ k_ ≠ j8 ∧ k_ ≠ o7 ∧ k_ ≠ K6 ∧ k_ ≠ F9)) (fV C0) hg hat)
    replace j5 := bG j5 N0 hg
    replace j7 := bG j7 N0 hg
    replace E7 := bG E7 N0 hg
    replace F7 := bG F7 N0 hg
    replace HB := j4.mk (hb)
    have y8 := j4.mk (ho)
    clear N0 ho hb hg hat
    obtain ⟨c01, c02, bI3⟩ := Kd.s7 y8.out
    (first | subst bI3 | (injection bI3 with f1_ f2_ f3_; have f4_ := f1_.symm; have f5_ := f3_.symm; clear f1_ f2_ f3_; subst f4_; subst f5_))
    refine kO 17 hK (fun hHeld => ?_)
    clear hK K
    refine pu 9 18 ?_
    exact aw9 (by simp only [ae5, Act.put, List.setIfInBounds_toArray, List.set_cons_zero, List.set_cons_succ]) (az5 (v105, .slice c01 aa4.length c02, F9) _ ⟨hHeld, (fV C0), (rO y8), (kQ j5), (kQ j7), (kQ E7), (kQ F7), aW0.out, aW1.out, af2.out, ah7.out, ah8.out, ah9.out, aq6.out, aq7.out, zB⟩)
  ·skip
   refine aJ1 ?hg (N := 7) ?hd (cs := #[.int .i64 0, .string (⟨#[]⟩ : ByteArray), .string (⟨#[]⟩ : ByteArray), .slice none 0 0, .slice none 0 0]) (t := 117) ?hr ?_; (case hd => rfl); (case hg => rfl); (case hr => first | (go_simp; done) | (go_simp; rfl))
   intro F9 hg w9 o8 hb
   replace C0 := vE hg C0 hb
   have F7 := j4.mk (o8)
   have aW0 := gS hg
   have aW1 := gS hg
   replace HB := bS hb
   have af2 := nS hg j5
   have ah7 := nG hg j5
   replace j5 := kS j5 hb
   have ah8 := nS hg j7
   have ah9 := nG hg j7
   replace j7 := kS j7 hb
   have aq6 := nS hg E7
   have aq7 := nG hg E7
   replace E7 := kS E7 hb
   clear hb o8 hg
   refine kO 7 hK (fun hHeld => ?_)
   clear hK K
   refine on 5 (some 14) (fun K hK => ?_)
   refine rL Kd.string 9 14 aL4 (fun v105 w10 cu0 hb => ?_)
   replace C0 := j4.mk (Kd.P3 (vO C0) (Kd.J6 cu0) hb)
   have N0 := j4.mk (Kd.T9 (Kd.ao7 (M := fun k_ => (w.heap.size ≤ k_)) cu0 (bZ) (fun k_ h_ => h_)) (bZ))
   replace j5 := kS j5 hb
   replace j7 := kS j7 hb
   replace E7 := kS E7 hb
   replace F7 := kS F7 hb
   replace HB := bS hb
   clear hb cu0
   refine kO 14 hK (fun hHeld => ?_)
   clear hK K
   refine on 8 (some 17) (fun K hK => ?_)
   refine Kd.O4 Kd.string (w0 := w) w.heap.size (by rfl) (.tmp 14) (.tmp 16) 25 9 (.string ⟨#[]⟩) 16 rfl Tryz.underlying25 aF0 rfl I1 (by omega) v105 aU4 am2 _ _ _ (fun k_ => (w.heap.size ≤ k_)) (fun _ => False) rfl rfl ?aO ?aR (fun _ _ h => h) (fun _ h => h.elim) ?aF ?aB ?aS ?aL ?_
   (case aR => exact cB bP6)
   (case aB => exact zB)
   (case aF => exact (fun k_ hk => (Nat.le_trans (bZ) hk)))
   (case aO => exact (by (with_reducible repeat (first | apply Kd.N9 | apply Kd.M8 | apply Kd.O0)); exact Kd.E0 N0.out (fun _ hk => hk.1)))
   (case aS => exact (bZ))
   (case aL => have := cF7.out; omega)
   intro aV9 w12 ho hb hg hat
   rw [← bq1.out] at ho
   replace C0 := j4.mk (Kd.D5 (ok := (fun k_ => (z6 k_ ∨ w.heap.size ≤ k_) ∧ k_ ≠ j8 ∧ k_ ≠ o7 ∧ k_ ≠ K6 ∧ k_ ≠ F9)) (fV C0) hg hat)
   replace j5 := bG j5 N0 hg
   replace j7 := bG j7 N0 hg
   replace E7 := bG E7 N0 hg
   replace F7 := bG F7 N0 hg
   replace HB := j4.mk (hb)
   have y8 := j4.mk (ho)
   clear N0 ho hb hg hat
   obtain ⟨c01, c02, bI3⟩ := Kd.s7 y8.out
   (first | subst bI3 | (injection bI3 with f1_ f2_ f3_; have f4_ := f1_.symm; have f5_ := f3_.symm; clear f1_ f2_ f3_; subst f4_; subst f5_))
   refine kO 17 hK (fun hHeld => ?_)
   clear hK K
   refine pu 9 18 ?_
   exact aw9 (by simp only [ae5, Act.put, List.setIfInBounds_toArray, List.set_cons_zero, List.set_cons_succ]) (az5 (v105, .slice c01 aa4.length c02, F9) _ ⟨hHeld, (fV C0), (rO y8), (kQ j5), (kQ j7), (kQ E7), (kQ F7), aW0.out, aW1.out, af2.out, ah7.out, ah8.out, ah9.out, aq6.out, aq7.out, zB⟩)
 rintro ⟨v105, aV9, F9⟩ w14 ⟨hS_, h0_, h1_, h2_, h3_, h4_, h5_, h6_, h7_, h8_, h9_, dI3, dI4, dI5, dI6, dI7⟩
 replace C0 : j4 (Kd.V U7 117 w14 w.heap.size (fun k_ => (z6 k_ ∨ w.heap.size ≤ k_) ∧ some k_ ≠ (aV9 : Value).ownBlock ∧ k_ ≠ j8 ∧ k_ ≠ o7 ∧ k_ ≠ K6 ∧ k_ ≠ F9) (.slice ae2 C8.length W4) C8) := ⟨h0_⟩
 have y8 : j4 (Kd.R Kd.string 9 w14 w.heap.size (fun k_ => (w.heap.size ≤ k_)) aV9 aa4) := ⟨h1_⟩
 replace j5 : j4 (w14.heap[j8]? = some (.cells #[.int .i64 r0, .slice ae2 C8.length W4] 80 (0, 0))) := ⟨h2_⟩
 replace j7 : j4 (w14.heap[o7]? = some (.cells #[.string R8, .string Y1, .slice aU5 ad4.length aR2, .slice aR3 am2.length aR4] 35 (0, 0))) := ⟨h3_⟩
 replace E7 : j4 (w14.heap[K6]? = some (.cells #[.int .i64 0, .slice none 0 0] 80 (0, 0))) := ⟨h4_⟩
 have F7 : j4 (w14.heap[F9]? = some (.cells #[.int .i64 0, .string (⟨#[]⟩ : ByteArray), .string (⟨#[]⟩ : ByteArray), .slice none 0 0, .slice none 0 0] 117 (0, 0))) := ⟨h5_⟩
 have aW0 : j4 (w.heap.size ≤ F9) := ⟨h6_⟩
 have aW1 : j4 (w.heap.size ≤ F9) := ⟨h7_⟩
 have af2 : j4 (j8 ≠ F9) := ⟨h8_⟩
 have ah7 : j4 (F9 ≠ j8) := ⟨h9_⟩
 have ah8 : j4 (o7 ≠ F9) := ⟨dI3⟩
 have ah9 : j4 (F9 ≠ o7) := ⟨dI4⟩
 have aq6 : j4 (K6 ≠ F9) := ⟨dI5⟩
 have aq7 : j4 (F9 ≠ K6) := ⟨dI6⟩
 replace HB : j4 (Below w.heap.size w w14) := ⟨dI7⟩
 clear h0_ h1_ h2_ h3_ h4_ h5_ h6_ h7_ h8_ h9_ dI3 dI4 dI5 dI6 dI7
 have hHeld : w14.cell? ⟨j8, 0, none⟩ = some (.int .i64 r0) ∧ w14.cell? ⟨j8, 1, none⟩ = some (.slice ae2 C8.length W4) ∧ w14.cell? ⟨o7, 0, none⟩ = some (.string R8) ∧ w14.cell? ⟨o7, 1, none⟩ = some (.string Y1) ∧ w14.cell? ⟨o7, 2, none⟩ = some (.slice aU5 ad4.length aR2) ∧ w14.cell? ⟨o7, 3, none⟩ = some (.slice aR3 am2.length aR4) := hS_
 obtain ⟨ao4, am3, c03⟩ := Kd.s7 y8.out
 (first | subst c03 | (injection c03 with f1_ f2_ f3_; have f4_ := f1_.symm; have f5_ := f3_.symm; clear f1_ f2_ f3_; subst f4_; subst f5_))
 refine aw9 (a' := ?_) ?_ ?_
 rotate_left
 ·simp only [ae5, Act.put, List.setIfInBounds_toArray, List.set_cons_zero, List.set_cons_succ]
  rfl
 refine on 11 none (fun K hK => ?_)
 have cW2 := cz5 F7.out
 have cW3 := fz5 F7.out
 have cF8 := af2.out
 have cF9 := ah8.out
 have dI8 := aq6.out
 have dI9 := ah7.out
 have dJ0 := ah9.out
 have dJ1 := aq7.out
 refine sk ?_
 refine hK.out _ _ zF (fun hHeld => ?_)
 clear hK K
 refine au9 (ah0 HT_.out z2_) ?_
 try go_wp2
 go_loopg [8] k (fun kq v8 w' => ∃ (a13 : Int) (J0 : List (X1)) (aC7 : Value), v8 = .int .i64 a13 ∧ j4 (F2.l0 kq a2 a13 r0 C8 R8 Y1 ad4 am2 (wrap64 (r0 + 1)) R8 Y1 J0 aa4 = some (r1, r2)) ∧ j4 (kq ≤ k) ∧ j4 (Kd.V U7 117 w' w.heap.size (fun k_ => (z6 k_ ∨ w.heap.size ≤ k_) ∧ some k_ ≠ (aC7 : Value).ownBlock ∧ some k_ ≠ ((.slice ao4 aa4.length am3) : Value).ownBlock ∧ k_ ≠ j8 ∧ k_ ≠ o7 ∧ k_ ≠ K6 ∧ k_ ≠ F9) (.slice ae2 C8.length W4) C8) ∧ j4 (Kd.R a01 143 w' w.heap.size (fun k_ => (w.heap.size ≤ k_)) aC7 J0) ∧ j4 (Kd.R Kd.string 9 w' w.heap.size (fun k_ => (w.heap.size ≤ k_)) (.slice ao4 aa4.length am3) aa4) ∧ j4 (w'.heap[j8]? = some (.cells #[.int .i64 r0, (.slice ae2 C8.length W4)] 80 (0, 0))) ∧ j4 (w'.heap[o7]? = some (.cells #[.string R8, .string Y1, (.slice aU5 ad4.length aR2), (.slice aR3 am2.length aR4)] 35 (0, 0))) ∧ j4 (w'.heap[K6]? = some (.cells #[.int .i64 0, (.slice none 0 0)] 80 (0, 0))) ∧ j4 (w'.heap[F9]? = some (.cells #[.int .i64 (wrap64 (r0 + 1)), .string R8, .string Y1, aC7, (.slice ao4 aa4.length am3)] 117 (0, 0))) ∧ j4 (Below w.heap.size w w'))
 case atStart => exact ⟨(0), (([] : List (X1))), (.slice none 0 0), zs, H', ⟨Nat.le_refl _⟩, ⟨fV C0⟩, ⟨zn⟩, ⟨fM y8 F7 (fun _ hk => hk.1)⟩, ⟨kQ j5⟩, ⟨kQ j7⟩, ⟨kQ E7⟩, ⟨kQ F7⟩, ⟨zB⟩⟩
 case round =>
  clear H'
  obtain ⟨a13, J0, aC7, rfl, HA, HK1, J5, K3, P1, j5, j7, E7, F7, HB⟩ := hrel
  cases gk with
  | zero => exact absurd HA.out (by simp [F2.l0])
  | succ k1 =>
   have H := HA.out
   clear HA
   simp only [F2.l0] at H
   replace H := K2 H; rcases H with ⟨bf1, H⟩ | ⟨bf1, H⟩
   ·replace H := S1 H; obtain ⟨aT9, H⟩ := H
    first | (with_reducible replace H := bne (([(⟨(⟨(E6 ad4 a13).f0, (E6 ad4 a13).f1⟩ : G6), 0, a2⟩ : X1)] : List (X1)) : List (X1)) H; obtain ⟨b42, b73, H⟩ := H) | (generalize V5 : (([(⟨(⟨(E6 ad4 a13).f0, (E6 ad4 a13).f1⟩ : G6), 0, a2⟩ : X1)] : List (X1)) : List (X1)) = b42 at H; have b73 := j4.mk V5.symm; clear V5)
    replace H := aj5 H; obtain ⟨dJ2, H⟩ := H
    first | (with_reducible replace H := bne (J0 ++ b42 : List (X1)) H; obtain ⟨cu1, bP7, H⟩ := H) | (generalize V5 : (J0 ++ b42 : List (X1)) = cu1 at H; have bP7 := j4.mk V5.symm; clear V5)
    have H' := j4.mk H
    clear H
    have cG0 := D3.out
    have cG1 := D1.out
    have cG2 := aI0.out
    have cG3 := aI1.out
    have cG4 := ah8.out
    have cG5 := ah9.out
    have bq2 := cz4 j7.out
    have bq3 := fz4 j7.out
    try go_wp2
    replace J5 := j4.mk (Kd.aA2 J5.out)
    replace K3 := j4.mk (Kd.O0 K3.out)
    replace P1 := j4.mk (Kd.O0 P1.out)
    replace j5 := j4.mk (I7 j5.out)
    replace j7 := j4.mk (I7 j7.out)
    replace E7 := j4.mk (I7 E7.out)
    replace F7 := j4.mk (I7 F7.out)
    replace HB := j4.mk (E9 HB.out)
    have c04 : 0 ≤ (a13 : Int) := of_decide_eq_true za
    have c05 : a13 < (ad4.length : Int) := of_decide_eq_true za
    obtain ⟨bA9, ds6, aG4, bi6⟩ := as1 cg3.out a13 c04 c05
    have bI4 := bi6
    have bI5 := aG4
    cases ds6
    replace aG4 := kx HB aG4
    replace bi6 := kx HB bi6
    replace c04 := eq_true c04
    replace c05 := eq_true c05
    refine ah3 (n := 13) (S := fun w' => w'.cell? ⟨F9, 0, none⟩ = some (.int .i64 (wrap64 (r0 + 1))) ∧ w'.cell? ⟨F9, 1, none⟩ = some (.string R8) ∧ w'.cell? ⟨F9, 2, none⟩ = some (.string Y1) ∧ w'.cell? ⟨F9, 3, none⟩ = some (aC7) ∧ w'.cell? ⟨F9, 4, none⟩ = some (.slice ao4 aa4.length am3) ∧ w'.cell? ⟨o7, 0, none⟩ = some (.string R8) ∧ w'.cell? ⟨o7, 1, none⟩ = some (.string Y1) ∧ w'.cell? ⟨o7, 2, none⟩ = some (.slice (some bA9) ad4.length aR2) ∧ w'.cell? ⟨o7, 3, none⟩ = some (.slice aR3 am2.length aR4) ∧ w'.cell? (bA9.add ((a13).toNat * 2)) = some (.string ((E6 ad4 a13).f0)) ∧ w'.cell? ⟨(bA9.add ((a13).toNat * 2)).block, (bA9.add ((a13).toNat * 2)).off + 1, none⟩ = some (.string ((E6 ad4 a13).f1))) (ds := [12]) #[false, false, false, false, false, false, false, false, false, false, false, false, false] z2_ rfl rfl ⟨(l7 F7.out 0).trans rfl, (l7 F7.out 1).trans rfl, (l7 F7.out 2).trans rfl, (l7 F7.out 3).trans rfl, (l7 F7.out 4).trans rfl, (l7 j7.out 0).trans rfl, (l7 j7.out 1).trans rfl, (l7 j7.out 2).trans rfl, (l7 j7.out 3).trans rfl, (kx HB bI5), (kx HB bI4)⟩ (fun hHeld => ?_); refine a60 F2.c00 F2.bp9 (fun HT_ HW_ => ?_)
    generalize wr.drew = w28 at J5 K3 P1 j5 j7 E7 F7 HB aG4 bi6 hHeld ⊢
    refine pu 0 26 ?_
    refine pu 2 28 ?_
    refine pu 4 30 ?_
    refine pu 7 33 ?_
    refine ta 1 27 ?_
    refine ta 3 29 ?_
    refine pu 5 31 ?_
    refine ta 6 32 ?_
    refine pu 8 34 ?_
    refine on 9 (some 35) (fun K hK => ?_)
    refine Kd.az9 a01 _ 143 ?hg (N := 35) ?hd (xs := ([(⟨(⟨(E6 ad4 a13).f0, (E6 ad4 a13).f1⟩ : G6), 0, a2⟩ : X1)] : List (X1))) (inner := [.string ((E6 ad4 a13).f0), .string ((E6 ad4 a13).f1), .int .i64 0, .int .i64 a2]) (ok := fun _ => True) (okp := fun _ => True) ?hr ?hp (fun _ hk => hk) trivial (Below.refl _ _) (Nat.le_refl _) (by simp) ?_; (case hd => rfl); (case hg => rfl); (case hr => first | (go_simp; done) | (go_simp; rfl)); (case hp => exact (M4.c4 (show Kd.M a01 _ _ _ (⟨(⟨(E6 ad4 a13).f0, (E6 ad4 a13).f1⟩ : G6), 0, a2⟩ : X1) [.string ((E6 ad4 a13).f0), .string ((E6 ad4 a13).f1), .int .i64 0, .int .i64 a2] from (bo6 _ _ _ (⟨(⟨(E6 ad4 a13).f0, (E6 ad4 a13).f1⟩ : G6), 0, a2⟩ : X1) )) (M4.none _ _)))
    intro cu2 w29 c06 hb hg_ X3
    clear hg_ X3
    (first | rw [← b73.out] at c06 | (simp only [Int.reduceToNat] at c06; rw [← b73.out] at c06))
    replace J5 := j4.mk (Kd.P3 (vO J5) (Kd.J6 c06) hb)
    replace P1 := rS P1 hb
    have R2 := j4.mk (Kd.T9 (Kd.as0 (Kd.ao7 (M := fun k_ => (w.heap.size ≤ k_)) c06 (bZ) (fun k_ h_ => h_)) (Kd.aa3 (rO K3))) (bZ))
    replace K3 := j4.mk (Kd.ab6 (rO K3) (Kd.J6 c06) hb)
    replace j5 := kS j5 hb
    replace j7 := kS j7 hb
    replace E7 := kS E7 hb
    replace F7 := kS F7 hb
    replace HB := bS hb
    clear hb c06
    obtain ⟨X6, X2, bx1⟩ := Kd.s7 R2.out
    (first | subst bx1 | (injection bx1 with f1_ f2_ f3_; have f4_ := f1_.symm; have f5_ := f3_.symm; clear f1_ f2_ f3_; subst f4_; subst f5_))
    refine kO 35 hK (fun hHeld => ?_) ⟨(l7 F7.out 0).trans rfl, (l7 F7.out 1).trans rfl, (l7 F7.out 2).trans rfl, (l7 F7.out 3).trans rfl, (l7 F7.out 4).trans rfl, (l7 j7.out 0).trans rfl, (l7 j7.out 1).trans rfl, (l7 j7.out 2).trans rfl, (l7 j7.out 3).trans rfl, (kx HB bI5), (kx HB bI4)⟩
    clear hK K
    refine on 10 (some 36) (fun K hK => ?_)
    refine Kd.O4 a01 (w0 := w) w.heap.size (by rfl) (.tmp 27) (.tmp 35) 115 143 (.agg #[(.string ⟨#[]⟩), (.string ⟨#[]⟩), (.int .i64 0), (.int .i64 0)]) 48 rfl Tryz.underlying115 at1 rfl I1 (by omega) aC7 J0 b42 _ _ _ (fun k_ => (w.heap.size ≤ k_) ∧ some k_ ≠ (.slice X6 b42.length X2 : Value).ownBlock) (fun _ => False) rfl rfl ?aO ?aR (fun _ _ h => h) (fun _ h => h.elim) ?aF ?aB ?aS ?aL ?_
    (case aR => repeat (first | exact (Kd.y7 R2.out).2.2 | (with_reducible refine Kd.K4 ?_ _) | (with_reducible refine Kd.K5 ?_ _) | (with_reducible refine Kd.Q1 ?_)))
    (case aB => exact zB)
    (case aF => exact (fun k_ hk => ⟨(Nat.le_trans (bZ) hk), Kd.fresh' (Kd.aa3 (rO R2)) k_ hk⟩))
    (case aO => exact (rO K3))
    (case aS => exact (bZ))
    (case aL => have := dJ2.out; omega)
    intro e98 w31 ho hb hg hat
    rw [← bP7.out] at ho
    replace J5 := j4.mk (Kd.D5 (ok := (fun k_ => (z6 k_ ∨ w.heap.size ≤ k_) ∧ some k_ ≠ (.slice ao4 aa4.length am3 : Value).ownBlock ∧ some k_ ≠ (.slice X6 b42.length X2 : Value).ownBlock ∧ k_ ≠ j8 ∧ k_ ≠ o7 ∧ k_ ≠ K6 ∧ k_ ≠ F9)) (fV J5) hg hat)
    replace P1 := j4.mk (Kd.X4 (rO P1) (Kd.a44 (rO K3)) I1 hg)
    replace j5 := bG j5 K3 hg
    replace j7 := bG j7 K3 hg
    replace E7 := bG E7 K3 hg
    replace F7 := bG F7 K3 hg
    replace R2 := j4.mk (Kd.aK8 (ok := (fun k_ => (w.heap.size ≤ k_))) (by (with_reducible repeat (first | apply Kd.N9 | apply Kd.M8 | apply Kd.O0)); exact Kd.E0 R2.out (fun _ hk => ⟨hk.1.1, hk.2⟩)) hg hat)
    replace HB := j4.mk (hb)
    have cg4 := j4.mk (ho)
    clear K3 ho hb hg hat
    obtain ⟨a15, a16, bP8⟩ := Kd.s7 cg4.out
    (first | subst bP8 | (injection bP8 with f1_ f2_ f3_; have f4_ := f1_.symm; have f5_ := f3_.symm; clear f1_ f2_ f3_; subst f4_; subst f5_))
    refine kO 36 hK (fun hHeld => ?_) ⟨(l7 F7.out 0).trans rfl, (l7 F7.out 1).trans rfl, (l7 F7.out 2).trans rfl, (l7 F7.out 3).trans rfl, (l7 F7.out 4).trans rfl, (l7 j7.out 0).trans rfl, (l7 j7.out 1).trans rfl, (l7 j7.out 2).trans rfl, (l7 j7.out 3).trans rfl, (kx HB bI5), (kx HB bI4)⟩
    clear hK K
    refine pu 11 37 ?_
    refine bz5 (i := 12) (N := none) #[true, true, true, true, true, true, true, true, true, true, true, true, true] rfl rfl (bb1 HT_.out z2_) I1 (fun K hK => ?_)
    have eE7 : w31.cell? ⟨F9, 3, none⟩ = some (aC7) := (l7 F7.out 3).trans rfl
    have ep1 := z7 F7.out 3
    have e35 := af2.out
    have e36 := ah8.out
    have e37 := aq6.out
    have e38 := ah7.out
    have e39 := ah9.out
    have e40 := aq7.out
    refine sk ?_
    refine hK.out _ _ ?_
    clear hK K
    refine au9 (ah0 HT_.out z2_) ?_
    try go_wp2
    go_roundg k1
    case measure => have := HK1.out; omega
    case rel => exact ⟨(wrap64 (a13 + 1)), (cu1), (.slice a15 cu1.length a16), zs, H', ⟨by have := HK1.out; omega⟩, ⟨fV J5⟩, ⟨fM cg4 F7 (fun _ hk => hk.1.1)⟩, ⟨fM P1 F7 (fun _ hk => hk.1)⟩, ⟨kQ j5⟩, ⟨kQ j7⟩, ⟨kQ E7⟩, ⟨kQ F7⟩, ⟨zB⟩⟩
   ·first | (with_reducible replace H := bne (([] : List (G9)) : List (G9)) H; obtain ⟨aV8, b74, H⟩ := H) | (generalize V5 : (([] : List (G9)) : List (G9)) = aV8 at H; have b74 := j4.mk V5.symm; clear V5)
    replace H := aj5 H; obtain ⟨cG6, H⟩ := H
    first | (with_reducible replace H := bne (aV8 ++ C8 : List (G9)) H; obtain ⟨ag9, bq4, H⟩ := H) | (generalize V5 : (aV8 ++ C8 : List (G9)) = ag9 at H; have bq4 := j4.mk V5.symm; clear V5)
    first | (with_reducible replace H := bne (([(⟨(wrap64 (r0 + 1)), (⟨R8, Y1⟩ : G6), J0, aa4⟩ : G9)] : List (G9)) : List (G9)) H; obtain ⟨aV6, aJ9, H⟩ := H) | (generalize V5 : (([(⟨(wrap64 (r0 + 1)), (⟨R8, Y1⟩ : G6), J0, aa4⟩ : G9)] : List (G9)) : List (G9)) = aV6 at H; have aJ9 := j4.mk V5.symm; clear V5)
    replace H := aj5 H; obtain ⟨dJ3, H⟩ := H
    first | (with_reducible replace H := bne (ag9 ++ aV6 : List (G9)) H; obtain ⟨dJ4, df4, H⟩ := H) | (generalize V5 : (ag9 ++ aV6 : List (G9)) = dJ4 at H; have df4 := j4.mk V5.symm; clear V5)
    simp only [Option.some.injEq, Prod.mk.injEq] at H
    obtain ⟨rfl, rfl⟩ := H
    have de0 := D3.out
    have de1 := D1.out
    have dG4 := aI0.out
    have dG5 := aI1.out
    have cG7 := ah8.out
    have cG8 := ah9.out
    have bP9 := cz4 j7.out
    have bQ0 := fz4 j7.out
    have dJ5 := aA9.out
    have dJ6 := aB0.out
    have bP3 := af2.out
    have bP4 := ah7.out
    have bQ1 := cz2 j5.out
    have bQ2 := fz2 j5.out
    try go_wp2
    have P5 : j4 (Kd.V U7 117 (wr.setCell ⟨j8, 0, none⟩ (.int .i64 (wrap64 (r0 + 1)))) w.heap.size (fun k_ => (z6 k_ ∨ w.heap.size ≤ k_) ∧ some k_ ≠ (aC7 : Value).ownBlock ∧ some k_ ≠ (.slice ao4 aa4.length am3 : Value).ownBlock ∧ k_ ≠ j8 ∧ k_ ≠ o7 ∧ k_ ≠ K6 ∧ k_ ≠ F9) (.slice ae2 C8.length W4) C8) := ⟨fV J5⟩
    have P6 : j4 (Kd.R a01 143 (wr.setCell ⟨j8, 0, none⟩ (.int .i64 (wrap64 (r0 + 1)))) w.heap.size (fun k_ => (w.heap.size ≤ k_)) aC7 J0) := ⟨fM K3 j5 (fun _ hk => hk.1)⟩
    have n2_ : j4 (Kd.R Kd.string 9 (wr.setCell ⟨j8, 0, none⟩ (.int .i64 (wrap64 (r0 + 1)))) w.heap.size (fun k_ => (w.heap.size ≤ k_)) (.slice ao4 aa4.length am3) aa4) := ⟨fM P1 j5 (fun _ hk => hk.1)⟩
    have n3_ : j4 ((wr.setCell ⟨j8, 0, none⟩ (.int .i64 (wrap64 (r0 + 1)))).heap[j8]? = some (.cells #[.int .i64 (wrap64 (r0 + 1)), .slice ae2 C8.length W4] 80 (0, 0))) := ⟨kQ j5⟩
    have n4_ : j4 ((wr.setCell ⟨j8, 0, none⟩ (.int .i64 (wrap64 (r0 + 1)))).heap[o7]? = some (.cells #[.string R8, .string Y1, .slice aU5 ad4.length aR2, .slice aR3 am2.length aR4] 35 (0, 0))) := ⟨kQ j7⟩
    have n5_ : j4 ((wr.setCell ⟨j8, 0, none⟩ (.int .i64 (wrap64 (r0 + 1)))).heap[K6]? = some (.cells #[.int .i64 0, .slice none 0 0] 80 (0, 0))) := ⟨kQ E7⟩
    have n6_ : j4 ((wr.setCell ⟨j8, 0, none⟩ (.int .i64 (wrap64 (r0 + 1)))).heap[F9]? = some (.cells #[.int .i64 (wrap64 (r0 + 1)), .string R8, .string Y1, aC7, .slice ao4 aa4.length am3] 117 (0, 0))) := ⟨kQ F7⟩
    have n7_ : j4 (Below w.heap.size w (wr.setCell ⟨j8, 0, none⟩ (.int .i64 (wrap64 (r0 + 1))))) := ⟨zB⟩
    (try clear J5)
    (try clear K3)
    (try clear P1)
    (try clear j5)
    (try clear j7)
    (try clear E7)
    (try clear F7)
    (try clear HB)
    generalize (wr.setCell ⟨j8, 0, none⟩ (.int .i64 (wrap64 (r0 + 1)))) = w44 at P5 P6 n2_ n3_ n4_ n5_ n6_ n7_ ⊢
    have J5 := P5
    have K3 := P6
    have P1 := n2_
    have j5 := n3_
    have j7 := n4_
    have E7 := n5_
    have F7 := n6_
    have HB := n7_
    clear P5 P6 n2_ n3_ n4_ n5_ n6_ n7_
    replace J5 := j4.mk (Kd.aA2 J5.out)
    replace K3 := j4.mk (Kd.O0 K3.out)
    replace P1 := j4.mk (Kd.O0 P1.out)
    replace j5 := j4.mk (I7 j5.out)
    replace j7 := j4.mk (I7 j7.out)
    replace E7 := j4.mk (I7 E7.out)
    replace F7 := j4.mk (I7 F7.out)
    replace HB := j4.mk (E9 HB.out)
    obtain ⟨aE6, aE7, ds7⟩ := Kd.s7 K3.out
    subst ds7
    refine ah3 (n := 9) (S := fun w' => w'.cell? ⟨j8, 0, none⟩ = some (.int .i64 (wrap64 (r0 + 1))) ∧ w'.cell? ⟨j8, 1, none⟩ = some (.slice ae2 C8.length W4) ∧ w'.cell? ⟨F9, 0, none⟩ = some (.int .i64 (wrap64 (r0 + 1))) ∧ w'.cell? ⟨F9, 1, none⟩ = some (.string R8) ∧ w'.cell? ⟨F9, 2, none⟩ = some (.string Y1) ∧ w'.cell? ⟨F9, 3, none⟩ = some (.slice aE6 J0.length aE7) ∧ w'.cell? ⟨F9, 4, none⟩ = some (.slice ao4 aa4.length am3)) (ds := [8]) #[false, false, false, false, false, false, false, false, false] z2_ rfl rfl ⟨(l7 j5.out 0).trans rfl, (l7 j5.out 1).trans rfl, (l7 F7.out 0).trans rfl, (l7 F7.out 1).trans rfl, (l7 F7.out 2).trans rfl, (l7 F7.out 3).trans rfl, (l7 F7.out 4).trans rfl⟩ (fun hHeld => ?_); refine a60 F2.ds5 F2.cF5 (fun HT_ HW_ => ?_)
    generalize w44.drew = w45 at J5 K3 P1 j5 j7 E7 F7 HB hHeld ⊢
    refine pu 1 43 ?_
    refine ta 2 44 ?_
    refine ta 4 46 ?_
    refine bN4 (σ := Value × Value × Value) 3 #[true, true, true, true, true, true, false, false, false] (fun s_ => [(42, s_.1), (45, s_.2.1), (47, s_.2.2)]) (fun s_ w' => (w'.cell? ⟨j8, 0, none⟩ = some (.int .i64 (wrap64 (r0 + 1))) ∧ w'.cell? ⟨j8, 1, none⟩ = some (.slice ae2 C8.length W4) ∧ w'.cell? ⟨F9, 0, none⟩ = some (.int .i64 (wrap64 (r0 + 1))) ∧ w'.cell? ⟨F9, 1, none⟩ = some (.string R8) ∧ w'.cell? ⟨F9, 2, none⟩ = some (.string Y1) ∧ w'.cell? ⟨F9, 3, none⟩ = some (.slice aE6 J0.length aE7) ∧ w'.cell? ⟨F9, 4, none⟩ = some (.slice ao4 aa4.length am3)) ∧ (Kd.N U7 117 w' w.heap.size (fun k_ => (z6 k_ ∨ w.heap.size ≤ k_) ∧ some k_ ≠ (s_.2.2 : Value).ownBlock ∧ k_ ≠ j8 ∧ k_ ≠ o7 ∧ k_ ≠ K6 ∧ k_ ≠ F9) s_.2.1 ag9) ∧ (Kd.N U7 117 w' w.heap.size (fun k_ => (z6 k_ ∨ w.heap.size ≤ k_) ∧ some k_ ≠ (s_.2.1 : Value).ownBlock ∧ k_ ≠ j8 ∧ k_ ≠ o7 ∧ k_ ≠ K6 ∧ k_ ≠ F9) s_.2.2 aV6) ∧ (Kd.V U7 117 w' w.heap.size (fun k_ => (z6 k_ ∨ w.heap.size ≤ k_) ∧ some k_ ≠ (s_.2.1 : Value).ownBlock ∧ some k_ ≠ (s_.2.2 : Value).ownBlock ∧ k_ ≠ j8 ∧ k_ ≠ o7 ∧ k_ ≠ K6 ∧ k_ ≠ F9) (.slice ae2 C8.length W4) C8) ∧ (w'.heap[j8]? = some (.cells #[.int .i64 (wrap64 (r0 + 1)), .slice ae2 C8.length W4] 80 (0, 0))) ∧ (w'.heap[o7]? = some (.cells #[.string R8, .string Y1, .slice aU5 ad4.length aR2, .slice aR3 am2.length aR4] 35 (0, 0))) ∧ (w'.heap[K6]? = some (.cells #[.int .i64 0, .slice none 0 0] 80 (0, 0))) ∧ (w'.heap[F9]? = some (.cells #[.int .i64 (wrap64 (r0 + 1)), .string R8, .string Y1, .slice aE6 J0.length aE7, .slice ao4 aa4.length am3] 117 (0, 0))) ∧ (Below w.heap.size w w')) ?_ ?_
    rotate_left
    ·intro az5
     refine tw 0 5 (some 42) (some 47) (fun K hK => ?_) (fun K hK => ?_)
     ·skip
      refine Kd.aJ3 U7 _ 117 ?hg (N' := 42) ?hd (xs := ([] : List (G9))) (inner := []) (ok := (fun k_ => (z6 k_ ∨ w.heap.size ≤ k_) ∧ some k_ ≠ ((.slice aE6 J0.length aE7) : Value).ownBlock ∧ some k_ ≠ (.slice ao4 aa4.length am3 : Value).ownBlock ∧ k_ ≠ j8 ∧ k_ ≠ o7 ∧ k_ ≠ K6 ∧ k_ ≠ F9)) (okp := (fun k_ => (z6 k_ ∨ w.heap.size ≤ k_) ∧ some k_ ≠ ((.slice aE6 J0.length aE7) : Value).ownBlock ∧ some k_ ≠ (.slice ao4 aa4.length am3 : Value).ownBlock ∧ k_ ≠ j8 ∧ k_ ≠ o7 ∧ k_ ≠ K6 ∧ k_ ≠ F9)) ?hr ?hp (fun _ hk => hk) ((show ∀ k_, w45.heap.size ≤ k_ → (fun k_ => (z6 k_ ∨ w.heap.size ≤ k_) ∧ some k_ ≠ ((.slice aE6 J0.length aE7) : Value).ownBlock ∧ some k_ ≠ (.slice ao4 aa4.length am3 : Value).ownBlock ∧ k_ ≠ j8 ∧ k_ ≠ o7 ∧ k_ ≠ K6 ∧ k_ ≠ F9) k_ from fun k_ hk => ⟨(.inr (Nat.le_trans (bZ) hk)), Kd.fresh' (Kd.aa3 (rO K3)) k_ hk, Kd.fresh' (Kd.aa3 (rO P1)) k_ hk, (kG j5) k_ hk, (kG j7) k_ hk, (kG E7) k_ hk, (kG F7) k_ hk⟩) _ (Nat.le_refl _)) (Below.refl _ _) (Nat.le_refl _) (by simp) ?_; (case hd => rfl); (case hg => rfl); (case hr => first | (go_simp; done) | (go_simp; rfl)); (case hp => exact (M4.none _ _))
      intro aE8 w46 cu3 hb hg_ X3
      clear hg_ X3
      (first | rw [← b74.out] at cu3 | (simp only [Int.reduceToNat] at cu3; rw [← b74.out] at cu3))
      replace J5 := j4.mk (Kd.P3 (vO J5) (Kd.ab2 cu3) hb)
      replace K3 := rS K3 hb
      replace P1 := rS P1 hb
      have a78 := j4.mk (Kd.aq2 cu3 (bZ))
      replace j5 := kS j5 hb
      replace j7 := kS j7 hb
      replace E7 := kS E7 hb
      replace F7 := kS F7 hb
      replace HB := bS hb
      clear hb cu3
      refine kO 42 hK (fun hHeld => ?_)
      clear hK K
      refine tw 3 5 (some 45) (some 47) (fun K hK => ?_) (fun K hK => ?_)
      ·skip
       refine Kd.ak1 U7 (w0 := w) w.heap.size (by rfl) (.tmp 42) (.tmp 44) 78 117 (.agg #[(.int .i64 0), (.string ⟨#[]⟩), (.string ⟨#[]⟩), (.slice none 0 0), (.slice none 0 0)]) 88 rfl Tryz.underlying78 ak2 rfl I1 (by omega) aE8 aV8 C8 _ _ _ (fun k_ => (z6 k_ ∨ w.heap.size ≤ k_) ∧ some k_ ≠ ((.slice aE6 J0.length aE7) : Value).ownBlock ∧ some k_ ≠ (.slice ao4 aa4.length am3 : Value).ownBlock ∧ k_ ≠ j8 ∧ k_ ≠ o7 ∧ k_ ≠ K6 ∧ k_ ≠ F9) (fun k_ => ((fun k_ => (z6 k_ ∨ w.heap.size ≤ k_) ∧ some k_ ≠ ((.slice aE6 J0.length aE7) : Value).ownBlock ∧ some k_ ≠ (.slice ao4 aa4.length am3 : Value).ownBlock ∧ k_ ≠ j8 ∧ k_ ≠ o7 ∧ k_ ≠ K6 ∧ k_ ≠ F9)) k_ ∧ some k_ ≠ (aE8 : Value).ownBlock) rfl rfl ?aO ?aR (fun _ hk => hk) ?aF ?aB ?aS ?aL ?_
       (case aR => exact (by skip; exact Kd.V_F (Kd.J8 (ok' := (fun k_ => ((fun k_ => (z6 k_ ∨ w.heap.size ≤ k_) ∧ some k_ ≠ ((.slice aE6 J0.length aE7) : Value).ownBlock ∧ some k_ ≠ (.slice ao4 aa4.length am3 : Value).ownBlock ∧ k_ ≠ j8 ∧ k_ ≠ o7 ∧ k_ ≠ K6 ∧ k_ ≠ F9)) k_ ∧ some k_ ≠ (aE8 : Value).ownBlock)) (J5.out) (fun k_ hk => ⟨⟨hk.1.1, ⟨hk.1.2.1, ⟨hk.1.2.2.1, ⟨hk.1.2.2.2.1, ⟨hk.1.2.2.2.2.1, ⟨hk.1.2.2.2.2.2.1, hk.1.2.2.2.2.2.2⟩⟩⟩⟩⟩⟩, hk.2⟩))))
       (case aB => exact zB)
       (case aF => exact (fun k_ hk => ⟨(.inr (Nat.le_trans (bZ) hk)), Kd.fresh' (Kd.aa3 (rO K3)) k_ hk, Kd.fresh' (Kd.aa3 (rO P1)) k_ hk, (kG j5) k_ hk, (kG j7) k_ hk, (kG E7) k_ hk, (kG F7) k_ hk⟩))
       (case aO => exact (nO a78))
       (case aS => exact (bZ))
       (case aL => have := cG6.out; omega)
       intro aK0 w48 ho hb hg hat
       rw [← bq4.out] at ho
       replace J5 := j4.mk (Kd.D5 (ok := (fun k_ => (z6 k_ ∨ w.heap.size ≤ k_) ∧ some k_ ≠ ((.slice aE6 J0.length aE7) : Value).ownBlock ∧ some k_ ≠ (.slice ao4 aa4.length am3 : Value).ownBlock ∧ k_ ≠ j8 ∧ k_ ≠ o7 ∧ k_ ≠ K6 ∧ k_ ≠ F9)) (vO J5) hg hat)
       replace K3 := j4.mk (Kd.X4 (rO K3) (Kd.W9 (nO a78)) I1 hg)
       replace P1 := j4.mk (Kd.X4 (rO P1) (Kd.W9 (nO a78)) I1 hg)
       replace j5 := bN j5 a78 hg
       replace j7 := bN j7 a78 hg
       replace E7 := bN E7 a78 hg
       replace F7 := j4.mk (I4 (g := F9) (o := .cells #[.int .i64 (wrap64 (r0 + 1)), .string R8, .string Y1, (.slice aE6 J0.length aE7), .slice ao4 aa4.length am3] 117 (0, 0)) (kQ F7) hg (Kd.aJ2 a78.out (fun _ hk => hk.2.2.2.2.2.2)))
       replace HB := j4.mk (hb)
       have V8 := j4.mk (ho)
       clear a78 ho hb hg hat
       refine kO 45 hK (fun hHeld => ?_)
       clear hK K
       refine on 5 (some 47) (fun K hK => ?_)
       refine Kd.aJ3 U7 _ 117 ?hg (N' := 47) ?hd (xs := ([(⟨(wrap64 (r0 + 1)), (⟨R8, Y1⟩ : G6), J0, aa4⟩ : G9)] : List (G9))) (inner := [.int .i64 (wrap64 (r0 + 1)), .string R8, .string Y1, .slice aE6 J0.length aE7, .slice ao4 aa4.length am3]) (ok := (fun k_ => (z6 k_ ∨ w.heap.size ≤ k_) ∧ some k_ ≠ (aK0 : Value).ownBlock ∧ k_ ≠ j8 ∧ k_ ≠ o7 ∧ k_ ≠ K6 ∧ k_ ≠ F9)) (okp := (fun k_ => (z6 k_ ∨ w.heap.size ≤ k_) ∧ some k_ ≠ (aK0 : Value).ownBlock ∧ k_ ≠ j8 ∧ k_ ≠ o7 ∧ k_ ≠ K6 ∧ k_ ≠ F9)) ?hr ?hp (fun _ hk => hk) ((show ∀ k_, w48.heap.size ≤ k_ → (fun k_ => (z6 k_ ∨ w.heap.size ≤ k_) ∧ some k_ ≠ (aK0 : Value).ownBlock ∧ k_ ≠ j8 ∧ k_ ≠ o7 ∧ k_ ≠ K6 ∧ k_ ≠ F9) k_ from fun k_ hk => ⟨(.inr (Nat.le_trans (bZ) hk)), Kd.fresh' (Kd.cs6 (nO V8)) k_ hk, (kG j5) k_ hk, (kG j7) k_ hk, (kG E7) k_ hk, (kG F7) k_ hk⟩) _ (Nat.le_refl _)) (Below.refl _ _) (Nat.le_refl _) (by simp) ?_; (case hd => rfl); (case hg => rfl); (case hr => first | (go_simp; done) | (go_simp; rfl)); (case hp => exact (M4.c5 (show Kd.FK U7 _ _ (⟨(wrap64 (r0 + 1)), (⟨R8, Y1⟩ : G6), J0, aa4⟩ : G9) [.int .i64 (wrap64 (r0 + 1)), .string R8, .string Y1, .slice aE6 J0.length aE7, .slice ao4 aa4.length am3] from (aU8 _ _ (⟨(wrap64 (r0 + 1)), (⟨R8, Y1⟩ : G6), J0, aa4⟩ : G9) (Kd.y7 (Kd.E0 (ok' := (fun k_ => (z6 k_ ∨ w.heap.size ≤ k_) ∧ some k_ ≠ (aK0 : Value).ownBlock ∧ k_ ≠ j8 ∧ k_ ≠ o7 ∧ k_ ≠ K6 ∧ k_ ≠ F9)) (Kd.z8 (Kd.z8 (Kd.z8 (Kd.z8 (Kd.V9 (K3.out) (Kd.W9 V8.out) I1) j5.out I1) j7.out I1) E7.out I1) F7.out I1) (fun k_ hk => ⟨(.inr (hk.1.1.1.1.1)), ⟨hk.1.1.1.1.2, ⟨hk.1.1.1.2, ⟨hk.1.1.2, ⟨hk.1.2, hk.2⟩⟩⟩⟩⟩))).2.1 (Kd.R_F (Kd.E0 (ok' := (fun k_ => (z6 k_ ∨ w.heap.size ≤ k_) ∧ some k_ ≠ (aK0 : Value).ownBlock ∧ k_ ≠ j8 ∧ k_ ≠ o7 ∧ k_ ≠ K6 ∧ k_ ≠ F9)) (Kd.z8 (Kd.z8 (Kd.z8 (Kd.z8 (Kd.V9 (K3.out) (Kd.W9 V8.out) I1) j5.out I1) j7.out I1) E7.out I1) F7.out I1) (fun k_ hk => ⟨(.inr (hk.1.1.1.1.1)), ⟨hk.1.1.1.1.2, ⟨hk.1.1.1.2, ⟨hk.1.1.2, ⟨hk.1.2, hk.2⟩⟩⟩⟩⟩))) (Kd.y7 (Kd.E0 (ok' := (fun k_ => (z6 k_ ∨ w.heap.size ≤ k_) ∧ some k_ ≠ (aK0 : Value).ownBlock ∧ k_ ≠ j8 ∧ k_ ≠ o7 ∧ k_ ≠ K6 ∧ k_ ≠ F9)) (Kd.z8 (Kd.z8 (Kd.z8 (Kd.z8 (Kd.V9 (P1.out) (Kd.W9 V8.out) I1) j5.out I1) j7.out I1) E7.out I1) F7.out I1) (fun k_ hk => ⟨(.inr (hk.1.1.1.1.1)), ⟨hk.1.1.1.1.2, ⟨hk.1.1.1.2, ⟨hk.1.1.2, ⟨hk.1.2, hk.2⟩⟩⟩⟩⟩))).2.1 (Kd.R_F (Kd.E0 (ok' := (fun k_ => (z6 k_ ∨ w.heap.size ≤ k_) ∧ some k_ ≠ (aK0 : Value).ownBlock ∧ k_ ≠ j8 ∧ k_ ≠ o7 ∧ k_ ≠ K6 ∧ k_ ≠ F9)) (Kd.z8 (Kd.z8 (Kd.z8 (Kd.z8 (Kd.V9 (P1.out) (Kd.W9 V8.out) I1) j5.out I1) j7.out I1) E7.out I1) F7.out I1) (fun k_ hk => ⟨(.inr (hk.1.1.1.1.1)), ⟨hk.1.1.1.1.2, ⟨hk.1.1.1.2, ⟨hk.1.1.2, ⟨hk.1.2, hk.2⟩⟩⟩⟩⟩))))) (M4.none _ _)))
       intro aE5 w50 c07 hb hg_ X3
       clear hg_ X3
       (first | rw [← aJ9.out] at c07 | (simp only [Int.reduceToNat] at c07; rw [← aJ9.out] at c07))
       replace J5 := j4.mk (Kd.P3 (vO J5) (Kd.ab2 c07) hb)
       replace V8 := j4.mk (Kd.bo0 (nO V8) (Kd.ab2 c07) hb)
       have a04 := j4.mk (Kd.aq2 c07 (bZ))
       replace j5 := kS j5 hb
       replace j7 := kS j7 hb
       replace E7 := kS E7 hb
       replace F7 := kS F7 hb
       replace HB := bS hb
       clear K3 P1 hb c07
       refine kO 47 hK (fun hHeld => ?_)
       clear hK K
       exact aw9 (by simp only [ae5, Act.put, List.setIfInBounds_toArray, List.set_cons_zero, List.set_cons_succ]) (az5 (aE8, aK0, aE5) _ ⟨hHeld, (fN V8), (nO a04), (fV J5), (kQ j5), (kQ j7), (kQ E7), (kQ F7), zB⟩)
      ·skip
       refine Kd.aJ3 U7 _ 117 ?hg (N' := 47) ?hd (xs := ([(⟨(wrap64 (r0 + 1)), (⟨R8, Y1⟩ : G6), J0, aa4⟩ : G9)] : List (G9))) (inner := [.int .i64 (wrap64 (r0 + 1)), .string R8, .string Y1, .slice aE6 J0.length aE7, .slice ao4 aa4.length am3]) (ok := (fun k_ => (z6 k_ ∨ w.heap.size ≤ k_) ∧ some k_ ≠ (aE8 : Value).ownBlock ∧ k_ ≠ j8 ∧ k_ ≠ o7 ∧ k_ ≠ K6 ∧ k_ ≠ F9)) (okp := (fun k_ => (z6 k_ ∨ w.heap.size ≤ k_) ∧ some k_ ≠ (aE8 : Value).ownBlock ∧ k_ ≠ j8 ∧ k_ ≠ o7 ∧ k_ ≠ K6 ∧ k_ ≠ F9)) ?hr ?hp (fun _ hk => hk) ((show ∀ k_, w46.heap.size ≤ k_ → (fun k_ => (z6 k_ ∨ w.heap.size ≤ k_) ∧ some k_ ≠ (aE8 : Value).ownBlock ∧ k_ ≠ j8 ∧ k_ ≠ o7 ∧ k_ ≠ K6 ∧ k_ ≠ F9) k_ from fun k_ hk => ⟨(.inr (Nat.le_trans (bZ) hk)), Kd.fresh' (Kd.cs6 (nO a78)) k_ hk, (kG j5) k_ hk, (kG j7) k_ hk, (kG E7) k_ hk, (kG F7) k_ hk⟩) _ (Nat.le_refl _)) (Below.refl _ _) (Nat.le_refl _) (by simp) ?_; (case hd => rfl); (case hg => rfl); (case hr => first | (go_simp; done) | (go_simp; rfl)); (case hp => exact (M4.c5 (show Kd.FK U7 _ _ (⟨(wrap64 (r0 + 1)), (⟨R8, Y1⟩ : G6), J0, aa4⟩ : G9) [.int .i64 (wrap64 (r0 + 1)), .string R8, .string Y1, .slice aE6 J0.length aE7, .slice ao4 aa4.length am3] from (aU8 _ _ (⟨(wrap64 (r0 + 1)), (⟨R8, Y1⟩ : G6), J0, aa4⟩ : G9) (Kd.y7 (Kd.E0 (ok' := (fun k_ => (z6 k_ ∨ w.heap.size ≤ k_) ∧ some k_ ≠ (aE8 : Value).ownBlock ∧ k_ ≠ j8 ∧ k_ ≠ o7 ∧ k_ ≠ K6 ∧ k_ ≠ F9)) (Kd.z8 (Kd.z8 (Kd.z8 (Kd.z8 (Kd.V9 (K3.out) (Kd.W9 a78.out) I1) j5.out I1) j7.out I1) E7.out I1) F7.out I1) (fun k_ hk => ⟨(.inr (hk.1.1.1.1.1)), ⟨hk.1.1.1.1.2, ⟨hk.1.1.1.2, ⟨hk.1.1.2, ⟨hk.1.2, hk.2⟩⟩⟩⟩⟩))).2.1 (Kd.R_F (Kd.E0 (ok' := (fun k_ => (z6 k_ ∨ w.heap.size ≤ k_) ∧ some k_ ≠ (aE8 : Value).ownBlock ∧ k_ ≠ j8 ∧ k_ ≠ o7 ∧ k_ ≠ K6 ∧ k_ ≠ F9)) (Kd.z8 (Kd.z8 (Kd.z8 (Kd.z8 (Kd.V9 (K3.out) (Kd.W9 a78.out) I1) j5.out I1) j7.out I1) E7.out I1) F7.out I1) (fun k_ hk => ⟨(.inr (hk.1.1.1.1.1)), ⟨hk.1.1.1.1.2, ⟨hk.1.1.1.2, ⟨hk.1.1.2, ⟨hk.1.2, hk.2⟩⟩⟩⟩⟩))) (Kd.y7 (Kd.E0 (ok' := (fun k_ => (z6 k_ ∨ w.heap.size ≤ k_) ∧ some k_ ≠ (aE8 : Value).ownBlock ∧ k_ ≠ j8 ∧ k_ ≠ o7 ∧ k_ ≠ K6 ∧ k_ ≠ F9)) (Kd.z8 (Kd.z8 (Kd.z8 (Kd.z8 (Kd.V9 (P1.out) (Kd.W9 a78.out) I1) j5.out I1) j7.out I1) E7.out I1) F7.out I1) (fun k_ hk => ⟨(.inr (hk.1.1.1.1.1)), ⟨hk.1.1.1.1.2, ⟨hk.1.1.1.2, ⟨hk.1.1.2, ⟨hk.1.2, hk.2⟩⟩⟩⟩⟩))).2.1 (Kd.R_F (Kd.E0 (ok' := (fun k_ => (z6 k_ ∨ w.heap.size ≤ k_) ∧ some k_ ≠ (aE8 : Value).ownBlock ∧ k_ ≠ j8 ∧ k_ ≠ o7 ∧ k_ ≠ K6 ∧ k_ ≠ F9)) (Kd.z8 (Kd.z8 (Kd.z8 (Kd.z8 (Kd.V9 (P1.out) (Kd.W9 a78.out) I1) j5.out I1) j7.out I1) E7.out I1) F7.out I1) (fun k_ hk => ⟨(.inr (hk.1.1.1.1.1)), ⟨hk.1.1.1.1.2, ⟨hk.1.1.1.2, ⟨hk.1.1.2, ⟨hk.1.2, hk.2⟩⟩⟩⟩⟩))))) (M4.none _ _)))
       intro aE5 w49 b43 hb hg_ X3
       clear hg_ X3
       (first | rw [← aJ9.out] at b43 | (simp only [Int.reduceToNat] at b43; rw [← aJ9.out] at b43))
       replace J5 := j4.mk (Kd.P3 (vO J5) (Kd.ab2 b43) hb)
       replace a78 := j4.mk (Kd.bo0 (nO a78) (Kd.ab2 b43) hb)
       have a04 := j4.mk (Kd.aq2 b43 (bZ))
       replace j5 := kS j5 hb
       replace j7 := kS j7 hb
       replace E7 := kS E7 hb
       replace F7 := kS F7 hb
       replace HB := bS hb
       clear K3 P1 hb b43
       refine kO 47 hK (fun hHeld => ?_)
       clear hK K
       refine on 3 (some 45) (fun K hK => ?_)
       refine Kd.ak1 U7 (w0 := w) w.heap.size (by rfl) (.tmp 42) (.tmp 44) 78 117 (.agg #[(.int .i64 0), (.string ⟨#[]⟩), (.string ⟨#[]⟩), (.slice none 0 0), (.slice none 0 0)]) 88 rfl Tryz.underlying78 ak2 rfl I1 (by omega) aE8 aV8 C8 _ _ _ (fun k_ => (z6 k_ ∨ w.heap.size ≤ k_) ∧ some k_ ≠ (aE5 : Value).ownBlock ∧ k_ ≠ j8 ∧ k_ ≠ o7 ∧ k_ ≠ K6 ∧ k_ ≠ F9) (fun k_ => ((fun k_ => (z6 k_ ∨ w.heap.size ≤ k_) ∧ some k_ ≠ (aE5 : Value).ownBlock ∧ k_ ≠ j8 ∧ k_ ≠ o7 ∧ k_ ≠ K6 ∧ k_ ≠ F9)) k_ ∧ some k_ ≠ (aE8 : Value).ownBlock) rfl rfl ?aO ?aR (fun _ hk => hk) ?aF ?aB ?aS ?aL ?_
       (case aR => exact (by skip; exact Kd.V_F (Kd.J8 (ok' := (fun k_ => ((fun k_ => (z6 k_ ∨ w.heap.size ≤ k_) ∧ some k_ ≠ (aE5 : Value).ownBlock ∧ k_ ≠ j8 ∧ k_ ≠ o7 ∧ k_ ≠ K6 ∧ k_ ≠ F9)) k_ ∧ some k_ ≠ (aE8 : Value).ownBlock)) (J5.out) (fun k_ hk => ⟨⟨hk.1.1.1, ⟨hk.2, ⟨hk.1.1.2.2.2.1, ⟨hk.1.1.2.2.2.2.1, ⟨hk.1.1.2.2.2.2.2.1, hk.1.1.2.2.2.2.2.2⟩⟩⟩⟩⟩, hk.1.2⟩))))
       (case aB => exact zB)
       (case aF => exact (fun k_ hk => ⟨(.inr (Nat.le_trans (bZ) hk)), Kd.fresh' (Kd.cs6 (nO a04)) k_ hk, (kG j5) k_ hk, (kG j7) k_ hk, (kG E7) k_ hk, (kG F7) k_ hk⟩))
       (case aO => exact (fN a78))
       (case aS => exact (bZ))
       (case aL => have := cG6.out; omega)
       intro aK0 w51 ho hb hg hat
       rw [← bq4.out] at ho
       replace J5 := j4.mk (Kd.D5 (ok := (fun k_ => (z6 k_ ∨ w.heap.size ≤ k_) ∧ some k_ ≠ (aE5 : Value).ownBlock ∧ k_ ≠ j8 ∧ k_ ≠ o7 ∧ k_ ≠ K6 ∧ k_ ≠ F9)) (fV J5) hg hat)
       replace j5 := bN j5 a78 hg
       replace j7 := bN j7 a78 hg
       replace E7 := bN E7 a78 hg
       replace F7 := j4.mk (I4 (g := F9) (o := .cells #[.int .i64 (wrap64 (r0 + 1)), .string R8, .string Y1, .slice aE6 J0.length aE7, .slice ao4 aa4.length am3] 117 (0, 0)) (kQ F7) hg (Kd.aJ2 a78.out (fun _ hk => hk.1.2.2.2.2.2.2)))
       replace a04 := j4.mk (Kd.bo1 (ok := (fun k_ => (z6 k_ ∨ w.heap.size ≤ k_) ∧ k_ ≠ j8 ∧ k_ ≠ o7 ∧ k_ ≠ K6 ∧ k_ ≠ F9)) (fN a04) hg hat)
       replace HB := j4.mk (hb)
       have V8 := j4.mk (ho)
       clear a78 ho hb hg hat
       refine kO 45 hK (fun hHeld => ?_)
       clear hK K
       exact aw9 (by simp only [ae5, Act.put, List.setIfInBounds_toArray, List.set_cons_zero, List.set_cons_succ]) (az5 (aE8, aK0, aE5) _ ⟨hHeld, (nO V8), (fN a04), (fV J5), (kQ j5), (kQ j7), (kQ E7), (kQ F7), zB⟩)
     ·skip
      refine Kd.aJ3 U7 _ 117 ?hg (N' := 47) ?hd (xs := ([(⟨(wrap64 (r0 + 1)), (⟨R8, Y1⟩ : G6), J0, aa4⟩ : G9)] : List (G9))) (inner := [.int .i64 (wrap64 (r0 + 1)), .string R8, .string Y1, .slice aE6 J0.length aE7, .slice ao4 aa4.length am3]) (ok := (fun k_ => (z6 k_ ∨ w.heap.size ≤ k_) ∧ k_ ≠ j8 ∧ k_ ≠ o7 ∧ k_ ≠ K6 ∧ k_ ≠ F9)) (okp := (fun k_ => (z6 k_ ∨ w.heap.size ≤ k_) ∧ k_ ≠ j8 ∧ k_ ≠ o7 ∧ k_ ≠ K6 ∧ k_ ≠ F9)) ?hr ?hp (fun _ hk => hk) ((show ∀ k_, w45.heap.size ≤ k_ → (fun k_ => (z6 k_ ∨ w.heap.size ≤ k_) ∧ k_ ≠ j8 ∧ k_ ≠ o7 ∧ k_ ≠ K6 ∧ k_ ≠ F9) k_ from fun k_ hk => ⟨(.inr (Nat.le_trans (bZ) hk)), (kG j5) k_ hk, (kG j7) k_ hk, (kG E7) k_ hk, (kG F7) k_ hk⟩) _ (Nat.le_refl _)) (Below.refl _ _) (Nat.le_refl _) (by simp) ?_; (case hd => rfl); (case hg => rfl); (case hr => first | (go_simp; done) | (go_simp; rfl)); (case hp => exact (M4.c5 (show Kd.FK U7 _ _ (⟨(wrap64 (r0 + 1)), (⟨R8, Y1⟩ : G6), J0, aa4⟩ : G9) [.int .i64 (wrap64 (r0 + 1)), .string R8, .string Y1, .slice aE6 J0.length aE7, .slice ao4 aa4.length am3] from (aU8 _ _ (⟨(wrap64 (r0 + 1)), (⟨R8, Y1⟩ : G6), J0, aa4⟩ : G9) (Kd.y7 (Kd.E0 (ok' := (fun k_ => (z6 k_ ∨ w.heap.size ≤ k_) ∧ k_ ≠ j8 ∧ k_ ≠ o7 ∧ k_ ≠ K6 ∧ k_ ≠ F9)) (Kd.z8 (Kd.z8 (Kd.z8 (Kd.z8 (K3.out) j5.out I1) j7.out I1) E7.out I1) F7.out I1) (fun k_ hk => ⟨(.inr (hk.1.1.1.1)), ⟨hk.1.1.1.2, ⟨hk.1.1.2, ⟨hk.1.2, hk.2⟩⟩⟩⟩))).2.1 (Kd.R_F (Kd.E0 (ok' := (fun k_ => (z6 k_ ∨ w.heap.size ≤ k_) ∧ k_ ≠ j8 ∧ k_ ≠ o7 ∧ k_ ≠ K6 ∧ k_ ≠ F9)) (Kd.z8 (Kd.z8 (Kd.z8 (Kd.z8 (K3.out) j5.out I1) j7.out I1) E7.out I1) F7.out I1) (fun k_ hk => ⟨(.inr (hk.1.1.1.1)), ⟨hk.1.1.1.2, ⟨hk.1.1.2, ⟨hk.1.2, hk.2⟩⟩⟩⟩))) (Kd.y7 (Kd.E0 (ok' := (fun k_ => (z6 k_ ∨ w.heap.size ≤ k_) ∧ k_ ≠ j8 ∧ k_ ≠ o7 ∧ k_ ≠ K6 ∧ k_ ≠ F9)) (Kd.z8 (Kd.z8 (Kd.z8 (Kd.z8 (P1.out) j5.out I1) j7.out I1) E7.out I1) F7.out I1) (fun k_ hk => ⟨(.inr (hk.1.1.1.1)), ⟨hk.1.1.1.2, ⟨hk.1.1.2, ⟨hk.1.2, hk.2⟩⟩⟩⟩))).2.1 (Kd.R_F (Kd.E0 (ok' := (fun k_ => (z6 k_ ∨ w.heap.size ≤ k_) ∧ k_ ≠ j8 ∧ k_ ≠ o7 ∧ k_ ≠ K6 ∧ k_ ≠ F9)) (Kd.z8 (Kd.z8 (Kd.z8 (Kd.z8 (P1.out) j5.out I1) j7.out I1) E7.out I1) F7.out I1) (fun k_ hk => ⟨(.inr (hk.1.1.1.1)), ⟨hk.1.1.1.2, ⟨hk.1.1.2, ⟨hk.1.2, hk.2⟩⟩⟩⟩))))) (M4.none _ _)))
      intro aE5 w47 cu4 hb hg_ X3
      clear hg_ X3
      (first | rw [← aJ9.out] at cu4 | (simp only [Int.reduceToNat] at cu4; rw [← aJ9.out] at cu4))
      replace J5 := j4.mk (Kd.P3 (vO J5) (Kd.ab2 cu4) hb)
      have a04 := j4.mk (Kd.aq2 cu4 (bZ))
      replace j5 := kS j5 hb
      replace j7 := kS j7 hb
      replace E7 := kS E7 hb
      replace F7 := kS F7 hb
      replace HB := bS hb
      clear K3 P1 hb cu4
      refine kO 47 hK (fun hHeld => ?_)
      clear hK K
      refine on 0 (some 42) (fun K hK => ?_)
      refine Kd.aJ3 U7 _ 117 ?hg (N' := 42) ?hd (xs := ([] : List (G9))) (inner := []) (ok := (fun k_ => (z6 k_ ∨ w.heap.size ≤ k_) ∧ some k_ ≠ (aE5 : Value).ownBlock ∧ k_ ≠ j8 ∧ k_ ≠ o7 ∧ k_ ≠ K6 ∧ k_ ≠ F9)) (okp := (fun k_ => (z6 k_ ∨ w.heap.size ≤ k_) ∧ some k_ ≠ (aE5 : Value).ownBlock ∧ k_ ≠ j8 ∧ k_ ≠ o7 ∧ k_ ≠ K6 ∧ k_ ≠ F9)) ?hr ?hp (fun _ hk => hk) ((show ∀ k_, w47.heap.size ≤ k_ → (fun k_ => (z6 k_ ∨ w.heap.size ≤ k_) ∧ some k_ ≠ (aE5 : Value).ownBlock ∧ k_ ≠ j8 ∧ k_ ≠ o7 ∧ k_ ≠ K6 ∧ k_ ≠ F9) k_ from fun k_ hk => ⟨(.inr (Nat.le_trans (bZ) hk)), Kd.fresh' (Kd.cs6 (nO a04)) k_ hk, (kG j5) k_ hk, (kG j7) k_ hk, (kG E7) k_ hk, (kG F7) k_ hk⟩) _ (Nat.le_refl _)) (Below.refl _ _) (Nat.le_refl _) (by simp) ?_; (case hd => rfl); (case hg => rfl); (case hr => first | (go_simp; done) | (go_simp; rfl)); (case hp => exact (M4.none _ _))
      intro aE8 w49 b43 hb hg_ X3
      clear hg_ X3
      (first | rw [← b74.out] at b43 | (simp only [Int.reduceToNat] at b43; rw [← b74.out] at b43))
      replace J5 := j4.mk (Kd.P3 (vO J5) (Kd.ab2 b43) hb)
      replace a04 := j4.mk (Kd.bo0 (nO a04) (Kd.ab2 b43) hb)
      have a78 := j4.mk (Kd.aq2 b43 (bZ))
      replace j5 := kS j5 hb
      replace j7 := kS j7 hb
      replace E7 := kS E7 hb
      replace F7 := kS F7 hb
      replace HB := bS hb
      clear hb b43
      refine kO 42 hK (fun hHeld => ?_)
      clear hK K
      refine on 3 (some 45) (fun K hK => ?_)
      refine Kd.ak1 U7 (w0 := w) w.heap.size (by rfl) (.tmp 42) (.tmp 44) 78 117 (.agg #[(.int .i64 0), (.string ⟨#[]⟩), (.string ⟨#[]⟩), (.slice none 0 0), (.slice none 0 0)]) 88 rfl Tryz.underlying78 ak2 rfl I1 (by omega) aE8 aV8 C8 _ _ _ (fun k_ => (z6 k_ ∨ w.heap.size ≤ k_) ∧ some k_ ≠ (aE5 : Value).ownBlock ∧ k_ ≠ j8 ∧ k_ ≠ o7 ∧ k_ ≠ K6 ∧ k_ ≠ F9) (fun k_ => ((fun k_ => (z6 k_ ∨ w.heap.size ≤ k_) ∧ some k_ ≠ (aE5 : Value).ownBlock ∧ k_ ≠ j8 ∧ k_ ≠ o7 ∧ k_ ≠ K6 ∧ k_ ≠ F9)) k_ ∧ some k_ ≠ (aE8 : Value).ownBlock) rfl rfl ?aO ?aR (fun _ hk => hk) ?aF ?aB ?aS ?aL ?_
      (case aR => exact (by skip; exact Kd.V_F (Kd.J8 (ok' := (fun k_ => ((fun k_ => (z6 k_ ∨ w.heap.size ≤ k_) ∧ some k_ ≠ (aE5 : Value).ownBlock ∧ k_ ≠ j8 ∧ k_ ≠ o7 ∧ k_ ≠ K6 ∧ k_ ≠ F9)) k_ ∧ some k_ ≠ (aE8 : Value).ownBlock)) (J5.out) (fun k_ hk => ⟨⟨hk.1.1.1, ⟨hk.1.2, ⟨hk.1.1.2.2.2.1, ⟨hk.1.1.2.2.2.2.1, ⟨hk.1.1.2.2.2.2.2.1, hk.1.1.2.2.2.2.2.2⟩⟩⟩⟩⟩, hk.2⟩))))
      (case aB => exact zB)
      (case aF => exact (fun k_ hk => ⟨(.inr (Nat.le_trans (bZ) hk)), Kd.fresh' (Kd.cs6 (nO a04)) k_ hk, (kG j5) k_ hk, (kG j7) k_ hk, (kG E7) k_ hk, (kG F7) k_ hk⟩))
      (case aO => exact (nO a78))
      (case aS => exact (bZ))
      (case aL => have := cG6.out; omega)
      intro aK0 w51 ho hb hg hat
      rw [← bq4.out] at ho
      replace J5 := j4.mk (Kd.D5 (ok := (fun k_ => (z6 k_ ∨ w.heap.size ≤ k_) ∧ some k_ ≠ (aE5 : Value).ownBlock ∧ k_ ≠ j8 ∧ k_ ≠ o7 ∧ k_ ≠ K6 ∧ k_ ≠ F9)) (fV J5) hg hat)
      replace j5 := bN j5 a78 hg
      replace j7 := bN j7 a78 hg
      replace E7 := bN E7 a78 hg
      replace F7 := j4.mk (I4 (g := F9) (o := .cells #[.int .i64 (wrap64 (r0 + 1)), .string R8, .string Y1, .slice aE6 J0.length aE7, .slice ao4 aa4.length am3] 117 (0, 0)) (kQ F7) hg (Kd.aJ2 a78.out (fun _ hk => hk.2.2.2.2.2)))
      replace a04 := j4.mk (Kd.bo1 (ok := (fun k_ => (z6 k_ ∨ w.heap.size ≤ k_) ∧ k_ ≠ j8 ∧ k_ ≠ o7 ∧ k_ ≠ K6 ∧ k_ ≠ F9)) (nO a04) hg hat)
      replace HB := j4.mk (hb)
      have V8 := j4.mk (ho)
      clear a78 ho hb hg hat
      refine kO 45 hK (fun hHeld => ?_)
      clear hK K
      exact aw9 (by simp only [ae5, Act.put, List.setIfInBounds_toArray, List.set_cons_zero, List.set_cons_succ]) (az5 (aE8, aK0, aE5) _ ⟨hHeld, (nO V8), (fN a04), (fV J5), (kQ j5), (kQ j7), (kQ E7), (kQ F7), zB⟩)
    rintro ⟨aE8, aK0, aE5⟩ w52 ⟨hS_, h0_, h1_, h2_, h3_, h4_, h5_, h6_, h7_⟩
    have V8 : j4 (Kd.N U7 117 w52 w.heap.size (fun k_ => (z6 k_ ∨ w.heap.size ≤ k_) ∧ some k_ ≠ (aE5 : Value).ownBlock ∧ k_ ≠ j8 ∧ k_ ≠ o7 ∧ k_ ≠ K6 ∧ k_ ≠ F9) aK0 ag9) := ⟨h0_⟩
    have a04 : j4 (Kd.N U7 117 w52 w.heap.size (fun k_ => (z6 k_ ∨ w.heap.size ≤ k_) ∧ some k_ ≠ (aK0 : Value).ownBlock ∧ k_ ≠ j8 ∧ k_ ≠ o7 ∧ k_ ≠ K6 ∧ k_ ≠ F9) aE5 aV6) := ⟨h1_⟩
    replace J5 : j4 (Kd.V U7 117 w52 w.heap.size (fun k_ => (z6 k_ ∨ w.heap.size ≤ k_) ∧ some k_ ≠ (aK0 : Value).ownBlock ∧ some k_ ≠ (aE5 : Value).ownBlock ∧ k_ ≠ j8 ∧ k_ ≠ o7 ∧ k_ ≠ K6 ∧ k_ ≠ F9) (.slice ae2 C8.length W4) C8) := ⟨h2_⟩
    replace j5 : j4 (w52.heap[j8]? = some (.cells #[.int .i64 (wrap64 (r0 + 1)), .slice ae2 C8.length W4] 80 (0, 0))) := ⟨h3_⟩
    replace j7 : j4 (w52.heap[o7]? = some (.cells #[.string R8, .string Y1, .slice aU5 ad4.length aR2, .slice aR3 am2.length aR4] 35 (0, 0))) := ⟨h4_⟩
    replace E7 : j4 (w52.heap[K6]? = some (.cells #[.int .i64 0, .slice none 0 0] 80 (0, 0))) := ⟨h5_⟩
    replace F7 : j4 (w52.heap[F9]? = some (.cells #[.int .i64 (wrap64 (r0 + 1)), .string R8, .string Y1, .slice aE6 J0.length aE7, .slice ao4 aa4.length am3] 117 (0, 0))) := ⟨h6_⟩
    replace HB : j4 (Below w.heap.size w w52) := ⟨h7_⟩
    clear K3 P1 h0_ h1_ h2_ h3_ h4_ h5_ h6_ h7_
    have hHeld : w52.cell? ⟨j8, 0, none⟩ = some (.int .i64 (wrap64 (r0 + 1))) ∧ w52.cell? ⟨j8, 1, none⟩ = some (.slice ae2 C8.length W4) ∧ w52.cell? ⟨F9, 0, none⟩ = some (.int .i64 (wrap64 (r0 + 1))) ∧ w52.cell? ⟨F9, 1, none⟩ = some (.string R8) ∧ w52.cell? ⟨F9, 2, none⟩ = some (.string Y1) ∧ w52.cell? ⟨F9, 3, none⟩ = some (.slice aE6 J0.length aE7) ∧ w52.cell? ⟨F9, 4, none⟩ = some (.slice ao4 aa4.length am3) := hS_
    obtain ⟨ae7, ae8, cu5⟩ := Kd.ax1 a04.out
    (first | subst cu5 | (injection cu5 with f1_ f2_ f3_; have f4_ := f1_.symm; have f5_ := f3_.symm; clear f1_ f2_ f3_; subst f4_; subst f5_))
    refine aw9 (a' := ?_) ?_ ?_
    rotate_left
    ·simp only [ae5, Act.put, List.setIfInBounds_toArray, List.set_cons_zero, List.set_cons_succ]
     rfl
    refine on 6 (some 48) (fun K hK => ?_)
    refine Kd.ak1 U7 (w0 := w) w.heap.size (by rfl) (.tmp 45) (.tmp 47) 78 117 (.agg #[(.int .i64 0), (.string ⟨#[]⟩), (.string ⟨#[]⟩), (.slice none 0 0), (.slice none 0 0)]) 88 rfl Tryz.underlying78 ak2 rfl I1 (by omega) aK0 ag9 aV6 _ _ _ (fun k_ => (z6 k_ ∨ w.heap.size ≤ k_) ∧ k_ ≠ j8 ∧ k_ ≠ o7 ∧ k_ ≠ K6 ∧ k_ ≠ F9) (fun k_ => ((fun k_ => (z6 k_ ∨ w.heap.size ≤ k_) ∧ k_ ≠ j8 ∧ k_ ≠ o7 ∧ k_ ≠ K6 ∧ k_ ≠ F9)) k_ ∧ some k_ ≠ (aK0 : Value).ownBlock) rfl rfl ?aO ?aR (fun _ hk => hk) ?aF ?aB ?aS ?aL ?_
    (case aR => exact (by skip; exact Kd.N_F (Kd.ad1 (ok' := (fun k_ => ((fun k_ => (z6 k_ ∨ w.heap.size ≤ k_) ∧ k_ ≠ j8 ∧ k_ ≠ o7 ∧ k_ ≠ K6 ∧ k_ ≠ F9)) k_ ∧ some k_ ≠ (aK0 : Value).ownBlock)) (a04.out) (fun k_ hk => ⟨⟨hk.1, ⟨hk.2.2.1, ⟨hk.2.2.2.1, ⟨hk.2.2.2.2.1, hk.2.2.2.2.2⟩⟩⟩⟩, hk.2.1⟩))))
    (case aB => exact zB)
    (case aF => exact (fun k_ hk => ⟨(.inr (Nat.le_trans (bZ) hk)), (kG j5) k_ hk, (kG j7) k_ hk, (kG E7) k_ hk, (kG F7) k_ hk⟩))
    (case aO => exact (fN V8))
    (case aS => exact (bZ))
    (case aL => have := dJ3.out; omega)
    intro e99 w53 ho hb hg hat
    rw [← df4.out] at ho
    replace J5 := j4.mk (Kd.D5 (ok := (fun k_ => (z6 k_ ∨ w.heap.size ≤ k_) ∧ some k_ ≠ (.slice ae7 aV6.length ae8 : Value).ownBlock ∧ k_ ≠ j8 ∧ k_ ≠ o7 ∧ k_ ≠ K6 ∧ k_ ≠ F9)) (fV J5) hg hat)
    replace j5 := bN j5 V8 hg
    replace j7 := bN j7 V8 hg
    replace E7 := bN E7 V8 hg
    replace F7 := j4.mk (I4 (g := F9) (o := .cells #[.int .i64 (wrap64 (r0 + 1)), .string R8, .string Y1, .slice aE6 J0.length aE7, .slice ao4 aa4.length am3] 117 (0, 0)) (kQ F7) hg (Kd.aJ2 V8.out (fun _ hk => hk.2.2.2.2.2)))
    replace a04 := j4.mk (Kd.bo1 (ok := (fun k_ => (z6 k_ ∨ w.heap.size ≤ k_) ∧ k_ ≠ j8 ∧ k_ ≠ o7 ∧ k_ ≠ K6 ∧ k_ ≠ F9)) (fN a04) hg hat)
    replace HB := j4.mk (hb)
    have S5 := j4.mk (ho)
    clear V8 ho hb hg hat
    obtain ⟨dr8, dr9, cV6⟩ := Kd.ax1 S5.out
    (first | subst cV6 | (injection cV6 with f1_ f2_ f3_; have f4_ := f1_.symm; have f5_ := f3_.symm; clear f1_ f2_ f3_; subst f4_; subst f5_))
    refine kO 48 hK (fun hHeld => ?_)
    clear hK K
    refine pu 7 49 ?_
    refine bz5 (i := 8) (N := none) #[true, true, true, true, true, true, true, true, true] rfl rfl (bb1 HT_.out z2_) I1 (fun K hK => ?_)
    have eE8 : w53.cell? ⟨j8, 1, none⟩ = some (.slice ae2 C8.length W4) := (l7 j5.out 1).trans rfl
    have ep2 := z7 j5.out 1
    have e41 := D3.out
    have e42 := aB0.out
    have e44 := ah7.out
    have e46 := D1.out
    have e47 := aA9.out
    have e48 := af2.out
    refine sk ?_
    refine hK.out _ _ ?_
    clear hK K
    refine au9 (ah0 HT_.out z2_) ?_
    have df5 := cz2 j5.out
    have df6 := fz2 j5.out
    have cE9 := aq6.out
    have cF0 := aq7.out
    have bQ3 := cz2 E7.out
    have bQ4 := fz2 E7.out
    try go_wp2
    refine bodyPost_ret (results_cell_row rfl _ _ K6 80 #[.int .i64 (wrap64 (r0 + 1)), .slice dr8 dJ4.length dr9] (0, 0) _ rfl (kQ E7) Tryz.underlying80 rfl z2_) rfl ?_
    exact ⟨_, zr, fN S5, zB⟩
end Go.Proofs.YtbncnjgflhoneaaGreatDoor.F
