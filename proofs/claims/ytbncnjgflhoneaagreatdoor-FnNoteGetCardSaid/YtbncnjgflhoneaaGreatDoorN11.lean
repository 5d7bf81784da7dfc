/- Of this claim, merged by program: F98, F50, HOf. -/
import Derived.Test.YtbncnjgflhoneaaGreatDoorN02
import Derived.Test.YtbncnjgflhoneaaGreatDoorN04
import Derived.Test.YtbncnjgflhoneaaGreatDoorN05
import Derived.Test.YtbncnjgflhoneaaGreatDoorN06
import Derived.Test.YtbncnjgflhoneaaGreatDoorN07
import Derived.Test.YtbncnjgflhoneaaGreatDoorN08
import Derived.Test.YtbncnjgflhoneaaGreatDoorN10
set_option linter.unusedVariables false
set_option linter.unusedSimpArgs false
namespace Go.Proofs.YtbncnjgflhoneaaGreatDoor.F
open Go.RowKit Go.Proofs.YtbncnjgflhoneaaGreatDoor.Hand Go.Proofs.YtbncnjgflhoneaaGreatDoorW.l8 Go.Proofs.YtbncnjgflhoneaaGreatDoorW.s9 Go.Proofs.YtbncnjgflhoneaaGreatDoorW.y9
def N7.l0 : Nat → Int → Int → List (G9) → Int → List (G9) → Option (Int × (List (G9)))
 | 0, _, _, _, _, _ => none
 | k + 1, x4, a14, X5, ci5, bI8 => if x4 < (X5.length : Int) then (if 0 ≤ x4 then ((I0.f ((o9 X5 x4).f0) ((o9 X5 x4).f1.f0) ((o9 X5 x4).f1.f1) ((o9 X5 x4).f2) ((o9 X5 x4).f3)).bind fun am7 => (if bI8.length < 1599289640401 then (N7.l0 k (wrap64 (x4 + 1)) a14 X5 ci5 (bI8 ++ [(⟨am7.1, (⟨am7.2.1, am7.2.2.1⟩ : G6), am7.2.2.2.1, am7.2.2.2.2⟩ : G9)])) else (none))) else (none)) else (some (ci5, bI8))
def N7.f (k : Nat) (r0 : Int) (C8 : List (G9)) : Option (Int × (List (G9))) := N7.l0 k 0 r0 C8 r0 ([] : List (G9))
def N7.T5 : Bool × List (List Nat × List Nat) := (true, [([], []), ([0], [0]), ([], []), ([2], [2]), ([], []), ([3, 4], [3, 4]), ([5], [5]), ([6], [6]), ([7], [7]), ([1, 8, 7], [1, 8]), ([0, 1, 2, 3, 4, 5, 6, 7, 8, 9], []), ([10, 9, 9, 0, 1, 2, 3, 4, 5, 6, 7, 8, 9], [9, 10])])
def N7.B5 : List Nat := [0, 1, 0, 4, 0, 28, 60, 124, 252, 511, 1023, 2047]
theorem N7.c00 : aq1 .any (opsOf Tryz.f98 5) = N7.T5 := by kernel_rfl
theorem N7.bp9 : af3 N7.T5.2 N7.B5 = true := by kernel_rfl
set_option maxHeartbeats 8000000 in
set_option maxRecDepth 100000 in
theorem N7.calls (k : Nat) (r0 : Int) (ae2 : Option Addr) (W4 : Nat) (C8 : List (G9)) (r1 : Int) (r2 : List (G9)) (w : World) (be9 : Kd.C U7 w ae2 C8.length C8) (bf0 : C8.length ≤ W4) (h : N7.f k r0 C8 = some (r1, r2)) :
  Calls Tryz.prog 98 #[.agg #[.int .i64 r0, .slice ae2 C8.length W4]] w fun e w' => ∃ v1_ : Value, e = .returned (.agg #[.int .i64 r1, v1_]) ∧ Kd.S U7 117 w' w.heap.size (fun _ => True) v1_ r2 ∧ Below w.heap.size w w' := by
 have bZ9 := Tryz.underlying80
 have cg2 := Tryz.underlying117
 have df2 := j4.mk be9
 have dI2 := j4.mk bf0
 clear be9 bf0
 have HB := j4.mk (Below.refl w.heap.size w)
 have H := h
 clear h
 unfold N7.f at H
 have H' := j4.mk H
 clear H
 go_enter Tryz.func98, Tryz.ntmps98
 go_wp2_with (first | ((with_reducible refine l9 (N := 1) rfl ?_); refine bx (cs := #[.int .i64 r0, .slice ae2 C8.length W4]) (t := 80) ?_; intro j8 hg w2 o8 hb; have j5 := j4.mk (o8); have L8 := gS hg; have J7 := gS hg; replace HB := bS hb; clear hb o8 hg) | ((with_reducible refine l9 (N := 2) rfl ?_); refine bx (cs := #[.int .i64 0, .slice none 0 0]) (t := 80) ?_; intro o7 hg w3 o8 hb; have j7 := j4.mk (o8); have as7 := gS hg; have al6 := gS hg; have D1 := nS hg j5; have D3 := nG hg j5; replace j5 := kS j5 hb; replace HB := bS hb; clear hb o8 hg; have eI3 := D1.out; have eI4 := D3.out; have dq9 := cz2 j5.out; have dr0 := fz2 j5.out) | ((with_reducible refine l9 (N := 3) rfl ?_); refine bx (cs := #[.int .i64 0, .slice none 0 0]) (t := 80) ?_; intro K6 hg w6 o8 hb; have E7 := j4.mk (o8); have cD3 := gS hg; have cD4 := gS hg; have aA9 := nS hg j5; have aB0 := nG hg j5; replace j5 := kS j5 hb; have aI0 := nS hg j7; have aI1 := nG hg j7; replace j7 := kS j7 hb; replace HB := bS hb; clear hb o8 hg; have dP0 := aB0.out; have dP1 := aA9.out; have ef7 := aI1.out; have ef8 := aI0.out; have bZ0 := cz2 E7.out; have bZ1 := fz2 E7.out))
 go_loopg [4] k (fun kq v4 w' => ∃ (I3 : Int) (av2 : List (G9)) (ay3 : Value), v4 = .int .i64 I3 ∧ j4 (N7.l0 kq I3 r0 C8 r0 av2 = some (r1, r2)) ∧ j4 (kq ≤ k) ∧ j4 (Kd.S U7 117 w' w.heap.size (fun _ => True) ay3 av2) ∧ j4 (w'.heap[j8]? = some (.cells #[.int .i64 r0, (.slice ae2 C8.length W4)] 80 (0, 0))) ∧ j4 (w'.heap[o7]? = some (.cells #[.int .i64 0, (.slice none 0 0)] 80 (0, 0))) ∧ j4 (w'.heap[K6]? = some (.cells #[.int .i64 r0, ay3] 80 (0, 0))) ∧ j4 (Below w.heap.size w w'))
 case atStart => exact ⟨(0), (([] : List (G9))), (.slice none 0 0), zs, H', ⟨Nat.le_refl _⟩, ⟨by first | exact Kd.dc5 _ _ _ _ _ | exact Kd.dF3 _ _ _ _ _ | exact Kd.dc8 _ _ _ _ _ | exact Kd.dF4 _ _ _ _ _ | exact Kd.cA0 _ _ _ _ _⟩, ⟨kQ j5⟩, ⟨kQ j7⟩, ⟨kQ E7⟩, ⟨zB⟩⟩
 case round =>
  clear H'
  obtain ⟨I3, av2, ay3, rfl, HA, HK1, a61, j5, j7, E7, HB⟩ := hrel
  cases gk with
  | zero => exact absurd HA.out (by simp [N7.l0])
  | succ k1 =>
   have H := HA.out
   clear HA
   simp only [N7.l0] at H
   replace H := K2 H; rcases H with ⟨aF1, H⟩ | ⟨aF1, H⟩
   ·replace H := S1 H; obtain ⟨aV1, H⟩ := H
    replace H := S2 H; obtain ⟨⟨t105, t106, t107, t108, t111⟩, A12, H⟩ := H
    dsimp only at H
    replace H := aj5 H; obtain ⟨cg5, H⟩ := H
    first | (with_reducible replace H := bne (av2 ++ [(⟨t105, (⟨t106, t107⟩ : G6), t108, t111⟩ : G9)] : List (G9)) H; obtain ⟨bb8, bB0, H⟩ := H) | (generalize V5 : (av2 ++ [(⟨t105, (⟨t106, t107⟩ : G6), t108, t111⟩ : G9)] : List (G9)) = bb8 at H; have bB0 := j4.mk V5.symm; clear V5)
    have H' := j4.mk H
    clear H
    have ch8 := D1.out
    have ch9 := D3.out
    have dk4 := aA9.out
    have dk5 := aB0.out
    have br3 := cz2 j5.out
    have br4 := fz2 j5.out
    try go_wp2
    replace a61 := j4.mk (Kd.bn6 a61.out)
    replace j5 := j4.mk (I7 j5.out)
    replace j7 := j4.mk (I7 j7.out)
    replace E7 := j4.mk (I7 E7.out)
    replace HB := j4.mk (E9 HB.out)
    have au1 : 0 ≤ (I3 : Int) := of_decide_eq_true za
    have au2 : I3 < (C8.length : Int) := of_decide_eq_true za
    obtain ⟨av1, cJ6, cJ7, cJ8, cJ9, b40, af5, aq8, bj6, bj7, bj8, ci6, ci7, ci8, ci9⟩ := ax2 df2.out I3 au1 au2
    have b80 := bj8
    have b81 := bj7
    have b82 := bj6
    have b83 := aq8
    have b84 := af5
    cases b40
    replace af5 := kx HB af5
    replace aq8 := kx HB aq8
    replace bj6 := kx HB bj6
    replace bj7 := kx HB bj7
    replace bj8 := kx HB bj8
    have cj0 := j4.mk ci7
    have cX8 := j4.mk ci6
    clear ci7 ci6
    have cj1 := j4.mk ci9
    have cX9 := j4.mk ci8
    clear ci9 ci8
    replace au1 := eq_true au1
    replace au2 := eq_true au2
    refine ah3 (n := 12) (S := fun w' => w'.cell? ⟨K6, 0, none⟩ = some (.int .i64 r0) ∧ w'.cell? ⟨K6, 1, none⟩ = some (ay3) ∧ w'.cell? ⟨j8, 0, none⟩ = some (.int .i64 r0) ∧ w'.cell? ⟨j8, 1, none⟩ = some (.slice (some av1) C8.length W4) ∧ w'.cell? (av1.add ((I3).toNat * 5)) = some (.int .i64 ((o9 C8 I3).f0)) ∧ w'.cell? ⟨(av1.add ((I3).toNat * 5)).block, (av1.add ((I3).toNat * 5)).off + 1, none⟩ = some (.string ((o9 C8 I3).f1.f0)) ∧ w'.cell? ⟨(av1.add ((I3).toNat * 5)).block, (av1.add ((I3).toNat * 5)).off + 2, none⟩ = some (.string ((o9 C8 I3).f1.f1)) ∧ w'.cell? ⟨(av1.add ((I3).toNat * 5)).block, (av1.add ((I3).toNat * 5)).off + 3, none⟩ = some (.slice cJ6 ((o9 C8 I3).f2).length cJ7) ∧ w'.cell? ⟨(av1.add ((I3).toNat * 5)).block, (av1.add ((I3).toNat * 5)).off + 4, none⟩ = some (.slice cJ8 ((o9 C8 I3).f3).length cJ9)) (ds := [11]) #[false, false, false, false, false, false, false, false, false, false, false, false] z2_ rfl rfl ⟨(l7 E7.out 0).trans rfl, (l7 E7.out 1).trans rfl, (l7 j5.out 0).trans rfl, (l7 j5.out 1).trans rfl, (kx HB b84), (kx HB b83), (kx HB b82), (kx HB b81), (kx HB b80)⟩ (fun hHeld => ?_); refine a60 N7.c00 N7.bp9 (fun HT_ HW_ => ?_)
    generalize wr.drew = w17 at a61 j5 j7 E7 HB cj0 cj1 af5 aq8 bj6 bj7 bj8 hHeld ⊢
    refine pu 0 15 ?_
    refine pu 2 17 ?_
    refine pu 4 19 ?_
    refine ta 1 16 ?_
    refine ta 3 18 ?_
    refine pu 5 20 ?_
    refine ta 6 21 ?_
    refine on 7 (some 22) (fun K hK => ?_)
    refine ar2 Tryz.func132 z2_ rfl #[.agg #[.int .i64 ((o9 C8 I3).f0), .string ((o9 C8 I3).f1.f0), .string ((o9 C8 I3).f1.f1), .slice cJ6 ((o9 C8 I3).f2).length cJ7, .slice cJ8 ((o9 C8 I3).f3).length cJ9]] (by rfl) rfl rfl zm ?_
    with_reducible refine (I0.calls ((o9 C8 I3).f0) ((o9 C8 I3).f1.f0) ((o9 C8 I3).f1.f1) _ _ ((o9 C8 I3).f2) _ _ ((o9 C8 I3).f3) t105 t106 t107 t108 t111 _ ?a92 ?ad2 ?aN8 ?aN9 A12.out).mono ?_
    (case a92 => exact (by repeat (first | exact (Kd.a79 cj0.out HB.out) | (with_reducible refine Kd.K4 ?_ _) | (with_reducible refine Kd.K5 ?_ _) | (with_reducible refine Kd.Q1 ?_))))
    (case ad2 => exact cX8.out)
    (case aN8 => exact (by repeat (first | exact (Kd.a79 cj1.out HB.out) | (with_reducible refine Kd.K4 ?_ _) | (with_reducible refine Kd.K5 ?_ _) | (with_reducible refine Kd.Q1 ?_))))
    (case aN9 => exact cX9.out)
    rintro e w18 ⟨v109, eI5, rfl, ho0, ho1, hb⟩
    refine ⟨_, rfl, ?_⟩
    replace a61 := j4.mk (Kd.b36 (Kd.cB1 (Kd.cB1 (Kd.dE3 (by (with_reducible repeat (first | apply Kd.bI9 | apply Kd.bJ0 | apply Kd.bn6)); exact a61.out) hb) (Kd.J6 ho0)) (Kd.J6 ho1)) (fun _ h_ => h_.1))
    have bA2 := lS ho0
    have cj2 := lS ho1
    replace j5 := kS j5 hb
    replace j7 := kS j7 hb
    replace E7 := kS E7 hb
    replace HB := bS hb
    (try clear hb)
    (try clear hb2)
    (try clear hk)
    (try clear hi)
    (try clear ho0)
    (try clear ho1)
    obtain ⟨bx8, bx9, br5⟩ := Kd.s7 bA2.out
    (first | subst br5 | (injection br5 with f1_ f2_ f3_; have f4_ := f1_.symm; have f5_ := f3_.symm; clear f1_ f2_ f3_; subst f4_; subst f5_))
    obtain ⟨bI7, bb9, bS3⟩ := Kd.s7 cj2.out
    (first | subst bS3 | (injection bS3 with f1_ f2_ f3_; have f4_ := f1_.symm; have f5_ := f3_.symm; clear f1_ f2_ f3_; subst f4_; subst f5_))
    refine kO 22 hK (fun hHeld => ?_) ⟨(l7 E7.out 0).trans rfl, (l7 E7.out 1).trans rfl, (l7 j5.out 0).trans rfl, (l7 j5.out 1).trans rfl, (kx HB b84), (kx HB b83), (kx HB b82), (kx HB b81), (kx HB b80)⟩
    clear hK K
    refine on 8 (some 23) (fun K hK => ?_)
    refine bF9 (w1 := ?_) (v := ?_) (by rfl) rfl ?_ ?_
    rotate_left 2
    ·go_simp
     constructor
     ·rfl
     ·rfl
    refine kO 23 hK (fun hHeld => ?_) ⟨(l7 (ac8 E7.out _) 0).trans rfl, (l7 (ac8 E7.out _) 1).trans rfl, (l7 (ac8 j5.out _) 0).trans rfl, (l7 (ac8 j5.out _) 1).trans rfl, (World.cell?_alloc_lt _ _ _ (World.block_lt_of_cell? _ _ ((kx HB b84)))).trans ((kx HB b84)), (World.cell?_alloc_lt _ _ _ (World.block_lt_of_cell? _ _ ((kx HB b83)))).trans ((kx HB b83)), (World.cell?_alloc_lt _ _ _ (World.block_lt_of_cell? _ _ ((kx HB b82)))).trans ((kx HB b82)), (World.cell?_alloc_lt _ _ _ (World.block_lt_of_cell? _ _ ((kx HB b81)))).trans ((kx HB b81)), (World.cell?_alloc_lt _ _ _ (World.block_lt_of_cell? _ _ ((kx HB b80)))).trans ((kx HB b80))⟩
    clear hK K
    refine on 9 (some 24) (fun K hK => ?_)
    refine Kd.bw3 U7 (w0 := w) w.heap.size (by rfl) (.tmp 16) (.tmp 23) 78 117 (.agg #[(.int .i64 0), (.string ⟨#[]⟩), (.string ⟨#[]⟩), (.slice none 0 0), (.slice none 0 0)]) 88 rfl Tryz.underlying78 ak2 rfl I1 (by omega) ay3 av2 (⟨t105, (⟨t106, t107⟩ : G6), t108, t111⟩ : G9) [.int .i64 t105, .string t106, .string t107, .slice bx8 t108.length bx9, .slice bI7 t111.length bb9] (fun _ => True) (fun k_ => some k_ = (.slice bx8 t108.length bx9 : Value).ownBlock ∨ some k_ = (.slice bI7 t111.length bb9 : Value).ownBlock) rfl rfl ?aP (fun k_ hk_ => hk_.elim (fun h_ => ((Kd.E0 (ok' := fun k_ => ((fun _ => True)) k_ ∧ some k_ ≠ (ay3 : Value).ownBlock) (Kd.V9 (bA2.out) (Kd.bh9 a61.out) I1) (fun k_ hk => ⟨trivial, hk.2⟩))).1 k_ h_.symm) (fun h_ => ((Kd.E0 (ok' := fun k_ => ((fun _ => True)) k_ ∧ some k_ ≠ (ay3 : Value).ownBlock) (Kd.V9 (cj2.out) (Kd.bh9 a61.out) I1) (fun k_ hk => ⟨trivial, hk.2⟩))).1 k_ h_.symm)) ?aF ?aO ?aB ?aS ?aL ?_
    (case aP => exact cC8 _ _ _ (⟨t105, (⟨t106, t107⟩ : G6), t108, t111⟩ : G9) (Kd.E0 (Kd.bG1 rfl (Kd.E0 (ok' := fun k_ => ((fun _ => True)) k_ ∧ some k_ ≠ (ay3 : Value).ownBlock) (Kd.V9 (bA2.out) (Kd.bh9 a61.out) I1) (fun k_ hk => ⟨trivial, hk.2⟩))) (fun _ h_ => Or.inl h_)) (Kd.E0 (Kd.bG1 rfl (Kd.E0 (ok' := fun k_ => ((fun _ => True)) k_ ∧ some k_ ≠ (ay3 : Value).ownBlock) (Kd.V9 (cj2.out) (Kd.bh9 a61.out) I1) (fun k_ hk => ⟨trivial, hk.2⟩))) (fun _ h_ => Or.inr (h_))))
    (case aB => exact zB)
    (case aF => exact (fun _ _ => trivial))
    (case aO => exact (by (with_reducible repeat (first | apply Kd.bI9 | apply Kd.bJ0 | apply Kd.bn6)); exact Kd.b36 a61.out (fun k_ hk => ⟨trivial, fun e_ => e_.elim (fun h_ => hk.1.2 h_) (fun h_ => hk.2 h_)⟩)))
    (case aS => exact (bZ))
    (case aL => have := cg5.out; omega)
    intro cW6 w19 ho hb hg hat
    rw [← bB0.out] at ho
    replace j5 := j4.mk (I4 (g := j8) (o := .cells #[.int .i64 r0, .slice (some av1) C8.length W4] 80 (0, 0)) (kQ j5) hg (Kd.dp6 a61.out j5.out I1))
    replace j7 := j4.mk (I4 (g := o7) (o := .cells #[.int .i64 0, .slice none 0 0] 80 (0, 0)) (kQ j7) hg (Kd.dp6 a61.out j7.out I1))
    replace E7 := j4.mk (I4 (g := K6) (o := .cells #[.int .i64 r0, ay3] 80 (0, 0)) (kQ E7) hg (Kd.dp6 a61.out E7.out I1))
    replace HB := j4.mk (hb)
    have aF4 := j4.mk (ho)
    clear a61 bA2 cj2 ho hb hg hat
    obtain ⟨b44, aZ7, bh3⟩ := Kd.cb8 aF4.out
    (first | subst bh3 | (injection bh3 with f1_ f2_ f3_; have f4_ := f1_.symm; have f5_ := f3_.symm; clear f1_ f2_ f3_; subst f4_; subst f5_))
    refine kO 24 hK (fun hHeld => ?_) ⟨(l7 E7.out 0).trans rfl, (l7 E7.out 1).trans rfl, (l7 j5.out 0).trans rfl, (l7 j5.out 1).trans rfl, (kx HB b84), (kx HB b83), (kx HB b82), (kx HB b81), (kx HB b80)⟩
    clear hK K
    refine pu 10 25 ?_
    refine bz5 (i := 11) (N := none) #[true, true, true, true, true, true, true, true, true, true, true, true] rfl rfl (bb1 HT_.out z2_) I1 (fun K hK => ?_)
    have eI6 : w19.cell? ⟨K6, 1, none⟩ = some (ay3) := (l7 E7.out 1).trans rfl
    have er2 := z7 E7.out 1
    have e57 := aA9.out
    have e58 := aI0.out
    have e59 := aB0.out
    have e60 := aI1.out
    refine sk ?_
    refine hK.out _ _ ?_
    clear hK K
    refine au9 (ah0 HT_.out z2_) ?_
    try go_wp2
    go_roundg k1
    case measure => have := HK1.out; omega
    case rel => exact ⟨(wrap64 (I3 + 1)), (bb8), (.slice b44 bb8.length aZ7), zs, H', ⟨by have := HK1.out; omega⟩, ⟨by (with_reducible repeat (first | apply Kd.bI9 | apply Kd.bJ0 | apply Kd.bn6)); exact Kd.b36 (Kd.cB0 (p := ⟨K6, 1, none⟩) (Kd.cb7 aF4.out E7.out I1) (fun _ hk => hk.2) (.slice b44 bb8.length aZ7)) (fun _ hk => trivial)⟩, ⟨kQ j5⟩, ⟨kQ j7⟩, ⟨kQ E7⟩, ⟨zB⟩⟩
   ·simp only [Option.some.injEq, Prod.mk.injEq] at H
    obtain ⟨rfl, rfl⟩ := H
    have cG0 := D1.out
    have cG1 := D3.out
    have cG2 := aA9.out
    have cG3 := aB0.out
    have bR4 := cz2 j5.out
    have bR5 := fz2 j5.out
    have er3 := aI1.out
    have er4 := aI0.out
    have cK0 := cz2 E7.out
    have cK1 := fz2 E7.out
    have cI9 := cz2 j7.out
    have cJ0 := fz2 j7.out
    obtain ⟨dw9, dx0, dx1⟩ := Kd.cb8 a61.out
    subst dx1
    go_wp2
    refine bodyPost_ret (results_cell_row rfl _ _ o7 80 #[.int .i64 r0, .slice dw9 av2.length dx0] (0, 0) _ rfl (kQ j7) Tryz.underlying80 rfl z2_) rfl ?_
    exact ⟨_, zr, by (with_reducible repeat (first | apply Kd.bI9 | apply Kd.bJ0 | apply Kd.bn6)); exact Kd.b36 (Kd.cB0 (p := ⟨o7, 1, none⟩) (Kd.cB0 (p := ⟨o7, 0, none⟩) (Kd.cb7 a61.out j7.out I1) (fun _ hk => hk.2) (.int .i64 r0)) (fun _ hk => hk.2) (.slice dw9 av2.length dx0)) (fun _ hk => trivial), zB⟩
mutual
def B0.l0 : Nat → Int → Int → List Int → Int → Int → List (G9) → Option (Int × (List (G9)) × Int)
 | 0, _, _, _, _, _, _ => none
 | k + 1, x4, x5, x1000, a34, af9, a82 => if x5 > 0 then ((l6.f k x1000 a34 5).bind fun ay4 => (if (a82.length : Int) = 0 then (B0.j1 k (wrap64 (x4 + ay4.1)) x5 true x1000 ay4.2 af9 a82) else ((l6.f k x1000 ay4.2 2).bind fun aD6 => (B0.j1 k (wrap64 (x4 + ay4.1)) x5 (aD6.1 == 0) x1000 aD6.2 af9 a82)))) else ((N7.f k af9 a82).bind fun am7 => (some (am7.1, am7.2, a34)))
def B0.j1 : Nat → Int → Int → Bool → List Int → Int → Int → List (G9) → Option (Int × (List (G9)) × Int)
 | 0, _, _, _, _, _, _, _ => none
 | k + 1, x4, x5, x29, x1000, a34, af9, a82 => if x29 = true then ((aj6.f af9 a82).bind fun t113 => (if t113 = true then ((C4.f k x1000 a34).bind fun az7 => ((F2.f k af9 a82 az7.1 az7.2.1 az7.2.2.1 az7.2.2.2.1 x4).bind fun bT0 => (B0.l0 k x4 (wrap64 (x5 - 1)) x1000 az7.2.2.2.2 bT0.1 bT0.2))) else (B0.l0 k x4 (wrap64 (x5 - 1)) x1000 a34 af9 a82))) else ((l6.f k x1000 a34 (a82.length : Int)).bind fun ar3 => (if 0 ≤ ar3.1 then (if ar3.1 < (a82.length : Int) then ((l6.f k x1000 ar3.2 (((o9 a82 ar3.1).f2).length : Int)).bind fun cK2 => ((l6.f k x1000 cK2.2 2).bind fun cK3 => (if cK3.1 = 0 then ((Q0.f af9 a82 ar3.1 cK2.1).bind fun bC4 => (B0.l0 k x4 (wrap64 (x5 - 1)) x1000 cK3.2 bC4.1 bC4.2)) else ((Z4.f k af9 a82 ar3.1 cK2.1 x4).bind fun dk6 => (B0.l0 k x4 (wrap64 (x5 - 1)) x1000 cK3.2 dk6.1 dk6.2.1))))) else (none)) else (none)))
end
def B0.f (k : Nat) (L6 : List Int) (a03 : Int) : Option (Int × (List (G9)) × Int) := (l6.f k L6 a03 9).bind fun aa9 => (B0.l0 k 0 aa9.1 L6 aa9.2 0 ([] : List (G9)))
set_option maxHeartbeats 8000000 in
set_option maxRecDepth 100000 in
theorem B0.calls (k : Nat) (g : Nat) (L6 : List Int) (a03 : Int) (r1 : Int) (r2 : List (G9)) (r3 : Int) (w0 w : World) (hI : l5 w0 w g L6 a03) (hB : Below w0.heap.size w0 w) (h : B0.f k L6 a03 = some (r1, r2, r3)) :
  Calls Tryz.prog 50 #[.pointer (some ⟨g, 0, none⟩)] w fun e w' => ∃ v1_ : Value, e = .returned (.agg #[.int .i64 r1, v1_]) ∧ Kd.N U7 117 w' w.heap.size (fun k_ => (w.heap.size ≤ k_)) v1_ r2 ∧ l5 w0 w' g L6 r3 ∧ Below w0.heap.size w0 w' ∧ y5 w w' g none := by
 have bZ9 := Tryz.underlying80
 have HI0 := j4.mk hI
 have bp3 := j4.mk (l5.ge HI0.out)
 have HK := j4.mk (y5.refl w g none)
 have HL := j4.mk hB.size
 clear hI
 have HW0 := j4.mk hB.size
 have HB := j4.mk hB
 clear hB
 have H := h
 clear h
 unfold B0.f at H
 replace H := S2 H; obtain ⟨⟨t103, t104⟩, A2, H⟩ := H
 dsimp only at H
 have H' := j4.mk H
 clear H
 go_enter Tryz.func50, Tryz.ntmps50
 go_wp2_with (first | ((with_reducible refine l9 (N := 2) rfl ?_); refine bx (cs := #[.int .i64 0, .slice none 0 0]) (t := 80) ?_; intro j8 hg w3 o8 hb; have j5 := j4.mk (o8); have L8 := GK HK hg; have J7 := GT HK hg HW0; have a50 := IL HI0 hg; have J1 := IG HI0 hg; replace HI0 := IS HI0 hb; replace HK := KT HK hb; replace HB := bF HB hb; clear hb o8 hg) | ((with_reducible refine l9 (N := 3) rfl ?_); refine bx (cs := #[.int .i64 0, .slice none 0 0]) (t := 80) ?_; intro o7 hg w4 o8 hb; have j7 := j4.mk (o8); have as7 := GK HK hg; have al6 := GT HK hg HW0; have D1 := nS hg j5; have D3 := nG hg j5; replace j5 := kS j5 hb; have ah2 := IL HI0 hg; have S3 := IG HI0 hg; replace HI0 := IS HI0 hb; replace HK := KT HK hb; replace HB := bF HB hb; clear hb o8 hg; have eI7 := D3.out; have eI8 := D1.out; have ef9 := S3.out; have eg0 := ah2.out; have dx2 := cz2 j7.out; have dx3 := fz2 j7.out) | ((with_reducible refine j6 (f := 51) rfl ?_); refine gl 12 Tryz.func51 #[.pointer (some ⟨g, 0, none⟩), .int .i64 9] ((l6.calls (w := _) (w0 := w0) (hI := zI) (hB := zB) (h := A2.out)).mono ?_); rintro e w8 ⟨rfl, hi, hb, hk⟩; refine ⟨_, rfl, ?_⟩; replace j5 := KB hk j5 J1; replace j7 := KP (.cells #[.int .i64 0, .slice none 0 0] 80 (0, 0)) hk j7 S3; replace HK := KS HK hk; replace HI0 := j4.mk (hi); replace HB := j4.mk (hb); clear hb hk hi))
 go_loopg [4, 5] k (fun kq v4 v5 w' => ∃ (I3 : Int) (Z3 : Int) (aQ7 : Int) (ab0 : Int) (R7 : List (G9)) (b85 : Value), v4 = .int .i64 I3 ∧ v5 = .int .i64 Z3 ∧ j4 (B0.l0 kq I3 Z3 L6 aQ7 ab0 R7 = some (r1, r2, r3)) ∧ j4 (kq ≤ k) ∧ j4 (Kd.V U7 117 w' w.heap.size (fun k_ => (w.heap.size ≤ k_) ∧ k_ ≠ j8 ∧ k_ ≠ o7 ∧ k_ ≠ g) b85 R7) ∧ j4 (w'.heap[j8]? = some (.cells #[.int .i64 0, (.slice none 0 0)] 80 (0, 0))) ∧ j4 (w'.heap[o7]? = some (.cells #[.int .i64 ab0, b85] 80 (0, 0))) ∧ j4 (l5 w0 w' g L6 aQ7) ∧ j4 (y5 w w' g none) ∧ j4 (Below w0.heap.size w0 w'))
 case atStart => exact ⟨(0), (t103), (t104), (0), (([] : List (G9))), (.slice none 0 0), zs, zs, H', ⟨Nat.le_refl _⟩, ⟨zn⟩, ⟨kQ j5⟩, ⟨kQ j7⟩, ⟨zI⟩, ⟨zK⟩, ⟨zB⟩⟩
 case round =>
  clear H'
  obtain ⟨I3, Z3, aQ7, ab0, R7, b85, rfl, rfl, HA, HK1, D7, j5, j7, HI0, HK, HB⟩ := hrel
  cases gk with
  | zero => exact absurd HA.out (by simp [B0.l0])
  | succ k1 =>
   have H := HA.out
   clear HA
   simp only [B0.l0] at H
   replace H := K2 H; rcases H with ⟨aF9, H⟩ | ⟨aF9, H⟩
   ·replace H := S2 H; obtain ⟨⟨t109, t110⟩, A10, H⟩ := H
    dsimp only at H
    have dx4 := j4.mk H
    clear H
    go_upto_region 7 with (first | ((with_reducible refine j6 (f := 51) rfl ?_); refine gl 19 Tryz.func51 #[.pointer (some ⟨g, 0, none⟩), .int .i64 5] ((l6.calls (w := _) (w0 := w0) (hI := zI) (hB := zB) (h := A10.out)).mono ?_); rintro e w12 ⟨rfl, hi, hb, hk⟩; refine ⟨_, rfl, ?_⟩; replace D7 := j4.mk (Kd.J8 (Kd.ao6 (Kd.J8 (ok := fun k_ => (((w.heap.size ≤ k_)) ∧ (k_ ≠ j8 ∧ (k_ ≠ o7 ∧ k_ ≠ g)))) (vO D7) (fun k_ hk_ => (⟨hk_, hk_.2.2.2⟩ : _ ∧ k_ ≠ g))) hk (fun _ h => h.2)) (fun _ h => h.1)); replace j5 := KB hk j5 J1; replace j7 := KB hk j7 S3; replace HK := KS HK hk; replace HI0 := j4.mk (hi); replace HB := j4.mk (hb); clear hb hk hi))
    (try simp only [Act.put, List.setIfInBounds_toArray, List.set_cons_zero, List.set_cons_succ])
    go_cut [29] (fun v29 wc => ∃ (kq : Nat) (c30 : Bool) (aW4 : Int), v29 = .bool c30 ∧ j4 (B0.j1 kq (wrap64 (I3 + t109)) Z3 c30 L6 aW4 ab0 R7 = some (r1, r2, r3)) ∧ j4 (kq ≤ k1) ∧ j4 (Kd.V U7 117 wc w.heap.size (fun k_ => (w.heap.size ≤ k_) ∧ k_ ≠ j8 ∧ k_ ≠ o7 ∧ k_ ≠ g) b85 R7) ∧ j4 (wc.heap[j8]? = some (.cells #[.int .i64 0, (.slice none 0 0)] 80 (0, 0))) ∧ j4 (wc.heap[o7]? = some (.cells #[.int .i64 ab0, b85] 80 (0, 0))) ∧ j4 (l5 w0 wc g L6 aW4) ∧ j4 (y5 w wc g none) ∧ j4 (Below w0.heap.size w0 wc))
    case first =>
     have H := dx4.out
     clear dx4
     replace H := a45 H; rcases H with ⟨al5, aV3, H⟩ | ⟨c13, al5, aV3, H⟩
     ·(first | rw [al5] | (simp only [Z1, aa5]; rw [al5]) | skip)
      have H' := j4.mk H
      clear H
      have ch8 := D3.out
      have ch9 := D1.out
      have dk4 := S3.out
      have dk5 := ah2.out
      have br3 := cz2 j7.out
      have br4 := fz2 j7.out
      obtain ⟨br6, bc0, c32⟩ := Kd.aL1 D7.out
      subst c32
      go_wp2
      go_meet
      case rel => exact ⟨_, (true), (t110), zs, H', ⟨by have := HK1.out; first | omega | exact Nat.le_refl _⟩, ⟨vO D7⟩, ⟨kQ j5⟩, ⟨kQ j7⟩, ⟨zI⟩, ⟨zK⟩, ⟨zB⟩⟩
     ·have cD6 : ¬ (R7 = []) := fun h_ => c13 (by rw [h_]; rfl)
      (first | rw [al5] | (simp only [Z1, aa5]; rw [al5]) | skip)
      replace H := S2 H; obtain ⟨⟨t111, t112⟩, A18, H⟩ := H
      dsimp only at H
      have H' := j4.mk H
      clear H
      have di3 := D3.out
      have di4 := D1.out
      have er5 := S3.out
      have er6 := ah2.out
      have dk7 := cz2 j7.out
      have dk8 := fz2 j7.out
      obtain ⟨b44, aZ7, bh3⟩ := Kd.aL1 D7.out
      subst bh3
      go_wp2_with (first | (go_at_call 51; refine (l6.calls (w := _) (w0 := w0) (hI := zI) (hB := zB) (h := A18.out)).mono ?_; rintro e w23 ⟨rfl, hi, hb, hk⟩; replace D7 := j4.mk (Kd.J8 (Kd.ao6 (Kd.J8 (ok := fun k_ => (((w.heap.size ≤ k_)) ∧ (k_ ≠ j8 ∧ (k_ ≠ o7 ∧ k_ ≠ g)))) (vO D7) (fun k_ hk_ => (⟨hk_, hk_.2.2.2⟩ : _ ∧ k_ ≠ g))) hk (fun _ h => h.2)) (fun _ h => h.1)); replace j5 := KB hk j5 J1; replace j7 := KB hk j7 S3; replace HK := KS HK hk; replace HI0 := j4.mk (hi); replace HB := j4.mk (hb); clear hb hk hi))
      go_meet
      case rel => exact ⟨_, ((t111 == 0)), (t112), zs, H', ⟨by have := HK1.out; first | omega | exact Nat.le_refl _⟩, ⟨vO D7⟩, ⟨kQ j5⟩, ⟨kQ j7⟩, ⟨zI⟩, ⟨zK⟩, ⟨zB⟩⟩
    case rest =>
     clear dx4
     obtain ⟨kq, c30, aW4, rfl, HA, bT1, D7, j5, j7, HI0, HK, HB⟩ := hcut
     cases kq with
     | zero => exact absurd HA.out (by simp [B0.j1])
     | succ cv0 =>
      have H := HA.out
      clear HA
      simp only [B0.j1] at H
      replace H := itb H; rcases H with ⟨rfl, H⟩ | ⟨rfl, H⟩
      ·replace H := S2 H; obtain ⟨t113, A25, H⟩ := H
       replace H := itb H; rcases H with ⟨rfl, H⟩ | ⟨rfl, H⟩
       ·replace H := S2 H; obtain ⟨⟨t114, t115, t116, t119, t122⟩, A27, H⟩ := H
        dsimp only at H
        replace H := S2 H; obtain ⟨⟨t123, t124⟩, A28, H⟩ := H
        dsimp only at H
        have H' := j4.mk H
        clear H
        have bB4 := D3.out
        have bB5 := D1.out
        have bp6 := S3.out
        have bp7 := ah2.out
        have bR6 := cz2 j7.out
        have bR7 := fz2 j7.out
        obtain ⟨X6, X2, bx1⟩ := Kd.aL1 D7.out
        subst bx1
        try go_wp2_with (first | ((with_reducible refine j6 (f := 94) rfl ?_); refine gv 31 Tryz.func94 #[.agg #[.int .i64 ab0, .slice X6 R7.length X2]] (aj6.calls (w := _) (be9 := by repeat (first | exact (Kd.S7 D7.out).2.2 | (with_reducible refine Kd.K4 ?_ _) | (with_reducible refine Kd.K5 ?_ _) | (with_reducible refine Kd.Q1 ?_))) (bf0 := (Kd.S7 D7.out).2.1) (h := A25.out)) ?_; intro w33 hb; replace D7 := j4.mk (Kd.aY3 (vO D7) hb); replace j5 := kS j5 hb; replace j7 := kS j7 hb; replace HI0 := IS HI0 hb; replace HK := KT HK hb; replace HB := bF HB hb; clear hb))
        replace D7 := j4.mk (Kd.aA2 D7.out)
        replace j5 := j4.mk (I7 j5.out)
        replace j7 := j4.mk (I7 j7.out)
        replace HI0 := j4.mk (l5.drew HI0.out)
        replace HK := j4.mk (ae9 HK.out)
        replace HB := j4.mk (E9 HB.out)
        refine ah3 (n := 6) (S := fun w' => w'.cell? ⟨o7, 0, none⟩ = some (.int .i64 ab0) ∧ w'.cell? ⟨o7, 1, none⟩ = some (.slice X6 R7.length X2)) (ds := [5]) #[false, false, false, false, false, false] z2_ rfl rfl ⟨(l7 j7.out 0).trans rfl, (l7 j7.out 1).trans rfl⟩ (fun hHeld => ?_)
        generalize w33.drew = w34 at D7 j5 j7 HI0 HK HB hHeld ⊢
        refine pu 1 33 ?_
        refine pu 3 35 ?_
        refine ta 0 32 ?_
        refine on 2 (some 34) (fun K hK => ?_)
        refine ar2 Tryz.func92 z2_ rfl #[.pointer (some ⟨g, 0, none⟩)] (by rfl) rfl rfl zm ?_
        with_reducible refine (C4.calls cv0 g L6 aW4 t114 t115 t116 t119 t122 w0 _ ?a92 ?ad2 A27.out).mono ?_
        (case a92 => repeat (first | (with_reducible first | exact HI0.out | apply l5.alloc | apply l5.drewN | apply l5.drew | apply l5.af6 | refine l5.far ?_ a50.out _ | refine l5.far ?_ ah2.out _) | exact HI0.out))
        (case ad2 => repeat (first | (with_reducible first | exact HB.out | apply P2 | apply J9 | apply E9 | refine I5 ?_ (l5.ge HI0.out) | refine I5 ?_ J7.out | refine I5 ?_ al6.out) | exact HB.out))
        rintro e w35 ⟨v117, dx5, rfl, ho0, ho1, hi, hb, hk⟩
        refine ⟨_, rfl, ?_⟩
        replace D7 := j4.mk (Kd.J8 (Kd.a08 (Kd.a08 (Kd.dq4 (Kd.J8 (ok := fun k_ => (((w.heap.size ≤ k_)) ∧ (k_ ≠ j8 ∧ (k_ ≠ o7 ∧ k_ ≠ g)))) (vO D7) (fun k_ hk_ => (⟨hk_, hk_.2.2.2⟩ : _ ∧ k_ ≠ g))) hk) (Kd.J6 ho0)) (Kd.J6 ho1)) (fun _ h_ => h_.1))
        replace j5 := KB hk j5 J1
        replace j7 := KB hk j7 S3
        have a95 := j4.mk (Kd.T9 (Kd.ao7 (M := fun k_ => (w.heap.size ≤ k_)) ho0 (kZ HK) (fun k_ h_ => h_)) (kZ HK))
        have P0 := j4.mk (Kd.T9 (Kd.ao7 (M := fun k_ => (w.heap.size ≤ k_)) ho1 (kZ HK) (fun k_ h_ => h_)) (kZ HK))
        replace HK := KS HK hk
        replace HB := j4.mk (hb)
        replace HI0 := j4.mk (hi)
        (try clear hb)
        (try clear hb2)
        (try clear hk)
        (try clear hi)
        (try clear ho0)
        (try clear ho1)
        obtain ⟨bx6, bx7, cu7⟩ := Kd.s7 a95.out
        (first | subst cu7 | (injection cu7 with f1_ f2_ f3_; have f4_ := f1_.symm; have f5_ := f3_.symm; clear f1_ f2_ f3_; subst f4_; subst f5_))
        obtain ⟨cY0, cY1, cY2⟩ := Kd.s7 P0.out
        (first | subst cY2 | (injection cY2 with f1_ f2_ f3_; have f4_ := f1_.symm; have f5_ := f3_.symm; clear f1_ f2_ f3_; subst f4_; subst f5_))
        refine kO 34 hK (fun hHeld => ?_)
        clear hK K
        refine on 4 (some 36) (fun K hK => ?_)
        refine ar2 Tryz.func95 z2_ rfl #[.agg #[.int .i64 ab0, .slice X6 R7.length X2], .agg #[.string t114, .string t115, .slice bx6 t116.length bx7, .slice cY0 t119.length cY1], .int .i64 (wrap64 (I3 + t109))] (by rfl) rfl rfl zm ?_
        with_reducible refine (F2.calls cv0 ab0 (fun k_ => ((((w.heap.size ≤ k_) ∧ (k_ ≠ j8 ∧ (k_ ≠ o7 ∧ k_ ≠ g))) ∧ some k_ ≠ (.slice bx6 t116.length bx7 : Value).ownBlock) ∧ some k_ ≠ (.slice cY0 t119.length cY1 : Value).ownBlock)) _ _ R7 t114 t115 _ _ t116 _ _ t119 (wrap64 (I3 + t109)) t123 t124 _ ?a92 ?ad2 ?aN8 ?aN9 ?bO8 A28.out).mono ?_
        (case a92 => exact D7.out)
        (case ad2 => repeat (first | exact (Kd.y7 a95.out).2.2 | (with_reducible refine Kd.K4 ?_ _) | (with_reducible refine Kd.K5 ?_ _) | (with_reducible refine Kd.Q1 ?_)))
        (case aN8 => exact (Kd.y7 a95.out).2.1)
        (case aN9 => repeat (first | exact (Kd.y7 P0.out).2.2 | (with_reducible refine Kd.K4 ?_ _) | (with_reducible refine Kd.K5 ?_ _) | (with_reducible refine Kd.Q1 ?_)))
        (case bO8 => exact (Kd.y7 P0.out).2.1)
        rintro e w38 ⟨aE5, rfl, ho0, hb⟩
        refine ⟨_, rfl, ?_⟩
        replace D7 := j4.mk (Kd.P3 (vO D7) (Kd.ab2 ho0) hb)
        have a04 := j4.mk (Kd.aq2 (Kd.ad1 (ok' := fun k_ => (w.heap.size ≤ k_) ∧ some k_ ≠ (.slice bx6 t116.length bx7 : Value).ownBlock ∧ some k_ ≠ (.slice cY0 t119.length cY1 : Value).ownBlock ∧ k_ ≠ j8 ∧ k_ ≠ o7 ∧ k_ ≠ g) ho0 (fun k_ hk_ => ⟨Or.elim hk_ (fun hs_ => hs_.1.1.1) (fun hn_ => (Nat.le_trans (kZ HK) hn_)), Or.elim hk_ (fun hs_ => hs_.1.2) (fun hn_ => (Kd.fresh' (Kd.aa3 (rO a95)) k_ hn_)), Or.elim hk_ (fun hs_ => hs_.2) (fun hn_ => (Kd.fresh' (Kd.aa3 (rO P0)) k_ hn_)), Or.elim hk_ (fun hs_ => hs_.1.1.2.1) (fun hn_ => ((kG j5) k_ hn_)), Or.elim hk_ (fun hs_ => hs_.1.1.2.2.1) (fun hn_ => ((kG j7) k_ hn_)), Or.elim hk_ (fun hs_ => hs_.1.1.2.2.2) (fun hn_ => (l5.fresh zI k_ hn_))⟩)) (kZ HK))
        replace a95 := rS a95 hb
        replace P0 := rS P0 hb
        replace j5 := kS j5 hb
        replace j7 := kS j7 hb
        replace HI0 := IS HI0 hb
        replace HK := KT HK hb
        replace HB := bF HB hb
        (try clear hb)
        (try clear hb2)
        (try clear hk)
        (try clear hi)
        (try clear ho0)
        obtain ⟨dr5, dr6, ct9⟩ := Kd.ax1 a04.out
        (first | subst ct9 | (injection ct9 with f1_ f2_ f3_; have f4_ := f1_.symm; have f5_ := f3_.symm; clear f1_ f2_ f3_; subst f4_; subst f5_))
        refine kO 36 hK (fun hHeld => ?_)
        clear hK K
        refine bz5 (i := 5) (N := none) #[true, true, true, true, true, true] rfl rfl z2_ I1 (fun K hK => ?_)
        have e61 := cz2 j7.out
        have e62 := fz2 j7.out
        have dP2 := D1.out
        have dP3 := D3.out
        refine sk ?_
        refine hK.out _ _ ?_
        clear hK K
        refine au9 z2_ ?_
        try go_wp2
        go_roundg cv0
        case measure => have := HK1.out; have := bT1.out; omega
        case rel => exact ⟨((wrap64 (I3 + t109))), (wrap64 (Z3 - 1)), (t122), (t123), (t124), (.slice dr5 t124.length dr6), zs, zs, H', ⟨by have := HK1.out; have := bT1.out; omega⟩, ⟨Kd.N_V (fN a04)⟩, ⟨kQ j5⟩, ⟨kQ j7⟩, ⟨zI⟩, ⟨zK⟩, ⟨zB⟩⟩
       ·have H' := j4.mk H
        clear H
        have bP3 := D3.out
        have bP4 := D1.out
        have de2 := S3.out
        have de3 := ah2.out
        have cK4 := cz2 j7.out
        have cK5 := fz2 j7.out
        obtain ⟨dP4, dP5, eg1⟩ := Kd.aL1 D7.out
        subst eg1
        go_wp2_with (first | ((with_reducible refine j6 (f := 94) rfl ?_); refine gv 31 Tryz.func94 #[.agg #[.int .i64 ab0, .slice dP4 R7.length dP5]] (aj6.calls (w := _) (be9 := by repeat (first | exact (Kd.S7 D7.out).2.2 | (with_reducible refine Kd.K4 ?_ _) | (with_reducible refine Kd.K5 ?_ _) | (with_reducible refine Kd.Q1 ?_))) (bf0 := (Kd.S7 D7.out).2.1) (h := A25.out)) ?_; intro w46 hb; replace D7 := j4.mk (Kd.aY3 (vO D7) hb); replace j5 := kS j5 hb; replace j7 := kS j7 hb; replace HI0 := IS HI0 hb; replace HK := KT HK hb; replace HB := bF HB hb; clear hb))
        go_roundg cv0
        case measure => have := HK1.out; have := bT1.out; omega
        case rel => exact ⟨((wrap64 (I3 + t109))), (wrap64 (Z3 - 1)), (aW4), (ab0), (R7), (.slice dP4 R7.length dP5), zs, zs, H', ⟨by have := HK1.out; have := bT1.out; omega⟩, ⟨vO D7⟩, ⟨kQ j5⟩, ⟨kQ j7⟩, ⟨zI⟩, ⟨zK⟩, ⟨zB⟩⟩
      ·replace H := S2 H; obtain ⟨⟨t127, t128⟩, A47, H⟩ := H
       dsimp only at H
       replace H := S1 H; obtain ⟨er7, H⟩ := H
       replace H := S1 H; obtain ⟨dP6, H⟩ := H
       replace H := S2 H; obtain ⟨⟨t130, t131⟩, A50, H⟩ := H
       dsimp only at H
       replace H := S2 H; obtain ⟨⟨t132, t133⟩, A51, H⟩ := H
       dsimp only at H
       replace H := a45 H; rcases H with ⟨dP7, dP8, H⟩ | ⟨c52, dP7, dP8, H⟩
       ·replace H := S2 H; obtain ⟨⟨t134, t135⟩, A53, H⟩ := H
        dsimp only at H
        have H' := j4.mk H
        clear H
        have er8 := D3.out
        have er9 := D1.out
        have dk9 := S3.out
        have dl0 := ah2.out
        have ch3 := cz2 j7.out
        have ch4 := fz2 j7.out
        obtain ⟨cK6, c36, cK7⟩ := Kd.aL1 D7.out
        subst cK7
        go_wp2_with (first | ((with_reducible refine j6 (f := 51) rfl ?_); refine gl 41 Tryz.func51 #[.pointer (some ⟨g, 0, none⟩), .int .i64 (R7.length : Int)] ((l6.calls (w := _) (w0 := w0) (hI := zI) (hB := zB) (h := A47.out)).mono ?_); rintro e w58 ⟨rfl, hi, hb, hk⟩; refine ⟨_, rfl, ?_⟩; replace D7 := j4.mk (Kd.J8 (Kd.ao6 (Kd.J8 (ok := fun k_ => (((w.heap.size ≤ k_)) ∧ (k_ ≠ j8 ∧ (k_ ≠ o7 ∧ k_ ≠ g)))) (vO D7) (fun k_ hk_ => (⟨hk_, hk_.2.2.2⟩ : _ ∧ k_ ≠ g))) hk (fun _ h => h.2)) (fun _ h => h.1)); replace j5 := KB hk j5 J1; replace j7 := KB hk j7 S3; replace HK := KS HK hk; replace HI0 := j4.mk (hi); replace HB := j4.mk (hb); clear hb hk hi; have bQ3 := cz2 j7.out; have bQ4 := fz2 j7.out; have bJ1 : 0 ≤ (t127 : Int) := of_decide_eq_true za; have bJ2 : t127 < (R7.length : Int) := of_decide_eq_true za; obtain ⟨cK8, dx6, dx7, dx8, dx9, e129, cY3, cY4, cY5, bJ3, bJ4, b86, b87, b88, b89⟩ := ax2 (Kd.S7 D7.out).2.2 t127 bJ1 bJ2; cases e129; obtain ⟨dP9, c39, c41, b45⟩ := Kd.bo2 D7.out z117 t127 bJ1 (by first | exact bJ2 | exact of_decide_eq_true za | (have e_ := (Kd.S7 D7.out).1; omega)); obtain ⟨cY6, cY7, cY8, cY9, rfl, aR8, aR9, aS0, aS1⟩ := ak3 c41; have aG9 := b45 3 _ rfl; rw [W5 _ _ 3 (by omega)] at aG9; replace aG9 := Option.some.inj (aG9.symm.trans bJ3); injection aG9 with ai0 aB1 ai1; rw [ai0] at aR9; rw [ai1] at aR8; have al0 := j4.mk (show Kd.V a01 143 _ w.heap.size _ _ ((o9 R7 t127).f2) from Kd.aK5 aR8 aR9); clear ai0 aB1 ai1 aR9 aR8; have aH0 := b45 4 _ rfl; rw [W5 _ _ 4 (by omega)] at aH0; replace aH0 := Option.some.inj (aH0.symm.trans bJ4); injection aH0 with ai0 aB1 ai1; rw [ai0] at aS1; rw [ai1] at aS0; have al1 := j4.mk (show Kd.V Kd.string 9 _ w.heap.size _ _ ((o9 R7 t127).f3) from Kd.aK5 aS0 aS1); clear ai0 aB1 ai1 aS1 aS0 b45 c39; have cZ0 := j4.mk b87; have cZ1 := j4.mk b86; clear b87 b86; have cZ2 := j4.mk b89; have cZ3 := j4.mk b88; clear b89 b88; replace bJ1 := eq_true bJ1; replace bJ2 := eq_true bJ2) | ((with_reducible refine j6 (f := 51) rfl ?_); refine gl 50 Tryz.func51 #[.pointer (some ⟨g, 0, none⟩), .int .i64 (((o9 R7 t127).f2).length : Int)] ((l6.calls (w := _) (w0 := w0) (hI := zI) (hB := zB) (h := A50.out)).mono ?_); rintro e w60 ⟨rfl, hi, hb, hk⟩; refine ⟨_, rfl, ?_⟩; replace D7 := j4.mk (Kd.J8 (Kd.ao6 (Kd.J8 (ok := fun k_ => (((w.heap.size ≤ k_)) ∧ (k_ ≠ j8 ∧ (k_ ≠ o7 ∧ k_ ≠ g)))) (vO D7) (fun k_ hk_ => (⟨hk_, hk_.2.2.2⟩ : _ ∧ k_ ≠ g))) hk (fun _ h => h.2)) (fun _ h => h.1)); replace j5 := KB hk j5 J1; replace j7 := KB hk j7 S3; replace al0 := j4.mk (Kd.J8 (Kd.ao6 (Kd.J8 (ok := fun k_ => (((w.heap.size ≤ k_)) ∧ (k_ ≠ j8 ∧ (k_ ≠ o7 ∧ k_ ≠ g)))) (vO al0) (fun k_ hk_ => (⟨hk_, hk_.2.2.2⟩ : _ ∧ k_ ≠ g))) hk (fun _ h => h.2)) (fun _ h => h.1)); replace al1 := j4.mk (Kd.J8 (Kd.ao6 (Kd.J8 (ok := fun k_ => (((w.heap.size ≤ k_)) ∧ (k_ ≠ j8 ∧ (k_ ≠ o7 ∧ k_ ≠ g)))) (vO al1) (fun k_ hk_ => (⟨hk_, hk_.2.2.2⟩ : _ ∧ k_ ≠ g))) hk (fun _ h => h.2)) (fun _ h => h.1)); replace HK := KS HK hk; replace HI0 := j4.mk (hi); replace HB := j4.mk (hb); clear hb hk hi) | ((with_reducible refine j6 (f := 51) rfl ?_); refine gl 52 Tryz.func51 #[.pointer (some ⟨g, 0, none⟩), .int .i64 2] ((l6.calls (w := _) (w0 := w0) (hI := zI) (hB := zB) (h := A51.out)).mono ?_); rintro e w61 ⟨rfl, hi, hb, hk⟩; refine ⟨_, rfl, ?_⟩; replace D7 := j4.mk (Kd.J8 (Kd.ao6 (Kd.J8 (ok := fun k_ => (((w.heap.size ≤ k_)) ∧ (k_ ≠ j8 ∧ (k_ ≠ o7 ∧ k_ ≠ g)))) (vO D7) (fun k_ hk_ => (⟨hk_, hk_.2.2.2⟩ : _ ∧ k_ ≠ g))) hk (fun _ h => h.2)) (fun _ h => h.1)); replace j5 := KB hk j5 J1; replace j7 := KB hk j7 S3; replace al0 := j4.mk (Kd.J8 (Kd.ao6 (Kd.J8 (ok := fun k_ => (((w.heap.size ≤ k_)) ∧ (k_ ≠ j8 ∧ (k_ ≠ o7 ∧ k_ ≠ g)))) (vO al0) (fun k_ hk_ => (⟨hk_, hk_.2.2.2⟩ : _ ∧ k_ ≠ g))) hk (fun _ h => h.2)) (fun _ h => h.1)); replace al1 := j4.mk (Kd.J8 (Kd.ao6 (Kd.J8 (ok := fun k_ => (((w.heap.size ≤ k_)) ∧ (k_ ≠ j8 ∧ (k_ ≠ o7 ∧ k_ ≠ g)))) (vO al1) (fun k_ hk_ => (⟨hk_, hk_.2.2.2⟩ : _ ∧ k_ ≠ g))) hk (fun _ h => h.2)) (fun _ h => h.1)); replace HK := KS HK hk; replace HI0 := j4.mk (hi); replace HB := j4.mk (hb); clear hb hk hi; have dl1 := cz2 j7.out; have dl2 := fz2 j7.out) | ((with_reducible refine j6 (f := 96) rfl ?_); refine gl 57 Tryz.func96 #[.agg #[.int .i64 ab0, .slice (some cK8) R7.length c36], .int .i64 t127, .int .i64 t130] ((Q0.calls (w := _) (bq0 := D7.out) (h := A53.out)).mono ?_); rintro e w63 ⟨eI9, rfl, ho0, hb⟩; refine ⟨_, rfl, ?_⟩; replace D7 := j4.mk (Kd.P3 (vO D7) (Kd.ab2 ho0) hb); replace al0 := j4.mk (Kd.P3 (vO al0) (Kd.ab2 ho0) hb); replace al1 := j4.mk (Kd.P3 (vO al1) (Kd.ab2 ho0) hb); have dl3 := j4.mk (Kd.aq2 (Kd.ad1 (ok' := fun k_ => (w.heap.size ≤ k_) ∧ k_ ≠ j8 ∧ k_ ≠ o7 ∧ k_ ≠ g) ho0 (fun k_ hk_ => ⟨Or.elim hk_ (fun hs_ => hs_.1) (fun hn_ => (Nat.le_trans (kZ HK) hn_)), Or.elim hk_ (fun hs_ => hs_.2.1) (fun hn_ => ((kG j5) k_ hn_)), Or.elim hk_ (fun hs_ => hs_.2.2.1) (fun hn_ => ((kG j7) k_ hn_)), Or.elim hk_ (fun hs_ => hs_.2.2.2) (fun hn_ => (l5.fresh zI k_ hn_))⟩)) (kZ HK)); replace j5 := kS j5 hb; replace j7 := kS j7 hb; replace HI0 := IS HI0 hb; replace HK := KT HK hb; replace HB := bF HB hb; clear hb ho0; have cF2 := cz2 j7.out; have cF3 := fz2 j7.out; obtain ⟨eg2, eg3, eg4⟩ := Kd.ax1 dl3.out; subst eg4))
        go_roundg cv0
        case measure => have := HK1.out; have := bT1.out; omega
        case rel => exact ⟨((wrap64 (I3 + t109))), (wrap64 (Z3 - 1)), (t133), (t134), (t135), (.slice eg2 t135.length eg3), zs, zs, H', ⟨by have := HK1.out; have := bT1.out; omega⟩, ⟨Kd.N_V (fN dl3)⟩, ⟨kQ j5⟩, ⟨kQ j7⟩, ⟨zI⟩, ⟨zK⟩, ⟨zB⟩⟩
       ·replace H := S2 H; obtain ⟨⟨t138, t139, t142⟩, A66, H⟩ := H
        dsimp only at H
        have H' := j4.mk H
        clear H
        have cI0 := D3.out
        have cI1 := D1.out
        have cf4 := S3.out
        have cf5 := ah2.out
        have bS0 := cz2 j7.out
        have bS1 := fz2 j7.out
        obtain ⟨a83, a65, c23⟩ := Kd.aL1 D7.out
        subst c23
        go_wp2_with (first | ((with_reducible refine j6 (f := 51) rfl ?_); refine gl 41 Tryz.func51 #[.pointer (some ⟨g, 0, none⟩), .int .i64 (R7.length : Int)] ((l6.calls (w := _) (w0 := w0) (hI := zI) (hB := zB) (h := A47.out)).mono ?_); rintro e w71 ⟨rfl, hi, hb, hk⟩; refine ⟨_, rfl, ?_⟩; replace D7 := j4.mk (Kd.J8 (Kd.ao6 (Kd.J8 (ok := fun k_ => (((w.heap.size ≤ k_)) ∧ (k_ ≠ j8 ∧ (k_ ≠ o7 ∧ k_ ≠ g)))) (vO D7) (fun k_ hk_ => (⟨hk_, hk_.2.2.2⟩ : _ ∧ k_ ≠ g))) hk (fun _ h => h.2)) (fun _ h => h.1)); replace j5 := KB hk j5 J1; replace j7 := KB hk j7 S3; replace HK := KS HK hk; replace HI0 := j4.mk (hi); replace HB := j4.mk (hb); clear hb hk hi; have dI0 := cz2 j7.out; have dI1 := fz2 j7.out; have bJ1 : 0 ≤ (t127 : Int) := of_decide_eq_true za; have bJ2 : t127 < (R7.length : Int) := of_decide_eq_true za; obtain ⟨cK8, dx6, dx7, dx8, dx9, e129, cY3, cY4, cY5, bJ3, bJ4, b86, b87, b88, b89⟩ := ax2 (Kd.S7 D7.out).2.2 t127 bJ1 bJ2; cases e129; obtain ⟨dP9, c39, c41, b45⟩ := Kd.bo2 D7.out z117 t127 bJ1 (by first | exact bJ2 | exact of_decide_eq_true za | (have e_ := (Kd.S7 D7.out).1; omega)); obtain ⟨cY6, cY7, cY8, cY9, rfl, aR8, aR9, aS0, aS1⟩ := ak3 c41; have aG9 := b45 3 _ rfl; rw [W5 _ _ 3 (by omega)] at aG9; replace aG9 := Option.some.inj (aG9.symm.trans bJ3); injection aG9 with ai0 aB1 ai1; rw [ai0] at aR9; rw [ai1] at aR8; have al0 := j4.mk (show Kd.V a01 143 _ w.heap.size _ _ ((o9 R7 t127).f2) from Kd.aK5 aR8 aR9); clear ai0 aB1 ai1 aR9 aR8; have aH0 := b45 4 _ rfl; rw [W5 _ _ 4 (by omega)] at aH0; replace aH0 := Option.some.inj (aH0.symm.trans bJ4); injection aH0 with ai0 aB1 ai1; rw [ai0] at aS1; rw [ai1] at aS0; have al1 := j4.mk (show Kd.V Kd.string 9 _ w.heap.size _ _ ((o9 R7 t127).f3) from Kd.aK5 aS0 aS1); clear ai0 aB1 ai1 aS1 aS0 b45 c39; have cZ0 := j4.mk b87; have cZ1 := j4.mk b86; clear b87 b86; have cZ2 := j4.mk b89; have cZ3 := j4.mk b88; clear b89 b88; replace bJ1 := eq_true bJ1; replace bJ2 := eq_true bJ2) | ((with_reducible refine j6 (f := 51) rfl ?_); refine gl 50 Tryz.func51 #[.pointer (some ⟨g, 0, none⟩), .int .i64 (((o9 R7 t127).f2).length : Int)] ((l6.calls (w := _) (w0 := w0) (hI := zI) (hB := zB) (h := A50.out)).mono ?_); rintro e w73 ⟨rfl, hi, hb, hk⟩; refine ⟨_, rfl, ?_⟩; replace D7 := j4.mk (Kd.J8 (Kd.ao6 (Kd.J8 (ok := fun k_ => (((w.heap.size ≤ k_)) ∧ (k_ ≠ j8 ∧ (k_ ≠ o7 ∧ k_ ≠ g)))) (vO D7) (fun k_ hk_ => (⟨hk_, hk_.2.2.2⟩ : _ ∧ k_ ≠ g))) hk (fun _ h => h.2)) (fun _ h => h.1)); replace j5 := KB hk j5 J1; replace j7 := KB hk j7 S3; replace al0 := j4.mk (Kd.J8 (Kd.ao6 (Kd.J8 (ok := fun k_ => (((w.heap.size ≤ k_)) ∧ (k_ ≠ j8 ∧ (k_ ≠ o7 ∧ k_ ≠ g)))) (vO al0) (fun k_ hk_ => (⟨hk_, hk_.2.2.2⟩ : _ ∧ k_ ≠ g))) hk (fun _ h => h.2)) (fun _ h => h.1)); replace al1 := j4.mk (Kd.J8 (Kd.ao6 (Kd.J8 (ok := fun k_ => (((w.heap.size ≤ k_)) ∧ (k_ ≠ j8 ∧ (k_ ≠ o7 ∧ k_ ≠ g)))) (vO al1) (fun k_ hk_ => (⟨hk_, hk_.2.2.2⟩ : _ ∧ k_ ≠ g))) hk (fun _ h => h.2)) (fun _ h => h.1)); replace HK := KS HK hk; replace HI0 := j4.mk (hi); replace HB := j4.mk (hb); clear hb hk hi) | ((with_reducible refine j6 (f := 51) rfl ?_); refine gl 52 Tryz.func51 #[.pointer (some ⟨g, 0, none⟩), .int .i64 2] ((l6.calls (w := _) (w0 := w0) (hI := zI) (hB := zB) (h := A51.out)).mono ?_); rintro e w74 ⟨rfl, hi, hb, hk⟩; refine ⟨_, rfl, ?_⟩; replace D7 := j4.mk (Kd.J8 (Kd.ao6 (Kd.J8 (ok := fun k_ => (((w.heap.size ≤ k_)) ∧ (k_ ≠ j8 ∧ (k_ ≠ o7 ∧ k_ ≠ g)))) (vO D7) (fun k_ hk_ => (⟨hk_, hk_.2.2.2⟩ : _ ∧ k_ ≠ g))) hk (fun _ h => h.2)) (fun _ h => h.1)); replace j5 := KB hk j5 J1; replace j7 := KB hk j7 S3; replace al0 := j4.mk (Kd.J8 (Kd.ao6 (Kd.J8 (ok := fun k_ => (((w.heap.size ≤ k_)) ∧ (k_ ≠ j8 ∧ (k_ ≠ o7 ∧ k_ ≠ g)))) (vO al0) (fun k_ hk_ => (⟨hk_, hk_.2.2.2⟩ : _ ∧ k_ ≠ g))) hk (fun _ h => h.2)) (fun _ h => h.1)); replace al1 := j4.mk (Kd.J8 (Kd.ao6 (Kd.J8 (ok := fun k_ => (((w.heap.size ≤ k_)) ∧ (k_ ≠ j8 ∧ (k_ ≠ o7 ∧ k_ ≠ g)))) (vO al1) (fun k_ hk_ => (⟨hk_, hk_.2.2.2⟩ : _ ∧ k_ ≠ g))) hk (fun _ h => h.2)) (fun _ h => h.1)); replace HK := KS HK hk; replace HI0 := j4.mk (hi); replace HB := j4.mk (hb); clear hb hk hi; have dQ0 := cz2 j7.out; have dQ1 := fz2 j7.out) | ((with_reducible refine j6 (f := 97) rfl ?_); refine gl 63 Tryz.func97 #[.agg #[.int .i64 ab0, .slice (some cK8) R7.length a65], .int .i64 t127, .int .i64 t130, .int .i64 (wrap64 (I3 + t109))] ((Z4.calls (w := _) (bq0 := D7.out) (h := A66.out)).mono ?_); rintro e w76 ⟨eJ0, rfl, ho0, hb⟩; refine ⟨_, rfl, ?_⟩; replace D7 := j4.mk (Kd.aY3 (vO D7) hb); replace al0 := j4.mk (Kd.aY3 (vO al0) hb); replace al1 := j4.mk (Kd.aY3 (vO al1) hb); have cj3 := j4.mk (Kd.cU1 (Kd.J8 (ok' := fun k_ => (w.heap.size ≤ k_) ∧ k_ ≠ j8 ∧ k_ ≠ o7 ∧ k_ ≠ g) ho0 (fun k_ hk_ => ⟨Or.elim hk_ (fun hs_ => hs_.1) (fun hn_ => (Nat.le_trans (kZ HK) hn_)), Or.elim hk_ (fun hs_ => hs_.2.1) (fun hn_ => ((kG j5) k_ hn_)), Or.elim hk_ (fun hs_ => hs_.2.2.1) (fun hn_ => ((kG j7) k_ hn_)), Or.elim hk_ (fun hs_ => hs_.2.2.2) (fun hn_ => (l5.fresh zI k_ hn_))⟩)) (kZ HK)); replace j5 := kS j5 hb; replace j7 := kS j7 hb; replace HI0 := IS HI0 hb; replace HK := KT HK hb; replace HB := bF HB hb; clear hb ho0) | ((with_reducible refine l9 (N := 8) rfl ?_); refine bx (cs := #[.int .i64 0, .slice none 0 0]) (t := 80) ?_; intro es0 hg w77 o8 hb; replace D7 := vE hg D7 hb; replace al0 := vE hg al0 hb; replace al1 := vE hg al1 hb; replace cj3 := vE hg cj3 hb; have dl4 := j4.mk (o8); have es1 := GK HK hg; have es2 := GT HK hg HW0; have cv1 := nS hg j5; have cv2 := nG hg j5; replace j5 := kS j5 hb; have cv3 := nS hg j7; have cv4 := nG hg j7; replace j7 := kS j7 hb; have cZ4 := IL HI0 hg; have cZ5 := IG HI0 hg; replace HI0 := IS HI0 hb; replace HK := KT HK hb; replace HB := bF HB hb; clear hb o8 hg; have dQ2 := cv2.out; have dQ3 := cv1.out; have es3 := cv4.out; have es4 := cv3.out; have es5 := cZ5.out; have es6 := cZ4.out; have dQ4 := cz2 dl4.out; have dQ5 := fz2 dl4.out; obtain ⟨eg5, eg6, eg7⟩ := Kd.aL1 cj3.out; subst eg7; have dQ6 := cz2 j7.out; have dQ7 := fz2 j7.out))
        go_roundg cv0
        case measure => have := HK1.out; have := bT1.out; omega
        case rel => exact ⟨((wrap64 (I3 + t109))), (wrap64 (Z3 - 1)), (t133), (t138), (t139), (.slice eg5 t139.length eg6), zs, zs, H', ⟨by have := HK1.out; have := bT1.out; omega⟩, ⟨fV cj3⟩, ⟨kQ j5⟩, ⟨kQ j7⟩, ⟨zI⟩, ⟨zK⟩, ⟨zB⟩⟩
   ·replace H := S2 H; obtain ⟨⟨t105, t106⟩, A84, H⟩ := H
    dsimp only at H
    simp only [Option.some.injEq, Prod.mk.injEq] at H
    obtain ⟨rfl, rfl, rfl⟩ := H
    have dQ8 := D3.out
    have dQ9 := D1.out
    have es7 := S3.out
    have es8 := ah2.out
    have dL9 := cz2 j7.out
    have dM0 := fz2 j7.out
    obtain ⟨dy0, dy1, dy2⟩ := Kd.aL1 D7.out
    subst dy2
    go_wp2_with (first | ((with_reducible refine j6 (f := 98) rfl ?_); refine gl 68 Tryz.func98 #[.agg #[.int .i64 ab0, .slice dy0 R7.length dy1]] ((N7.calls (w := _) (be9 := by repeat (first | exact (Kd.S7 D7.out).2.2 | (with_reducible refine Kd.K4 ?_ _) | (with_reducible refine Kd.K5 ?_ _) | (with_reducible refine Kd.Q1 ?_))) (bf0 := (Kd.S7 D7.out).2.1) (h := A84.out)).mono ?_); rintro e w89 ⟨v107, rfl, ho0, hb⟩; refine ⟨_, rfl, ?_⟩; have P7 := j4.mk (Kd.aq2 (Kd.ad1 (ok' := fun k_ => (w.heap.size ≤ k_) ∧ k_ ≠ j8 ∧ k_ ≠ o7 ∧ k_ ≠ g) (Kd.S_N (Kd.bG2 ho0)) (fun k_ hk_ => ⟨(Nat.le_trans (kZ HK) hk_.2.1), ((kG j5) k_ hk_.2.1), ((kG j7) k_ hk_.2.1), (l5.fresh zI k_ hk_.2.1)⟩)) (kZ HK)); replace j5 := kS j5 hb; replace j7 := kS j7 hb; replace HI0 := IS HI0 hb; replace HK := KT HK hb; replace HB := bF HB hb; clear hb ho0; have es9 := J1.out; have et0 := a50.out; have et1 := cz2 j5.out; have et2 := fz2 j5.out; obtain ⟨eg8, eg9, eh0⟩ := Kd.ax1 P7.out; subst eh0))
    refine bodyPost_ret (results_cell_row rfl _ _ j8 80 #[.int .i64 t105, .slice eg8 t106.length eg9] (0, 0) _ rfl (kQ j5) Tryz.underlying80 rfl z2_) rfl ?_
    exact ⟨_, zr, fN P7, zI, zB, zK⟩
end Go.Proofs.YtbncnjgflhoneaaGreatDoor.F
namespace Go.Proofs.YtbncnjgflhoneaaGreatDoor.F
open Go.RowKit Go.Proofs.YtbncnjgflhoneaaGreatDoor.Hand Go.Proofs.YtbncnjgflhoneaaGreatDoorW.l8 Go.Proofs.YtbncnjgflhoneaaGreatDoorW.s9 Go.Proofs.YtbncnjgflhoneaaGreatDoorW.y9
def Y7.j (k : Nat) (b : Bool) (s : List Int) (p : Int) (l : List G9) : Option (Int × ByteArray × ByteArray × Int) :=
 if b = true then (l6.f k s p 4).bind fun x => (V0.f k s x.2).bind fun y => some (x.1, y.1, y.2.1, y.2.2)
 else (l6.f k s p (l.length : Int)).bind fun x => if 0 ≤ x.1 then if x.1 < (l.length : Int) then if ((o9 l x.1).f2.length : Int) = 0 then none else (l6.f k s x.2 ((o9 l x.1).f2.length : Int)).bind fun y => if 0 ≤ y.1 then if y.1 < ((o9 l x.1).f2.length : Int) then some ((o9 l x.1).f0, (G8 (o9 l x.1).f2 y.1).f0.f0, (G8 (o9 l x.1).f2 y.1).f0.f1, y.2) else none else none else none else none
def Y7.f (k : Nat) (s : List Int) (p : Int) (a0 : Int) (l : List G9) : Option (Int × ByteArray × ByteArray × Int) := if (l.length : Int) = 0 then Y7.j k true s p l else (l6.f k s p 6).bind fun x => Y7.j k (x.1 == 0) s x.2 l
theorem bj9 {p : Prop} [Decidable p] {α : Type} {x : Option α} {r : α} (h : (if p then x else none) = some r) : p ∧ decide p = true ∧ (p = True) ∧ x = some r := by
 by_cases c : p
 ·rw [if_pos c] at h; exact ⟨c, decide_eq_true c, eq_true c, h⟩
 ·rw [if_neg c] at h; cases h
theorem aI2 {w W : World} {g : Nat} {a : Addr} {v : Value} (hk : y5 w W g none) (hg : a.block ≠ g) (h : w.cell? a = some v) : W.cell? a = some v := by
 have hb := hk.2 a.block (World.block_lt_of_cell? w _ h) hg (by simp)
 simpa [World.cell?, hb] using h
theorem cZ6 (w : World) (g : Nat) : ∃ W : World, y5 w W g none ∧ ∀ a : Addr, a.block = g → W.cell? a = none := by
 refine ⟨{ w with heap := w.heap.setIfInBounds g (.cells #[] 0) }, ⟨by simp, fun k _ hk _ => by simp [Ne.symm hk]⟩, fun a ha => ?_⟩
 subst ha
 by_cases hlt : a.block < w.heap.size <;> simp [World.cell?, hlt]
theorem cv5 {w : World} {g : Nat} {A : Option Addr} {l : List G9} (h : ∀ W_, y5 w W_ g none → Kd.C U7 W_ A l.length l) (i : Int) (h0 : 0 ≤ i) (h1 : i < (l.length : Int)) :
  ∃ ad A3 c3 A4 c4, A = some ad ∧ (o9 l i).f2.length ≤ c3 ∧ ∀ W_, y5 w W_ g none →
   (W_.cell? (ad.add (i.toNat * 5)) = some (.int .i64 (o9 l i).f0) ∧ W_.cell? ⟨(ad.add (i.toNat * 5)).block, (ad.add (i.toNat * 5)).off + 1, none⟩ = some (.string (o9 l i).f1.f0) ∧ W_.cell? ⟨(ad.add (i.toNat * 5)).block, (ad.add (i.toNat * 5)).off + 2, none⟩ = some (.string (o9 l i).f1.f1) ∧ W_.cell? ⟨(ad.add (i.toNat * 5)).block, (ad.add (i.toNat * 5)).off + 3, none⟩ = some (.slice A3 (o9 l i).f2.length c3) ∧ W_.cell? ⟨(ad.add (i.toNat * 5)).block, (ad.add (i.toNat * 5)).off + 4, none⟩ = some (.slice A4 (o9 l i).f3.length c4)) ∧
   a01.C W_ A3 (o9 l i).f2.length (o9 l i).f2 := by
 obtain ⟨ad, A3, c3, A4, c4, rfl, x0, x1, x2, x3, x4, l3, i3, _, _⟩ := ax2 (h w (y5.refl w g none)) i h0 h1
 obtain ⟨W, hk, hn⟩ := cZ6 w g
 have hb : (ad.add (i.toNat * 5)).block ≠ g := by
  intro e
  obtain ⟨ad', _, _, _, _, he, y0, _⟩ := ax2 (h W hk) i h0 h1
  injection he with he
  subst he
  rw [hn _ e] at y0
  cases y0
 refine ⟨ad, A3, c3, A4, c4, rfl, l3, fun W_ hk_ => ⟨⟨aI2 hk_ hb x0, aI2 (a := ⟨_, _, none⟩) hk_ hb x1, aI2 (a := ⟨_, _, none⟩) hk_ hb x2, aI2 (a := ⟨_, _, none⟩) hk_ hb x3, aI2 (a := ⟨_, _, none⟩) hk_ hb x4⟩, ?_⟩⟩
 obtain ⟨ad', B3, d3, _, _, he, _, _, _, y3, _, _, j3, _⟩ := ax2 (h W_ hk_) i h0 h1
 injection he with he
 subst he
 rw [aI2 (a := ⟨_, _, none⟩) hk_ hb x3] at y3
 injection y3 with y3
 injection y3 with y3 _ _
 rw [y3]
 exact j3
theorem cv6 {w : World} {g : Nat} {A : Option Addr} {l : List X1} (h : ∀ W_, y5 w W_ g none → Kd.C a01 W_ A l.length l) (i : Int) (h0 : 0 ≤ i) (h1 : i < (l.length : Int)) :
  ∃ ad, A = some ad ∧ ∀ W_, y5 w W_ g none → W_.cell? (ad.add (i.toNat * 4)) = some (.string (G8 l i).f0.f0) ∧ W_.cell? ⟨(ad.add (i.toNat * 4)).block, (ad.add (i.toNat * 4)).off + 1, none⟩ = some (.string (G8 l i).f0.f1) := by
 obtain ⟨ad, rfl, _⟩ := b64 (h w (y5.refl w g none)) i h0 h1
 refine ⟨ad, rfl, fun W_ hk_ => ?_⟩
 obtain ⟨ad', he, y0, y1, _⟩ := b64 (h W_ hk_) i h0 h1
 injection he with he
 subst he
 exact ⟨y0, y1⟩
set_option maxHeartbeats 1000000 in
set_option maxRecDepth 100000 in
theorem Y7.calls (k : Nat) (g : Nat) (L6 : List Int) (a03 : Int) (R8 : Int) (br7 : Option Addr) (b46 : Nat) (a36 : List G9) (r1 : Int) (r2 : ByteArray) (r3 : ByteArray) (r4 : Int) (w0 w : World) (hI : l5 w0 w g L6 a03) (hB : Below w0.heap.size w0 w) (br8 : ∀ W_, y5 w W_ g none → Kd.C U7 W_ br7 a36.length a36) (br9 : a36.length ≤ b46) (h : Y7.f k L6 a03 R8 a36 = some (r1, r2, r3, r4)) :
  Calls Tryz.prog 93 #[.pointer (some ⟨g, 0, none⟩), .agg #[.int .i64 R8, .slice br7 a36.length b46]] w fun e w' => e = .returned (.tuple #[.int .i64 r1, .agg #[.string r2, .string r3]]) ∧ l5 w0 w' g L6 r4 ∧ Below w0.heap.size w0 w' ∧ y5 w w' g none := by
 have bZ9 := Tryz.underlying80
 have as2 := Tryz.underlying32
 have cj4 := j4.mk br8
 have cK9 := j4.mk br9
 clear br8 br9
 have HI0 := j4.mk hI
 have bp3 := j4.mk (l5.ge HI0.out)
 have HK := j4.mk (y5.refl w g none)
 have HL := j4.mk hB.size
 clear hI
 have HW0 := j4.mk hB.size
 have HB := j4.mk hB
 clear hB
 have H := h
 clear h
 unfold Y7.f at H
 have HC3 := j4.mk H
 clear H
 go_enter Tryz.func93, Tryz.ntmps93
 go_upto_region 1 with (first | ((with_reducible refine l9 (N := 3) rfl ?_); refine bx (cs := #[.int .i64 R8, .slice br7 a36.length b46]) (t := 80) ?_; intro j8 hg w4 o8 hb; have j5 := j4.mk (o8); have L8 := GK HK hg; have J7 := GT HK hg HW0; have a50 := IL HI0 hg; have J1 := IG HI0 hg; replace HI0 := IS HI0 hb; replace HK := KT HK hb; replace HB := bF HB hb; clear hb o8 hg) | ((with_reducible refine l9 (N := 5) rfl ?_); refine bx (cs := #[.string ⟨#[]⟩, .string ⟨#[]⟩]) (t := 32) ?_; intro o7 hg w5 o8 hb; have j7 := j4.mk (o8); have as7 := GK HK hg; have al6 := GT HK hg HW0; have D1 := nS hg j5; have D3 := nG hg j5; replace j5 := kS j5 hb; have ah2 := IL HI0 hg; have S3 := IG HI0 hg; replace HI0 := IS HI0 hb; replace HK := KT HK hb; replace HB := bF HB hb; clear hb o8 hg))
 (try simp only [Act.put, List.setIfInBounds_toArray, List.set_cons_zero, List.set_cons_succ])
 go_cut [15] (fun v15 wc => ∃ (bs0 : Bool) (am9 : Int), v15 = .bool bs0 ∧ j4 (Y7.j k bs0 L6 am9 a36 = some (r1, r2, r3, r4)) ∧ j4 (wc.heap[j8]? = some (.cells #[.int .i64 R8, (.slice br7 a36.length b46)] 80 (0, 0))) ∧ j4 (wc.heap[o7]? = some (.cells #[.string (⟨#[]⟩ : ByteArray), .string (⟨#[]⟩ : ByteArray)] 32 (0, 0))) ∧ j4 (l5 w0 wc g L6 am9) ∧ j4 (y5 w wc g none) ∧ j4 (Below w0.heap.size w0 wc))
 case first =>
  have H := HC3.out
  clear HC3
  replace H := a45 H; rcases H with ⟨am1, aZ8, H⟩ | ⟨c6, am1, aZ8, H⟩
  ·(first | rw [am1] | (simp only [Z1, aa5]; rw [am1]) | skip)
   have H' := j4.mk H
   clear H
   have dP0 := D1.out
   have dP1 := D3.out
   have bZ0 := cz2 j5.out
   have bZ1 := fz2 j5.out
   go_wp2
   go_meet
   case rel => exact ⟨(true), (a03), zs, H', ⟨kQ j5⟩, ⟨kQ j7⟩, ⟨zI⟩, ⟨zK⟩, ⟨zB⟩⟩
  ·have cL0 : ¬ (a36 = []) := fun h_ => c6 (by rw [h_]; rfl)
   (first | rw [am1] | (simp only [Z1, aa5]; rw [am1]) | skip)
   replace H := S2 H; obtain ⟨⟨t103, t104⟩, A10, H⟩ := H
   dsimp only at H
   have H' := j4.mk H
   clear H
   have dl5 := D1.out
   have dl6 := D3.out
   have bT2 := cz2 j5.out
   have bT3 := fz2 j5.out
   go_wp2_with (first | (go_at_call 51; refine (l6.calls (w := _) (w0 := w0) (hI := zI) (hB := zB) (h := A10.out)).mono ?_; rintro e w14 ⟨rfl, hi, hb, hk⟩; replace j5 := KB hk j5 J1; replace j7 := KB hk j7 S3; replace HK := KS HK hk; replace HI0 := j4.mk (hi); replace HB := j4.mk (hb); clear hb hk hi))
   go_meet
   case rel => exact ⟨((t103 == 0)), (t104), zs, H', ⟨kQ j5⟩, ⟨kQ j7⟩, ⟨zI⟩, ⟨zK⟩, ⟨zB⟩⟩
 case rest =>
  clear HC3
  obtain ⟨bs0, am9, rfl, HA, j5, j7, HI0, HK, HB⟩ := hcut
  have H := HA.out
  clear HA
  unfold Y7.j at H
  replace H := itb H; rcases H with ⟨rfl, H⟩ | ⟨rfl, H⟩
  ·replace H := S2 H; obtain ⟨⟨t105, t106⟩, A16, H⟩ := H
   dsimp only at H
   replace H := S2 H; obtain ⟨⟨t107, t108, t109⟩, A17, H⟩ := H
   simp only [Option.some.injEq, Prod.mk.injEq] at H
   obtain ⟨rfl, rfl, rfl, rfl⟩ := H
   have eJ1 := D1.out
   go_wp2_with (first | ((with_reducible refine j6 (f := 51) rfl ?_); refine gl 17 Tryz.func51 #[.pointer (some ⟨g, 0, none⟩), .int .i64 4] ((l6.calls (w := _) (w0 := w0) (hI := zI) (hB := zB) (h := A16.out)).mono ?_); rintro e w18 ⟨rfl, hi, hb, hk⟩; refine ⟨_, rfl, ?_⟩; replace j5 := KB hk j5 J1; replace j7 := KB hk j7 S3; replace HK := KS HK hk; replace HI0 := j4.mk (hi); replace HB := j4.mk (hb); clear hb hk hi) | ((with_reducible refine j6 (f := 130) rfl ?_); refine gl 19 Tryz.func130 #[.pointer (some ⟨g, 0, none⟩)] ((V0.calls (w := _) (w0 := w0) (hI := zI) (hB := zB) (h := A17.out)).mono ?_); rintro e w19 ⟨rfl, hi, hb, hk⟩; refine ⟨_, rfl, ?_⟩; replace j5 := KB hk j5 J1; replace j7 := KB hk j7 S3; replace HK := KS HK hk; replace HI0 := j4.mk (hi); replace HB := j4.mk (hb); clear hb hk hi; have cd4 := D3.out; have cd5 := D1.out; have br0 := cz2 j7.out; have br1 := fz2 j7.out))
   refine bodyPost_ret (bm4 rfl _ _ o7 32 #[.string t107, .string t108] (0, 0) _ rfl (kQ j7) Tryz.underlying32 rfl (by kernel_rfl)) rfl ?_
   exact ⟨zr, zI, zB, zK⟩
  ·replace H := S2 H; obtain ⟨⟨t110, t111⟩, A25, H⟩ := H
   dsimp only at H
   replace H := bj9 H; obtain ⟨p, p1, p2, H⟩ := H
   replace H := bj9 H; obtain ⟨q, q1, q2, H⟩ := H
   replace H := bi1 H; obtain ⟨z, z1, z2, H⟩ := H
   replace H := S2 H; obtain ⟨⟨t112, t113⟩, A26, H⟩ := H
   dsimp only at H
   replace H := bj9 H; obtain ⟨u, u1, u2, H⟩ := H
   replace H := bj9 H; obtain ⟨v, v1, v2, H⟩ := H
   simp only [Option.some.injEq, Prod.mk.injEq] at H
   obtain ⟨rfl, rfl, rfl, rfl⟩ := H
   obtain ⟨ad, A3, c3, A4, c4, rfl, l3, hE⟩ := cv5 cj4.out t110 p q
   obtain ⟨ae, rfl, hF⟩ := cv6 (fun W_ hk => (hE W_ hk).2) t112 u v
   have HE := j4.mk (fun W_ hk => (hE W_ hk).1)
   have HF := j4.mk hF
   clear hE hF p q u v z
   go_wp2
   replace j5 := j4.mk (I7 j5.out)
   replace j7 := j4.mk (I7 j7.out)
   replace HI0 := j4.mk (l5.drew HI0.out)
   replace HK := j4.mk (ae9 HK.out)
   replace HB := j4.mk (E9 HB.out)
   refine ah3 (n := 11) (S := fun w' => w'.cell? ⟨j8, 1, none⟩ = some (.slice (some ad) a36.length b46) ∧ w'.cell? (ad.add (t110.toNat * 5)) = some (.int .i64 (o9 a36 t110).f0) ∧ w'.cell? ⟨(ad.add (t110.toNat * 5)).block, (ad.add (t110.toNat * 5)).off + 1, none⟩ = some (.string (o9 a36 t110).f1.f0) ∧ w'.cell? ⟨(ad.add (t110.toNat * 5)).block, (ad.add (t110.toNat * 5)).off + 2, none⟩ = some (.string (o9 a36 t110).f1.f1) ∧ w'.cell? ⟨(ad.add (t110.toNat * 5)).block, (ad.add (t110.toNat * 5)).off + 3, none⟩ = some (.slice (some ae) (o9 a36 t110).f2.length c3) ∧ w'.cell? ⟨(ad.add (t110.toNat * 5)).block, (ad.add (t110.toNat * 5)).off + 4, none⟩ = some (.slice A4 (o9 a36 t110).f3.length c4)) (ds := []) #[false, false, false, false, false, false, false, false, false, false, false] (by kernel_rfl) rfl rfl ⟨(l7 j5.out 1).trans rfl, HE.out _ HK.out⟩ (fun hHeld => ?_)
   generalize wc.drew = w5 at j5 j7 HI0 HK HB hHeld ⊢
   refine pu 0 20 ?_
   refine pu 2 22 ?_
   refine pu 3 23 ?_
   refine ta 1 21 ?_
   refine ta 4 24 ?_
   refine pu 5 25 ?_
   refine bN4 (σ := Nat) 1 #[true, true, true, true, true, true, true, true, true, true, false] (fun s_ => [(26, .int .i64 t110), (27, .pointer (some (ad.add (t110.toNat * 5)))), (28, .agg #[.int .i64 (o9 a36 t110).f0, .string (o9 a36 t110).f1.f0, .string (o9 a36 t110).f1.f1, .slice (some ae) (o9 a36 t110).f2.length c3, .slice A4 (o9 a36 t110).f3.length c4]), (6, .pointer (some ⟨s_, 0, none⟩))]) (fun s_ w' => j4 (w'.heap[j8]? = some (.cells #[.int .i64 R8, .slice (some ad) a36.length b46] 80 (0, 0))) ∧ j4 (w'.heap[o7]? = some (.cells #[.string (⟨#[]⟩ : ByteArray), .string (⟨#[]⟩ : ByteArray)] 32 (0, 0))) ∧ j4 (w'.heap[s_]? = some (.cells #[.int .i64 0, .string (⟨#[]⟩ : ByteArray), .string (⟨#[]⟩ : ByteArray), .slice none 0 0, .slice none 0 0] 117 (0, 0))) ∧ j4 (w0.heap.size ≤ s_) ∧ j4 (w.heap.size ≤ s_) ∧ j4 (g ≠ s_) ∧ j4 (s_ ≠ g) ∧ j4 (l5 w0 w' g L6 t111) ∧ j4 (y5 w w' g none) ∧ j4 (Below w0.heap.size w0 w')) ?_ ?_
   rotate_left
   ·intro az5
    refine tw 6 9 (some 26) (some 6) (fun K hK => ?_) (fun K hK => ?_)
    ·refine ar2 Tryz.func51 (by kernel_rfl) rfl #[.pointer (some ⟨g, 0, none⟩), .int .i64 (a36.length : Int)] (by rfl) rfl rfl zm ?_
     refine (l6.calls (w := _) (w0 := w0) (hI := zI) (hB := zB) (h := A25.out)).mono ?_
     rintro e w6 ⟨rfl, hi, hb, hk⟩
     refine ⟨_, rfl, ?_⟩
     replace j5 := KB hk j5 J1
     replace j7 := KB hk j7 S3
     replace HK := KS HK hk
     replace HI0 := j4.mk hi
     replace HB := j4.mk hb
     clear hb hk hi
     refine kO 26 hK (fun hHeld => ?_) ⟨(l7 j5.out 1).trans rfl, HE.out _ HK.out⟩
     clear hK K
     refine pu 7 27 ?_
     refine ta 8 28 ?_
     refine on 9 (some 6) (fun K hK => ?_)
     refine aJ1 ?hg (N := 6) ?hd (cs := #[.int .i64 0, .string (⟨#[]⟩ : ByteArray), .string (⟨#[]⟩ : ByteArray), .slice none 0 0, .slice none 0 0]) (t := 117) ?hr ?_; (case hd => rfl); (case hg => rfl); (case hr => first | (go_simp; done) | (go_simp; rfl))
     intro F9 hg w7 o8 hb
     have aW0 := GK HK hg
     have aW1 := GT HK hg HW0
     replace j5 := kS j5 hb
     replace j7 := kS j7 hb
     have bk0 := IL HI0 hg
     have aY6 := IG HI0 hg
     replace HI0 := IS HI0 hb
     replace HK := KT HK hb
     replace HB := bF HB hb
     have F7 := j4.mk o8
     clear hb o8 hg
     refine kO 6 hK (fun hHeld => ?_) ⟨(l7 j5.out 1).trans rfl, HE.out _ HK.out⟩
     clear hK K
     exact aw9 (by simp only [ae5, Act.put, List.setIfInBounds_toArray, List.set_cons_zero, List.set_cons_succ]) (az5 F9 _ ⟨j5, j7, F7, aW1, aW0, bk0, aY6, HI0, HK, HB⟩)
    ·refine aJ1 ?hg (N := 6) ?hd (cs := #[.int .i64 0, .string (⟨#[]⟩ : ByteArray), .string (⟨#[]⟩ : ByteArray), .slice none 0 0, .slice none 0 0]) (t := 117) ?hr ?_; (case hd => rfl); (case hg => rfl); (case hr => first | (go_simp; done) | (go_simp; rfl))
     intro F9 hg w7 o8 hb
     have aW0 := GK HK hg
     have aW1 := GT HK hg HW0
     replace j5 := kS j5 hb
     replace j7 := kS j7 hb
     have bk0 := IL HI0 hg
     have aY6 := IG HI0 hg
     replace HI0 := IS HI0 hb
     replace HK := KT HK hb
     replace HB := bF HB hb
     have F7 := j4.mk o8
     clear hb o8 hg
     refine kO 6 hK (fun hHeld => ?_) ⟨(l7 j5.out 1).trans rfl, HE.out _ HK.out⟩
     clear hK K
     refine on 6 (some 26) (fun K hK => ?_)
     refine ar2 Tryz.func51 (by kernel_rfl) rfl #[.pointer (some ⟨g, 0, none⟩), .int .i64 (a36.length : Int)] (by rfl) rfl rfl zm ?_
     refine (l6.calls (w := _) (w0 := w0) (hI := zI) (hB := zB) (h := A25.out)).mono ?_
     rintro e w6 ⟨rfl, hi, hb, hk⟩
     refine ⟨_, rfl, ?_⟩
     replace j5 := KB hk j5 J1
     replace j7 := KB hk j7 S3
     replace F7 := KB hk F7 aY6
     replace HK := KS HK hk
     replace HI0 := j4.mk hi
     replace HB := j4.mk hb
     clear hb hk hi
     refine kO 26 hK (fun hHeld => ?_) ⟨(l7 j5.out 1).trans rfl, HE.out _ HK.out⟩
     clear hK K
     refine pu 7 27 ?_
     refine ta 8 28 ?_
     exact aw9 (by simp only [ae5, Act.put, List.setIfInBounds_toArray, List.set_cons_zero, List.set_cons_succ]) (az5 F9 _ ⟨j5, j7, F7, aW1, aW0, bk0, aY6, HI0, HK, HB⟩)
   clear j5 j7 HI0 HK HB
   rintro F9 w8 ⟨j5, j7, F7, aW1, aW0, bk0, aY6, HI0, HK, HB⟩
   have af2 := j4.mk (bF4 j5.out F7.out (by decide))
   have ah7 := j4.mk (bF4 F7.out j5.out (by decide))
   have ah8 := j4.mk (bF4 j7.out F7.out (by decide))
   have ah9 := j4.mk (bF4 F7.out j7.out (by decide))
   have hHeld := And.intro ((l7 j5.out 1).trans rfl : w8.cell? ⟨j8, 1, none⟩ = some (.slice (some ad) a36.length b46)) (HE.out _ HK.out)
   refine aw9 (a' := ?_) ?_ ?_
   rotate_left
   ·simp only [ae5, Act.put, List.setIfInBounds_toArray, List.set_cons_zero, List.set_cons_succ]
    rfl
   refine on 10 none (fun K hK => ?_)
   have hs_ := cz5 F7.out
   have hf_ := fz5 F7.out
   refine skW (fun w9 hw => ?_)
   have BK := j4.mk (show w9.heap[F9]? = some (.cells #[.int .i64 (o9 a36 t110).f0, .string (o9 a36 t110).f1.f0, .string (o9 a36 t110).f1.f1, .slice (some ae) (o9 a36 t110).f2.length c3, .slice A4 (o9 a36 t110).f3.length c4] 117 (0, 0)) by rw [hw]; exact kQ F7)
   replace j5 := j4.mk (show w9.heap[j8]? = some (.cells #[.int .i64 R8, .slice (some ad) a36.length b46] 80 (0, 0)) by rw [hw]; exact kQ j5)
   replace j7 := j4.mk (show w9.heap[o7]? = some (.cells #[.string (⟨#[]⟩ : ByteArray), .string (⟨#[]⟩ : ByteArray)] 32 (0, 0)) by rw [hw]; exact kQ j7)
   replace HI0 := j4.mk (show l5 w0 w9 g L6 t111 by rw [hw]; exact zI)
   replace HK := j4.mk (show y5 w w9 g none by rw [hw]; exact zK)
   replace HB := j4.mk (show Below w0.heap.size w0 w9 by rw [hw]; exact zB)
   clear hw F7 hs_ hf_
   refine hK.out _ _ ⟨(l7 j5.out 1).trans rfl, HE.out _ HK.out⟩ (fun hHeld => ?_)
   clear hK K
   refine au9 (by kernel_rfl) ?_
   have hz_ := cz5 BK.out
   have eJ2 := af2.out
   go_wp2
   replace BK := j4.mk (I7 BK.out)
   replace j7 := j4.mk (I7 j7.out)
   replace HI0 := j4.mk (l5.drew HI0.out)
   replace HK := j4.mk (ae9 HK.out)
   replace HB := j4.mk (E9 HB.out)
   clear hHeld hz_ HE
   refine ah3 (n := 14) (S := fun w' => w'.cell? ⟨F9, 0, none⟩ = some (.int .i64 (o9 a36 t110).f0) ∧ w'.cell? ⟨F9, 3, none⟩ = some (.slice (some ae) (o9 a36 t110).f2.length c3) ∧ w'.cell? (ae.add (t112.toNat * 4)) = some (.string (G8 (o9 a36 t110).f2 t112).f0.f0) ∧ w'.cell? ⟨(ae.add (t112.toNat * 4)).block, (ae.add (t112.toNat * 4)).off + 1, none⟩ = some (.string (G8 (o9 a36 t110).f2 t112).f0.f1)) (ds := []) #[false, false, false, false, false, false, false, false, false, false, false, false, false, false] (by kernel_rfl) rfl rfl ⟨(l7 BK.out 0).trans rfl, (l7 BK.out 3).trans rfl, HF.out _ HK.out⟩ (fun hHeld => ?_)
   generalize w9.drew = w10 at BK j5 j7 HI0 HK HB hHeld ⊢
   refine pu 0 37 ?_
   refine pu 2 39 ?_
   refine pu 4 41 ?_
   refine pu 5 42 ?_
   refine ta 1 38 ?_
   refine ta 3 40 ?_
   refine ta 6 43 ?_
   refine pu 7 44 ?_
   refine on 8 (some 45) (fun K hK => ?_)
   refine ar2 Tryz.func51 (by kernel_rfl) rfl #[.pointer (some ⟨g, 0, none⟩), .int .i64 ((o9 a36 t110).f2.length : Int)] (by rfl) rfl rfl zm ?_
   refine (l6.calls (w := _) (w0 := w0) (hI := zI) (hB := zB) (h := A26.out)).mono ?_
   rintro e w11 ⟨rfl, hi, hb, hk⟩
   refine ⟨_, rfl, ?_⟩
   replace BK := KB hk BK aY6
   replace j7 := KB hk j7 S3
   replace HK := KS HK hk
   replace HI0 := j4.mk hi
   replace HB := j4.mk hb
   clear hb hk hi
   refine kO 45 hK (fun hHeld => ?_) ⟨(l7 BK.out 0).trans rfl, (l7 BK.out 3).trans rfl, HF.out _ HK.out⟩
   clear hK K
   refine pu 9 46 ?_
   refine pu 10 47 ?_
   refine ta 11 48 ?_
   refine pu 12 4 ?_
   refine on 13 none (fun K hK => ?_)
   have hs_ := cz2 j7.out
   have hf_ := fz2 j7.out
   refine skW (fun w12 hw => ?_)
   replace BK := j4.mk (show w12.heap[F9]? = some (.cells #[.int .i64 (o9 a36 t110).f0, .string (o9 a36 t110).f1.f0, .string (o9 a36 t110).f1.f1, .slice (some ae) (o9 a36 t110).f2.length c3, .slice A4 (o9 a36 t110).f3.length c4] 117 (0, 0)) by rw [hw]; exact kQ BK)
   replace j7 := j4.mk (show w12.heap[o7]? = some (.cells #[.string (G8 (o9 a36 t110).f2 t112).f0.f0, .string (G8 (o9 a36 t110).f2 t112).f0.f1] 32 (0, 0)) by rw [hw]; exact kQ j7)
   replace HI0 := j4.mk (show l5 w0 w12 g L6 t113 by rw [hw]; exact zI)
   replace HK := j4.mk (show y5 w w12 g none by rw [hw]; exact zK)
   replace HB := j4.mk (show Below w0.heap.size w0 w12 by rw [hw]; exact zB)
   clear hw hs_ hf_
   refine hK.out _ _ ⟨(l7 BK.out 0).trans rfl, (l7 BK.out 3).trans rfl, HF.out _ HK.out⟩ (fun hHeld => ?_)
   clear hK K
   refine au9 (by kernel_rfl) ?_
   try go_wp2
   refine bodyPost_ret (bm4 rfl _ _ o7 32 #[.string (G8 (o9 a36 t110).f2 t112).f0.f0, .string (G8 (o9 a36 t110).f2 t112).f0.f1] (0, 0) _ rfl (kQ j7) Tryz.underlying32 rfl (by kernel_rfl)) rfl ?_
   exact ⟨zr, zI, zB, zK⟩
end Go.Proofs.YtbncnjgflhoneaaGreatDoor.F
