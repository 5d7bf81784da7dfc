/- Of this claim, merged by program: F96. -/
import Derived.Test.YtbncnjgflhoneaaGreatDoorN02
import Derived.Test.YtbncnjgflhoneaaGreatDoorN05
import Derived.Test.YtbncnjgflhoneaaGreatDoorN07
set_option linter.unusedVariables false
set_option linter.unusedSimpArgs false
namespace Go.Proofs.YtbncnjgflhoneaaGreatDoor.F
open Go.RowKit Go.Proofs.YtbncnjgflhoneaaGreatDoor.Hand Go.Proofs.YtbncnjgflhoneaaGreatDoorW.l8 Go.Proofs.YtbncnjgflhoneaaGreatDoorW.s9 Go.Proofs.YtbncnjgflhoneaaGreatDoorW.y9
def Q0.f (r0 : Int) (C8 : List (G9)) (a1 : Int) (a2 : Int) : Option (Int × (List (G9))) := if 0 ≤ a1 then (if a1 < (C8.length : Int) then ((I0.f ((o9 C8 a1).f0) ((o9 C8 a1).f1.f0) ((o9 C8 a1).f1.f1) ((o9 C8 a1).f2) ((o9 C8 a1).f3)).bind fun aa6 => ((some (([] : List (X1)) : List (X1))).bind fun bb8 => (if 0 ≤ a2 then (if a2 ≤ (aa6.2.2.2.1.length : Int) then ((some (aa6.2.2.2.1.take (a2 : Int).toNat : List (X1))).bind fun az3 => (if bb8.length + az3.length < 2932031007402 then ((some (bb8 ++ az3 : List (X1))).bind fun bQ7 => (if 0 ≤ (wrap64 (a2 + 1)) then (if (wrap64 (a2 + 1)) ≤ (aa6.2.2.2.1.length : Int) then ((some (aa6.2.2.2.1.drop ((wrap64 (a2 + 1)) : Int).toNat : List (X1))).bind fun aK7 => (if bQ7.length + aK7.length < 2932031007402 then ((some (bQ7 ++ aK7 : List (X1))).bind fun U4 => ((some (([] : List (G9)) : List (G9))).bind fun bQ8 => (if a1 ≤ (C8.length : Int) then ((some (C8.take (a1 : Int).toNat : List (G9))).bind fun aZ6 => (if bQ8.length + aZ6.length < 1599289640401 then ((some (bQ8 ++ aZ6 : List (G9))).bind fun bh0 => (if (U4.length : Int) > 0 then (if bh0.length < 1599289640401 then ((some (bh0 ++ [(⟨aa6.1, (⟨aa6.2.1, aa6.2.2.1⟩ : G6), U4, aa6.2.2.2.2⟩ : G9)] : List (G9))).bind fun c08 => (if 0 ≤ (wrap64 (a1 + 1)) then (if (wrap64 (a1 + 1)) ≤ (C8.length : Int) then ((some (C8.drop ((wrap64 (a1 + 1)) : Int).toNat : List (G9))).bind fun b75 => (if c08.length + b75.length < 1599289640401 then (some (r0, (c08 ++ b75))) else (none))) else (none)) else (none))) else (none)) else (if 0 ≤ (wrap64 (a1 + 1)) then (if (wrap64 (a1 + 1)) ≤ (C8.length : Int) then ((some (C8.drop ((wrap64 (a1 + 1)) : Int).toNat : List (G9))).bind fun b76 => (if bh0.length + b76.length < 1599289640401 then (some (r0, (bh0 ++ b76))) else (none))) else (none)) else (none)))) else (none))) else (none)))) else (none))) else (none)) else (none))) else (none))) else (none)) else (none)))) else (none)) else (none)
def Q0.T2 : Bool × List (List Nat × List Nat) := (true, [([], []), ([], []), ([1], [1]), ([], []), ([2, 3], [2, 3]), ([0, 4], [0, 4]), ([], []), ([6], [6]), ([], []), ([8], [8]), ([7, 9], [7, 9]), ([5, 10, 5], [5, 10]), ([0, 1, 2, 3, 4, 5, 6, 7, 8, 9, 10, 11], []), ([12, 11, 11, 0, 1, 2, 3, 4, 5, 6, 7, 8, 9, 10, 11], [11, 12])])
def Q0.B2 : List Nat := [0, 0, 2, 0, 14, 31, 0, 64, 0, 256, 960, 2047, 4095, 8191]
theorem Q0.dJ8 : aq1 .any (opsOf Tryz.f96 2) = Q0.T2 := by kernel_rfl
theorem Q0.df7 : af3 Q0.T2.2 Q0.B2 = true := by kernel_rfl
set_option maxHeartbeats 8000000 in
set_option maxRecDepth 100000 in
theorem Q0.calls (r0 : Int) (z6 : Nat → Prop) (ae2 : Option Addr) (W4 : Nat) (C8 : List (G9)) (a1 : Int) (a2 : Int) (r1 : Int) (r2 : List (G9)) (w : World) (bq0 : Kd.V U7 117 w w.heap.size (fun k_ => z6 k_) (.slice ae2 C8.length W4) C8) (h : Q0.f r0 C8 a1 a2 = some (r1, r2)) :
  Calls Tryz.prog 96 #[.agg #[.int .i64 r0, .slice ae2 C8.length W4], .int .i64 a1, .int .i64 a2] w fun e w' => ∃ v1_ : Value, e = .returned (.agg #[.int .i64 r1, v1_]) ∧ Kd.N U7 117 w' w.heap.size (fun k_ => (z6 k_ ∨ w.heap.size ≤ k_)) v1_ r2 ∧ Below w.heap.size w w' := by
 have bZ9 := Tryz.underlying80
 have cg2 := Tryz.underlying117
 have C0 := j4.mk (show Kd.V U7 117 w w.heap.size (fun k_ => (z6 k_ ∨ w.heap.size ≤ k_)) (.slice ae2 C8.length W4) C8 from Kd.J8 bq0 (fun k_ hk => .inl hk))
 have HB := j4.mk (Below.refl w.heap.size w)
 have H := h
 clear h
 unfold Q0.f at H
 replace H := S1 H; obtain ⟨aD2, H⟩ := H
 replace H := S1 H; obtain ⟨ap1, H⟩ := H
 replace H := S2 H; obtain ⟨⟨t104, t105, t106, t107, t110⟩, A6, H⟩ := H
 dsimp only at H
 first | (with_reducible replace H := bne (([] : List (X1)) : List (X1)) H; obtain ⟨bb8, bB0, H⟩ := H) | (generalize V5 : (([] : List (X1)) : List (X1)) = bb8 at H; have bB0 := j4.mk V5.symm; clear V5)
 replace H := Q5 H; obtain ⟨ak6, b77, H⟩ := H
 replace H := Q5 H; obtain ⟨aN6, bQ9, H⟩ := H
 first | (with_reducible replace H := bne (t107.take (a2 : Int).toNat : List (X1)) H; obtain ⟨az3, aW3, H⟩ := H) | (generalize V5 : (t107.take (a2 : Int).toNat : List (X1)) = az3 at H; have aW3 := j4.mk V5.symm; clear V5)
 replace H := aj5 H; obtain ⟨cV5, H⟩ := H
 first | (with_reducible replace H := bne (bb8 ++ az3 : List (X1)) H; obtain ⟨bQ7, cH0, H⟩ := H) | (generalize V5 : (bb8 ++ az3 : List (X1)) = bQ7 at H; have cH0 := j4.mk V5.symm; clear V5)
 obtain ⟨aN1, bB1⟩ : ∃ j_ : Int, (wrap64 (a2 + 1)) = j_ := ⟨_, rfl⟩
 first | rw [bB1] at H | simp only [bB1] at H
 (try rw [bB1] at A6)
 have ea1 : (IntKind.i64.wrap (a2 + 1)) = aN1 := (Z1 _).trans bB1
 replace H := Q5 H; obtain ⟨aV1, cc0, H⟩ := H
 replace H := Q5 H; obtain ⟨ax7, b78, H⟩ := H
 first | (with_reducible replace H := bne (t107.drop ((aN1) : Int).toNat : List (X1)) H; obtain ⟨aK7, bR0, H⟩ := H) | (generalize V5 : (t107.drop ((aN1) : Int).toNat : List (X1)) = aK7 at H; have bR0 := j4.mk V5.symm; clear V5)
 replace H := aj5 H; obtain ⟨cg5, H⟩ := H
 first | (with_reducible replace H := bne (bQ7 ++ aK7 : List (X1)) H; obtain ⟨U4, cH1, H⟩ := H) | (generalize V5 : (bQ7 ++ aK7 : List (X1)) = U4 at H; have cH1 := j4.mk V5.symm; clear V5)
 first | (with_reducible replace H := bne (([] : List (G9)) : List (G9)) H; obtain ⟨bQ8, bR1, H⟩ := H) | (generalize V5 : (([] : List (G9)) : List (G9)) = bQ8 at H; have bR1 := j4.mk V5.symm; clear V5)
 have aL5 := eq_true (of_decide_eq_true za : 0 ≤ a1)
 replace H := Q5 H; obtain ⟨aN7, b79, H⟩ := H
 first | (with_reducible replace H := bne (C8.take (a1 : Int).toNat : List (G9)) H; obtain ⟨aZ6, bR2, H⟩ := H) | (generalize V5 : (C8.take (a1 : Int).toNat : List (G9)) = aZ6 at H; have bR2 := j4.mk V5.symm; clear V5)
 replace H := aj5 H; obtain ⟨bf2, H⟩ := H
 first | (with_reducible replace H := bne (bQ8 ++ aZ6 : List (G9)) H; obtain ⟨bh0, cH2, H⟩ := H) | (generalize V5 : (bQ8 ++ aZ6 : List (G9)) = bh0 at H; have cH2 := j4.mk V5.symm; clear V5)
 replace H := a29 H; rcases H with ⟨c17, cg6, H⟩ | ⟨c17, cg6, H⟩
 ·have cg7 : decide (0 < U4.length) = true := decide_eq_true (by omega)
  clear c17
  replace H := aj5 H; obtain ⟨cH3, H⟩ := H
  first | (with_reducible replace H := bne (bh0 ++ [(⟨t104, (⟨t105, t106⟩ : G6), U4, t110⟩ : G9)] : List (G9)) H; obtain ⟨c08, df8, H⟩ := H) | (generalize V5 : (bh0 ++ [(⟨t104, (⟨t105, t106⟩ : G6), U4, t110⟩ : G9)] : List (G9)) = c08 at H; have df8 := j4.mk V5.symm; clear V5)
  obtain ⟨bh1, bR3⟩ : ∃ j_ : Int, (wrap64 (a1 + 1)) = j_ := ⟨_, rfl⟩
  first | rw [bR3] at H | simp only [bR3] at H
  (try rw [bR3] at A6)
  have ea2 : (IntKind.i64.wrap (a1 + 1)) = bh1 := (Z1 _).trans bR3
  replace H := Q5 H; obtain ⟨aL3, b22, H⟩ := H
  replace H := Q5 H; obtain ⟨bf1, bB2, H⟩ := H
  first | (with_reducible replace H := bne (C8.drop ((bh1) : Int).toNat : List (G9)) H; obtain ⟨b75, cH4, H⟩ := H) | (generalize V5 : (C8.drop ((bh1) : Int).toNat : List (G9)) = b75 at H; have cH4 := j4.mk V5.symm; clear V5)
  replace H := aj5 H; obtain ⟨dJ9, H⟩ := H
  first | (with_reducible replace H := bne (c08 ++ b75 : List (G9)) H; obtain ⟨dK0, df9, H⟩ := H) | (generalize V5 : (c08 ++ b75 : List (G9)) = dK0 at H; have df9 := j4.mk V5.symm; clear V5)
  simp only [Option.some.injEq, Prod.mk.injEq] at H
  obtain ⟨rfl, rfl⟩ := H
  go_enter Tryz.func96, Tryz.ntmps96
  try go_wp2_with (first | ((with_reducible refine l9 (N := 3) rfl ?_); refine bx (cs := #[.int .i64 r0, .slice ae2 C8.length W4]) (t := 80) ?_; intro j8 hg w23 o8 hb; replace C0 := vE hg C0 hb; have j5 := j4.mk (o8); have L8 := gS hg; have J7 := gS hg; replace HB := bS hb; clear hb o8 hg) | ((with_reducible refine l9 (N := 6) rfl ?_); refine bx (cs := #[.int .i64 0, .slice none 0 0]) (t := 80) ?_; intro o7 hg w24 o8 hb; replace C0 := vE hg C0 hb; have j7 := j4.mk (o8); have as7 := gS hg; have al6 := gS hg; have D1 := nS hg j5; have D3 := nG hg j5; replace j5 := kS j5 hb; replace HB := bS hb; clear hb o8 hg; have cG2 := D1.out; have cG3 := D3.out; have bR4 := cz2 j5.out; have bR5 := fz2 j5.out; have aj1 : 0 ≤ (a1 : Int) := of_decide_eq_true za; have aj2 : a1 < (C8.length : Int) := of_decide_eq_true za; obtain ⟨a47, ax8, ax9, ay0, ay1, aV4, ah1, aR5, bi7, aG5, aG6, an0, an1, an2, an3⟩ := ax2 (Kd.S7 C0.out).2.2 a1 aj1 aj2; cases aV4; obtain ⟨cg8, aR6, aR7, ak9⟩ := Kd.bo2 C0.out z117 a1 aj1 (by first | exact aj2 | exact of_decide_eq_true za | (have e_ := (Kd.S7 C0.out).1; omega)); obtain ⟨bi8, bi9, bj0, bj1, rfl, ab9, ac0, ac1, ac2⟩ := ak3 aR7; have a41 := ak9 3 _ rfl; rw [W5 _ _ 3 (by omega)] at a41; replace a41 := Option.some.inj (a41.symm.trans aG5); injection a41 with ai0 aB1 ai1; rw [ai0] at ac0; rw [ai1] at ab9; have C5 := j4.mk (show Kd.V a01 143 _ w.heap.size _ _ ((o9 C8 a1).f2) from Kd.aK5 ab9 ac0); clear ai0 aB1 ai1 ac0 ab9; have a42 := ak9 4 _ rfl; rw [W5 _ _ 4 (by omega)] at a42; replace a42 := Option.some.inj (a42.symm.trans aG6); injection a42 with ai0 aB1 ai1; rw [ai0] at ac2; rw [ai1] at ac1; have C6 := j4.mk (show Kd.V Kd.string 9 _ w.heap.size _ _ ((o9 C8 a1).f3) from Kd.aK5 ac1 ac2); clear ai0 aB1 ai1 ac2 ac1 ak9 aR6; have U0 := j4.mk an1; have aG7 := j4.mk an0; clear an1 an0; have U1 := j4.mk an3; have aG8 := j4.mk an2; clear an3 an2; replace aj1 := eq_true aj1; replace aj2 := eq_true aj2) | ((with_reducible refine j6 (f := 132) rfl ?_); refine gl 14 Tryz.func132 #[.agg #[.int .i64 ((o9 C8 a1).f0), .string ((o9 C8 a1).f1.f0), .string ((o9 C8 a1).f1.f1), .slice ax8 ((o9 C8 a1).f2).length ax9, .slice ay0 ((o9 C8 a1).f3).length ay1]] ((I0.calls (w := _) (a09 := by repeat (first | exact (by repeat (first | (with_reducible exact U0.out) | (with_reducible refine Kd.K4 ?_ _) | (with_reducible refine Kd.K5 ?_ _) | (with_reducible refine Kd.Q1 ?_) | exact U0.out)) | (with_reducible refine Kd.K4 ?_ _) | (with_reducible refine Kd.K5 ?_ _) | (with_reducible refine Kd.Q1 ?_))) (a10 := aG7.out) (bq5 := by repeat (first | exact (by repeat (first | (with_reducible exact U1.out) | (with_reducible refine Kd.K4 ?_ _) | (with_reducible refine Kd.K5 ?_ _) | (with_reducible refine Kd.Q1 ?_) | exact U1.out)) | (with_reducible refine Kd.K4 ?_ _) | (with_reducible refine Kd.K5 ?_ _) | (with_reducible refine Kd.Q1 ?_))) (bq6 := aG8.out) (h := A6.out)).mono ?_); rintro e w27 ⟨aV9, bH8, rfl, ho0, ho1, hb⟩; refine ⟨_, rfl, ?_⟩; replace C0 := j4.mk (Kd.J8 (Kd.a08 (Kd.a08 (Kd.aJ4 (vO C0) hb) (Kd.J6 ho0)) (Kd.J6 ho1)) (fun _ h_ => h_.1)); replace C5 := j4.mk (Kd.J8 (Kd.a08 (Kd.a08 (Kd.aJ4 (vO C5) hb) (Kd.J6 ho0)) (Kd.J6 ho1)) (fun _ h_ => h_.1)); replace C6 := j4.mk (Kd.J8 (Kd.a08 (Kd.a08 (Kd.aJ4 (vO C6) hb) (Kd.J6 ho0)) (Kd.J6 ho1)) (fun _ h_ => h_.1)); have y8 := j4.mk (Kd.T9 (Kd.ao7 (M := fun k_ => (w.heap.size ≤ k_)) ho0 (bZ) (fun k_ h_ => h_)) (bZ)); have E2 := j4.mk (Kd.T9 (Kd.ao7 (M := fun k_ => (w.heap.size ≤ k_)) ho1 (bZ) (fun k_ h_ => h_)) (bZ)); replace j5 := kS j5 hb; replace j7 := kS j7 hb; replace U0 := cR U0 hb; replace U1 := cR U1 hb; replace HB := bS hb; clear hb ho0; (try clear ho1)) | ((with_reducible refine l9 (N := 7) rfl ?_); refine bx (cs := #[.int .i64 0, .string ⟨#[]⟩, .string ⟨#[]⟩, .slice none 0 0, .slice none 0 0]) (t := 117) ?_; intro n8 hg w28 o8 hb; replace C0 := vE hg C0 hb; replace C5 := vE hg C5 hb; replace C6 := vE hg C6 hb; replace y8 := rS y8 hb; replace E2 := rS E2 hb; replace U0 := cR U0 hb; replace U1 := cR U1 hb; have C2 := j4.mk (o8); have cg9 := gS hg; have bB3 := gS hg; have ai2 := nS hg j5; have ai3 := nG hg j5; replace j5 := kS j5 hb; have ai4 := nS hg j7; have ai5 := nG hg j7; replace j7 := kS j7 hb; replace HB := bS hb; clear hb o8 hg; have bB4 := ai3.out; have bB5 := ai2.out; have bp6 := ai5.out; have bp7 := ai4.out; have bR6 := cz5 C2.out; have bR7 := fz5 C2.out; obtain ⟨X6, X2, bx1⟩ := Kd.s7 y8.out; subst bx1; obtain ⟨a15, a16, bP8⟩ := Kd.s7 E2.out; subst bP8))
  have P5 : j4 (Kd.V U7 117 (((((w28.setCell ⟨n8, 0, none⟩ (.int .i64 t104)).setCell ⟨n8, 1, none⟩ (.string t105)).setCell ⟨n8, 2, none⟩ (.string t106)).setCell ⟨n8, 3, none⟩ (.slice X6 t107.length X2)).setCell ⟨n8, 4, none⟩ (.slice a15 t110.length a16)) w.heap.size (fun k_ => (z6 k_ ∨ w.heap.size ≤ k_) ∧ some k_ ≠ (.slice X6 t107.length X2 : Value).ownBlock ∧ some k_ ≠ (.slice a15 t110.length a16 : Value).ownBlock ∧ k_ ≠ j8 ∧ k_ ≠ o7 ∧ k_ ≠ n8) (.slice (some a47) C8.length W4) C8) := ⟨fV C0⟩
  have P6 : j4 (Kd.V a01 143 (((((w28.setCell ⟨n8, 0, none⟩ (.int .i64 t104)).setCell ⟨n8, 1, none⟩ (.string t105)).setCell ⟨n8, 2, none⟩ (.string t106)).setCell ⟨n8, 3, none⟩ (.slice X6 t107.length X2)).setCell ⟨n8, 4, none⟩ (.slice a15 t110.length a16)) w.heap.size (fun k_ => (z6 k_ ∨ w.heap.size ≤ k_) ∧ some k_ ≠ (.slice X6 t107.length X2 : Value).ownBlock ∧ some k_ ≠ (.slice a15 t110.length a16 : Value).ownBlock ∧ k_ ≠ j8 ∧ k_ ≠ o7 ∧ k_ ≠ n8) (.slice ax8 ((o9 C8 a1).f2).length ax9) ((o9 C8 a1).f2)) := ⟨fV C5⟩
  have n2_ : j4 (Kd.V Kd.string 9 (((((w28.setCell ⟨n8, 0, none⟩ (.int .i64 t104)).setCell ⟨n8, 1, none⟩ (.string t105)).setCell ⟨n8, 2, none⟩ (.string t106)).setCell ⟨n8, 3, none⟩ (.slice X6 t107.length X2)).setCell ⟨n8, 4, none⟩ (.slice a15 t110.length a16)) w.heap.size (fun k_ => (z6 k_ ∨ w.heap.size ≤ k_) ∧ some k_ ≠ (.slice X6 t107.length X2 : Value).ownBlock ∧ some k_ ≠ (.slice a15 t110.length a16 : Value).ownBlock ∧ k_ ≠ j8 ∧ k_ ≠ o7 ∧ k_ ≠ n8) (.slice ay0 ((o9 C8 a1).f3).length ay1) ((o9 C8 a1).f3)) := ⟨fV C6⟩
  have n3_ : j4 (Kd.R a01 143 (((((w28.setCell ⟨n8, 0, none⟩ (.int .i64 t104)).setCell ⟨n8, 1, none⟩ (.string t105)).setCell ⟨n8, 2, none⟩ (.string t106)).setCell ⟨n8, 3, none⟩ (.slice X6 t107.length X2)).setCell ⟨n8, 4, none⟩ (.slice a15 t110.length a16)) w.heap.size (fun k_ => (w.heap.size ≤ k_)) (.slice X6 t107.length X2) t107) := ⟨fM y8 C2 (fun _ hk => hk.1.1)⟩
  have n4_ : j4 (Kd.R Kd.string 9 (((((w28.setCell ⟨n8, 0, none⟩ (.int .i64 t104)).setCell ⟨n8, 1, none⟩ (.string t105)).setCell ⟨n8, 2, none⟩ (.string t106)).setCell ⟨n8, 3, none⟩ (.slice X6 t107.length X2)).setCell ⟨n8, 4, none⟩ (.slice a15 t110.length a16)) w.heap.size (fun k_ => (w.heap.size ≤ k_)) (.slice a15 t110.length a16) t110) := ⟨fM E2 C2 (fun _ hk => hk.1.1)⟩
  have n5_ : j4 ((((((w28.setCell ⟨n8, 0, none⟩ (.int .i64 t104)).setCell ⟨n8, 1, none⟩ (.string t105)).setCell ⟨n8, 2, none⟩ (.string t106)).setCell ⟨n8, 3, none⟩ (.slice X6 t107.length X2)).setCell ⟨n8, 4, none⟩ (.slice a15 t110.length a16)).heap[j8]? = some (.cells #[.int .i64 r0, .slice (some a47) C8.length W4] 80 (0, 0))) := ⟨kQ j5⟩
  have n6_ : j4 ((((((w28.setCell ⟨n8, 0, none⟩ (.int .i64 t104)).setCell ⟨n8, 1, none⟩ (.string t105)).setCell ⟨n8, 2, none⟩ (.string t106)).setCell ⟨n8, 3, none⟩ (.slice X6 t107.length X2)).setCell ⟨n8, 4, none⟩ (.slice a15 t110.length a16)).heap[o7]? = some (.cells #[.int .i64 0, .slice none 0 0] 80 (0, 0))) := ⟨kQ j7⟩
  have n7_ : j4 ((((((w28.setCell ⟨n8, 0, none⟩ (.int .i64 t104)).setCell ⟨n8, 1, none⟩ (.string t105)).setCell ⟨n8, 2, none⟩ (.string t106)).setCell ⟨n8, 3, none⟩ (.slice X6 t107.length X2)).setCell ⟨n8, 4, none⟩ (.slice a15 t110.length a16)).heap[n8]? = some (.cells #[.int .i64 t104, .string t105, .string t106, .slice X6 t107.length X2, .slice a15 t110.length a16] 117 (0, 0))) := ⟨kQ C2⟩
  have n8_ : j4 (Below w.heap.size w (((((w28.setCell ⟨n8, 0, none⟩ (.int .i64 t104)).setCell ⟨n8, 1, none⟩ (.string t105)).setCell ⟨n8, 2, none⟩ (.string t106)).setCell ⟨n8, 3, none⟩ (.slice X6 t107.length X2)).setCell ⟨n8, 4, none⟩ (.slice a15 t110.length a16))) := ⟨zB⟩
  (try clear C0)
  (try clear C5)
  (try clear C6)
  (try clear y8)
  (try clear E2)
  (try clear j5)
  (try clear j7)
  (try clear C2)
  (try clear HB)
  generalize (((((w28.setCell ⟨n8, 0, none⟩ (.int .i64 t104)).setCell ⟨n8, 1, none⟩ (.string t105)).setCell ⟨n8, 2, none⟩ (.string t106)).setCell ⟨n8, 3, none⟩ (.slice X6 t107.length X2)).setCell ⟨n8, 4, none⟩ (.slice a15 t110.length a16)) = w34 at P5 P6 n2_ n3_ n4_ n5_ n6_ n7_ n8_ ⊢
  have C0 := P5
  have C5 := P6
  have C6 := n2_
  have y8 := n3_
  have E2 := n4_
  have j5 := n5_
  have j7 := n6_
  have C2 := n7_
  have HB := n8_
  clear P5 P6 n2_ n3_ n4_ n5_ n6_ n7_ n8_
  replace C0 := j4.mk (Kd.aA2 C0.out)
  replace C5 := j4.mk (Kd.aA2 C5.out)
  replace C6 := j4.mk (Kd.aA2 C6.out)
  replace y8 := j4.mk (Kd.O0 y8.out)
  replace E2 := j4.mk (Kd.O0 E2.out)
  replace j5 := j4.mk (I7 j5.out)
  replace j7 := j4.mk (I7 j7.out)
  replace C2 := j4.mk (I7 C2.out)
  replace HB := j4.mk (E9 HB.out)
  have q36 : (a2 : Int) ≤ ((t107.length : Int) : Int) := of_decide_eq_true za
  obtain ⟨eE9, dg0, _, dK1, _⟩ := info_parts at1
  have ch0 : t107.length ≤ X2 := (Kd.y7 y8.out).2.1
  have dK2 : Kd.F a01 _ _ X6 t107.length t107 := (Kd.bg8 (base := w.heap.size) (Kd.J8 (ok' := (fun k_ => (((((z6 k_ ∨ w.heap.size ≤ k_) ∧ some k_ ≠ (.slice a15 t110.length a16 : Value).ownBlock) ∧ k_ ≠ j8) ∧ k_ ≠ o7) ∧ k_ ≠ n8))) (Kd.R_V (Kd.z8 (Kd.z8 (Kd.z8 (Kd.V9 (y8.out) (Kd.a44 E2.out) I1) j5.out I1) j7.out I1) C2.out I1)) (fun k_ hk => ⟨⟨⟨⟨(.inr (hk.1.1.1.1)), hk.1.1.1.2⟩, hk.1.1.2⟩, hk.1.2⟩, hk.2⟩))).2.2
  have ds9 := bm9 (P := Tryz.prog) 115 143 .i64 Tryz.underlying115 dg0 X6 t107.length X2 a2 (of_decide_eq_true za) q36 ch0
  have dt0 := Kd.bH0 (m := (a2 : Int).toNat) dK2 (by omega)
  have dt1 : az3.length = (a2 : Int).toNat := (by rw [aW3.out, List.length_take]; omega)
  rw [← aW3.out] at dt0
  rw [← dt1] at ds9
  have P0 := j4.mk (show Kd.V a01 143 _ w.heap.size _ (.slice X6 az3.length X2) az3 from Kd.aK5 (by omega) dt0)
  have dK3 := j4.mk (show az3.length ≤ X2 from by omega)
  clear dt0 dK2 ch0 dg0 dK1
  have eF0 := j4.mk dt1
  clear dt1
  replace q36 := eq_true q36
  have q37 : ((aN1) : Int) ≤ ((t107.length : Int) : Int) := of_decide_eq_true za
  obtain ⟨eF1, dg1, _, dg2, _⟩ := info_parts at1
  have bj2 : t107.length ≤ X2 := (Kd.y7 y8.out).2.1
  have dK4 : Kd.F a01 _ _ X6 t107.length t107 := (Kd.bg8 (base := w.heap.size) (Kd.J8 (ok' := (fun k_ => (((((z6 k_ ∨ w.heap.size ≤ k_) ∧ some k_ ≠ (.slice a15 t110.length a16 : Value).ownBlock) ∧ k_ ≠ j8) ∧ k_ ≠ o7) ∧ k_ ≠ n8))) (Kd.R_V (Kd.z8 (Kd.z8 (Kd.z8 (Kd.V9 (y8.out) (Kd.a44 E2.out) I1) j5.out I1) j7.out I1) C2.out I1)) (fun k_ hk => ⟨⟨⟨⟨(.inr (hk.1.1.1.1)), hk.1.1.1.2⟩, hk.1.1.2⟩, hk.1.2⟩, hk.2⟩))).2.2
  have ea3 : (0 : Int) ≤ ((aN1) : Int) := of_decide_eq_true za
  have dt2 := aN3 (P := Tryz.prog) 115 143 .i64 Tryz.underlying115 dg1 4 dg2 X6 t107.length X2 (aN1) ea3 q37
  have cH5 := Kd.cb9 (m := ((aN1) : Int).toNat) (c := X2) dK4 (by omega) bj2
  obtain ⟨A37, cW4⟩ : ∃ A1, A1 = (if X2 = ((aN1) : Int).toNat then X6 else (X6 : Option Addr).map (·.add (((aN1) : Int).toNat * 4))) := ⟨_, rfl⟩
  obtain ⟨c37, cW5⟩ : ∃ c1, c1 = X2 - ((aN1) : Int).toNat := ⟨_, rfl⟩
  have cH6 : aK7.length = t107.length - ((aN1) : Int).toNat := (by rw [bR0.out, List.length_drop] <;> omega)
  rw [show (t107).drop ((aN1) : Int).toNat = aK7 from bR0.out.symm] at cH5
  replace cH5 : Kd.F a01 _ _ A37 aK7.length aK7 := (by rw [cW4]; exact cH5)
  rw [← cH6, ← cW4, ← cW5] at dt2
  have S5 := j4.mk (show Kd.V a01 143 _ w.heap.size _ (.slice A37 aK7.length c37) aK7 from Kd.aK5 (by rw [cH6, cW5]; exact Nat.sub_le_sub_right bj2 _) cH5)
  have dK5 := j4.mk (show aK7.length ≤ c37 from by rw [cH6, cW5]; exact Nat.sub_le_sub_right bj2 _)
  clear cH5 dK4 bj2 dg1 dg2 cW5
  have eF2 := j4.mk cH6
  have eF3 := j4.mk cW4
  clear cH6 cW4
  replace q37 := eq_true q37
  refine ah3 (n := 14) (S := fun w' => w'.cell? ⟨n8, 0, none⟩ = some (.int .i64 t104) ∧ w'.cell? ⟨n8, 1, none⟩ = some (.string t105) ∧ w'.cell? ⟨n8, 2, none⟩ = some (.string t106) ∧ w'.cell? ⟨n8, 3, none⟩ = some (.slice X6 t107.length X2) ∧ w'.cell? ⟨n8, 4, none⟩ = some (.slice a15 t110.length a16)) (ds := [13]) #[false, false, false, false, false, false, false, false, false, false, false, false, false, false] z2_ rfl rfl ⟨(l7 C2.out 0).trans rfl, (l7 C2.out 1).trans rfl, (l7 C2.out 2).trans rfl, (l7 C2.out 3).trans rfl, (l7 C2.out 4).trans rfl⟩ (fun hHeld => ?_); refine a60 Q0.dJ8 Q0.df7 (fun HT_ HW_ => ?_)
  generalize w34.drew = w35 at C0 C5 C6 y8 E2 j5 j7 C2 HB P0 S5 hHeld ⊢
  refine pu 1 16 ?_
  refine pu 3 18 ?_
  refine pu 6 21 ?_
  refine pu 8 23 ?_
  refine pu 9 24 ?_
  refine ta 2 17 ?_
  refine pu 4 19 ?_
  refine ta 7 22 ?_
  refine pu 10 25 ?_
  refine on 0 (some 15) (fun K hK => ?_)
  refine rL a01 143 15 bB0 (fun cW6 w38 bR8 hb => ?_)
  replace C0 := j4.mk (Kd.P3 (vO C0) (Kd.J6 bR8) hb)
  replace C5 := j4.mk (Kd.P3 (vO C5) (Kd.J6 bR8) hb)
  replace C6 := j4.mk (Kd.P3 (vO C6) (Kd.J6 bR8) hb)
  replace E2 := rS E2 hb
  replace P0 := j4.mk (Kd.P3 (vO P0) (Kd.J6 bR8) hb)
  replace S5 := j4.mk (Kd.P3 (vO S5) (Kd.J6 bR8) hb)
  have aF4 := j4.mk (Kd.T9 (Kd.as0 (Kd.ao7 (M := fun k_ => (w.heap.size ≤ k_)) bR8 (bZ) (fun k_ h_ => h_)) (Kd.aa3 (rO y8))) (bZ))
  replace y8 := j4.mk (Kd.ab6 (rO y8) (Kd.J6 bR8) hb)
  replace j5 := kS j5 hb
  replace j7 := kS j7 hb
  replace C2 := kS C2 hb
  replace HB := bS hb
  clear hb bR8
  refine kO 15 hK (fun hHeld => ?_)
  clear hK K
  refine on 5 (some 20) (fun K hK => ?_)
  refine Kd.O4 a01 (w0 := w) w.heap.size (by rfl) (.tmp 15) (.tmp 19) 115 143 (.agg #[(.string ⟨#[]⟩), (.string ⟨#[]⟩), (.int .i64 0), (.int .i64 0)]) 48 rfl Tryz.underlying115 at1 rfl I1 (by omega) cW6 bb8 az3 _ _ _ (fun k_ => (w.heap.size ≤ k_) ∧ some k_ ≠ (.slice X6 t107.length X2 : Value).ownBlock) (fun _ => False) rfl rfl ?aO ?aR (fun _ _ h => h) (fun _ h => h.elim) ?aF ?aB ?aS ?aL ?_
  (case aR => repeat (first | exact (Kd.S7 P0.out).2.2 | (with_reducible refine Kd.K4 ?_ _) | (with_reducible refine Kd.K5 ?_ _) | (with_reducible refine Kd.Q1 ?_)))
  (case aB => exact zB)
  (case aF => exact (fun k_ hk => ⟨(Nat.le_trans (bZ) hk), Kd.fresh' (Kd.aa3 (rO y8)) k_ hk⟩))
  (case aO => exact (by (with_reducible repeat (first | apply Kd.N9 | apply Kd.M8 | apply Kd.O0)); exact Kd.E0 aF4.out (fun _ hk => ⟨hk.1.1, hk.2⟩)))
  (case aS => exact (bZ))
  (case aL => have := cV5.out; omega)
  intro dt3 w40 ho hb hg hat
  rw [← cH0.out] at ho
  replace C0 := j4.mk (Kd.D5 (ok := (fun k_ => (z6 k_ ∨ w.heap.size ≤ k_) ∧ some k_ ≠ (.slice X6 t107.length X2 : Value).ownBlock ∧ some k_ ≠ (.slice a15 t110.length a16 : Value).ownBlock ∧ k_ ≠ j8 ∧ k_ ≠ o7 ∧ k_ ≠ n8)) (vO C0) hg hat)
  replace j5 := bG j5 aF4 hg
  replace j7 := bG j7 aF4 hg
  replace C5 := j4.mk (Kd.D5 (ok := (fun k_ => (z6 k_ ∨ w.heap.size ≤ k_) ∧ some k_ ≠ (.slice X6 t107.length X2 : Value).ownBlock ∧ some k_ ≠ (.slice a15 t110.length a16 : Value).ownBlock ∧ k_ ≠ j8 ∧ k_ ≠ o7 ∧ k_ ≠ n8)) (vO C5) hg hat)
  replace C6 := j4.mk (Kd.D5 (ok := (fun k_ => (z6 k_ ∨ w.heap.size ≤ k_) ∧ some k_ ≠ (.slice X6 t107.length X2 : Value).ownBlock ∧ some k_ ≠ (.slice a15 t110.length a16 : Value).ownBlock ∧ k_ ≠ j8 ∧ k_ ≠ o7 ∧ k_ ≠ n8)) (vO C6) hg hat)
  replace y8 := j4.mk (Kd.aK8 (ok := (fun k_ => (w.heap.size ≤ k_))) (rO y8) hg hat)
  replace E2 := j4.mk (Kd.X4 (rO E2) (Kd.a44 (rO aF4)) I1 hg)
  replace C2 := bG C2 aF4 hg
  replace P0 := j4.mk (Kd.D5 (ok := (fun k_ => (z6 k_ ∨ w.heap.size ≤ k_) ∧ some k_ ≠ (.slice a15 t110.length a16 : Value).ownBlock ∧ k_ ≠ j8 ∧ k_ ≠ o7 ∧ k_ ≠ n8)) (fV P0) hg hat)
  replace S5 := j4.mk (Kd.D5 (ok := (fun k_ => (z6 k_ ∨ w.heap.size ≤ k_) ∧ some k_ ≠ (.slice a15 t110.length a16 : Value).ownBlock ∧ k_ ≠ j8 ∧ k_ ≠ o7 ∧ k_ ≠ n8)) (fV S5) hg hat)
  replace HB := j4.mk (hb)
  have aO1 := j4.mk (ho)
  clear aF4 ho hb hg hat
  refine kO 20 hK (fun hHeld => ?_)
  clear hK K
  refine on 11 (some 26) (fun K hK => ?_)
  refine Kd.O4 a01 (w0 := w) w.heap.size (by rfl) (.tmp 20) (.tmp 25) 115 143 (.agg #[(.string ⟨#[]⟩), (.string ⟨#[]⟩), (.int .i64 0), (.int .i64 0)]) 48 rfl Tryz.underlying115 at1 rfl I1 (by omega) dt3 bQ7 aK7 _ _ _ (fun k_ => (w.heap.size ≤ k_) ∧ some k_ ≠ (.slice X6 t107.length X2 : Value).ownBlock) (fun _ => False) rfl rfl ?aO ?aR (fun _ _ h => h) (fun _ h => h.elim) ?aF ?aB ?aS ?aL ?_
  (case aR => repeat (first | exact (Kd.S7 S5.out).2.2 | (with_reducible refine Kd.K4 ?_ _) | (with_reducible refine Kd.K5 ?_ _) | (with_reducible refine Kd.Q1 ?_)))
  (case aB => exact zB)
  (case aF => exact (fun k_ hk => ⟨(Nat.le_trans (bZ) hk), Kd.fresh' (Kd.aa3 (rO y8)) k_ hk⟩))
  (case aO => exact (rO aO1))
  (case aS => exact (bZ))
  (case aL => have := cg5.out; omega)
  intro v131 w41 ho hb hg hat
  rw [← cH1.out] at ho
  replace C0 := j4.mk (Kd.D5 (ok := (fun k_ => (z6 k_ ∨ w.heap.size ≤ k_) ∧ some k_ ≠ (.slice X6 t107.length X2 : Value).ownBlock ∧ some k_ ≠ (.slice a15 t110.length a16 : Value).ownBlock ∧ k_ ≠ j8 ∧ k_ ≠ o7 ∧ k_ ≠ n8)) (vO C0) hg hat)
  replace j5 := bG j5 aO1 hg
  replace j7 := bG j7 aO1 hg
  replace C5 := j4.mk (Kd.D5 (ok := (fun k_ => (z6 k_ ∨ w.heap.size ≤ k_) ∧ some k_ ≠ (.slice X6 t107.length X2 : Value).ownBlock ∧ some k_ ≠ (.slice a15 t110.length a16 : Value).ownBlock ∧ k_ ≠ j8 ∧ k_ ≠ o7 ∧ k_ ≠ n8)) (vO C5) hg hat)
  replace C6 := j4.mk (Kd.D5 (ok := (fun k_ => (z6 k_ ∨ w.heap.size ≤ k_) ∧ some k_ ≠ (.slice X6 t107.length X2 : Value).ownBlock ∧ some k_ ≠ (.slice a15 t110.length a16 : Value).ownBlock ∧ k_ ≠ j8 ∧ k_ ≠ o7 ∧ k_ ≠ n8)) (vO C6) hg hat)
  replace y8 := j4.mk (Kd.aK8 (ok := (fun k_ => (w.heap.size ≤ k_))) (rO y8) hg hat)
  replace E2 := j4.mk (Kd.X4 (rO E2) (Kd.a44 (rO aO1)) I1 hg)
  replace C2 := bG C2 aO1 hg
  replace P0 := j4.mk (Kd.D5 (ok := (fun k_ => (z6 k_ ∨ w.heap.size ≤ k_) ∧ some k_ ≠ (.slice a15 t110.length a16 : Value).ownBlock ∧ k_ ≠ j8 ∧ k_ ≠ o7 ∧ k_ ≠ n8)) (vO P0) hg hat)
  replace S5 := j4.mk (Kd.D5 (ok := (fun k_ => (z6 k_ ∨ w.heap.size ≤ k_) ∧ some k_ ≠ (.slice a15 t110.length a16 : Value).ownBlock ∧ k_ ≠ j8 ∧ k_ ≠ o7 ∧ k_ ≠ n8)) (vO S5) hg hat)
  replace HB := j4.mk (hb)
  have ae4 := j4.mk (ho)
  clear aO1 ho hb hg hat
  obtain ⟨aj3, aj4, cW7⟩ := Kd.s7 ae4.out
  (first | subst cW7 | (injection cW7 with f1_ f2_ f3_; have f4_ := f1_.symm; have f5_ := f3_.symm; clear f1_ f2_ f3_; subst f4_; subst f5_))
  refine kO 26 hK (fun hHeld => ?_)
  clear hK K
  refine pu 12 27 ?_
  refine bz5 (i := 13) (N := none) #[true, true, true, true, true, true, true, true, true, true, true, true, true, true] rfl rfl (bb1 HT_.out z2_) I1 (fun K hK => ?_)
  have eF4 : w41.cell? ⟨n8, 3, none⟩ = some (.slice X6 t107.length X2) := (l7 C2.out 3).trans rfl
  have ep4 := z7 C2.out 3
  have e49 := ai2.out
  have e50 := ai4.out
  have e51 := ai3.out
  have e52 := ai5.out
  refine sk ?_
  refine hK.out _ _ ?_
  clear hK K
  refine au9 (ah0 HT_.out z2_) ?_
  have P5 := sV ⟨n8, 3, none⟩ (.slice aj3 U4.length aj4) C0
  have P6 := sV ⟨n8, 3, none⟩ (.slice aj3 U4.length aj4) C5
  have n2_ := sV ⟨n8, 3, none⟩ (.slice aj3 U4.length aj4) C6
  have n3_ := sV ⟨n8, 3, none⟩ (.slice aj3 U4.length aj4) P0
  have n4_ := sV ⟨n8, 3, none⟩ (.slice aj3 U4.length aj4) S5
  have n5_ := sR ⟨n8, 3, none⟩ (.slice aj3 U4.length aj4) y8 C2
  have n6_ := sR ⟨n8, 3, none⟩ (.slice aj3 U4.length aj4) E2 C2
  have n7_ := sR ⟨n8, 3, none⟩ (.slice aj3 U4.length aj4) ae4 C2
  have n8_ := sB ⟨n8, 3, none⟩ (.slice aj3 U4.length aj4) j5
  have n9_ := sB ⟨n8, 3, none⟩ (.slice aj3 U4.length aj4) j7
  have az1 : j4 ((w41.setCell ⟨n8, 3, none⟩ (.slice aj3 U4.length aj4)).heap[n8]? = some (.cells #[.int .i64 t104, .string t105, .string t106, .slice aj3 U4.length aj4, .slice a15 t110.length a16] 117 (0, 0))) := ⟨kQ C2⟩
  have az2 := j4.mk (I5 (j := 3) (v := .slice aj3 U4.length aj4) HB.out bB3.out)
  clear C0 C5 C6 P0 S5 y8 E2 ae4 j5 j7 C2 HB
  generalize w41.setCell ⟨n8, 3, none⟩ (.slice aj3 U4.length aj4) = w41 at P5 P6 n2_ n3_ n4_ n5_ n6_ n7_ n8_ n9_ az1 az2 ⊢
  have C0 := P5
  have C5 := P6
  have C6 := n2_
  have P0 := n3_
  have S5 := n4_
  have y8 := n5_
  have E2 := n6_
  have ae4 := n7_
  have j5 := n8_
  have j7 := n9_
  have C2 := az1
  have HB := az2
  clear P5 P6 n2_ n3_ n4_ n5_ n6_ n7_ n8_ n9_ az1 az2
  try go_wp2_with (first | ((with_reducible refine l9 (N := 28) rfl ?_); refine Kd.cC5 U7 _ 117 ?hg (N' := 28) ?hd (xs := ([] : List (G9))) (inner := []) (ok := (fun k_ => (z6 k_ ∨ w.heap.size ≤ k_) ∧ some k_ ≠ (.slice X6 t107.length X2 : Value).ownBlock ∧ some k_ ≠ (.slice a15 t110.length a16 : Value).ownBlock ∧ some k_ ≠ (.slice aj3 U4.length aj4 : Value).ownBlock ∧ k_ ≠ j8 ∧ k_ ≠ o7 ∧ k_ ≠ n8)) (okp := (fun k_ => (z6 k_ ∨ w.heap.size ≤ k_) ∧ some k_ ≠ (.slice X6 t107.length X2 : Value).ownBlock ∧ some k_ ≠ (.slice a15 t110.length a16 : Value).ownBlock ∧ some k_ ≠ (.slice aj3 U4.length aj4 : Value).ownBlock ∧ k_ ≠ j8 ∧ k_ ≠ o7 ∧ k_ ≠ n8)) ?hr ?hp (fun _ hk => hk) ((show ∀ k_, w41.heap.size ≤ k_ → (fun k_ => (z6 k_ ∨ w.heap.size ≤ k_) ∧ some k_ ≠ (.slice X6 t107.length X2 : Value).ownBlock ∧ some k_ ≠ (.slice a15 t110.length a16 : Value).ownBlock ∧ some k_ ≠ (.slice aj3 U4.length aj4 : Value).ownBlock ∧ k_ ≠ j8 ∧ k_ ≠ o7 ∧ k_ ≠ n8) k_ from fun k_ hk => ⟨(.inr (Nat.le_trans (bZ) hk)), Kd.fresh' (Kd.aa3 (fO y8 C2)) k_ hk, Kd.fresh' (Kd.aa3 (fO E2 C2)) k_ hk, Kd.fresh' (Kd.aa3 (fO ae4 C2)) k_ hk, (kG j5) k_ hk, (kG j7) k_ hk, (kG C2) k_ hk⟩) _ (Nat.le_refl _)) (Below.refl _ _) (Nat.le_refl _) (by simp) ?_; (case hd => rfl); (case hg => rfl); (case hr => first | (go_simp; done) | (go_simp; rfl)); (case hp => exact (M4.none _ _)); intro c09 w44 bx3 hb hg_ X3; clear hg_ X3; (first | rw [← bR1.out] at bx3 | (simp only [Int.reduceToNat] at bx3; rw [← bR1.out] at bx3)); replace C0 := j4.mk (Kd.P3 (fV C0) (Kd.ab2 bx3) hb); replace C5 := j4.mk (Kd.P3 (fV C5) (Kd.ab2 bx3) hb); replace C6 := j4.mk (Kd.P3 (fV C6) (Kd.ab2 bx3) hb); replace y8 := fS y8 C2 hb; replace E2 := fS E2 C2 hb; replace P0 := j4.mk (Kd.P3 (fV P0) (Kd.ab2 bx3) hb); replace S5 := j4.mk (Kd.P3 (fV S5) (Kd.ab2 bx3) hb); replace ae4 := fS ae4 C2 hb; have aD5 := j4.mk (Kd.aq2 bx3 (bZ)); replace j5 := kS j5 hb; replace j7 := kS j7 hb; replace C2 := kP (.cells #[.int .i64 t104, .string t105, .string t106, .slice aj3 U4.length aj4, .slice a15 t110.length a16] 117 (0, 0)) C2 hb; replace HB := bS hb; clear hb bx3; have dg3 := cz2 j5.out; have dg4 := fz2 j5.out; have q47 : (a1 : Int) ≤ ((C8.length : Int) : Int) := of_decide_eq_true za; obtain ⟨eF5, dg5, _, dK6, _⟩ := info_parts ak2; have ch1 : C8.length ≤ W4 := (Kd.S7 C0.out).2.1; have dK7 : Kd.F U7 _ _ (some a47) C8.length C8 := (Kd.bg8 (base := w.heap.size) C0.out).2.2; have dt4 := bm9 (P := Tryz.prog) 78 117 .i64 Tryz.underlying78 dg5 (some a47) C8.length W4 a1 (of_decide_eq_true za) q47 ch1; have dt5 := Kd.bH0 (m := (a1 : Int).toNat) dK7 (by omega); have dt6 : aZ6.length = (a1 : Int).toNat := (by rw [bR2.out, List.length_take]; omega); rw [← bR2.out] at dt5; rw [← dt6] at dt4; have az6 := j4.mk (show Kd.V U7 117 _ w.heap.size _ (.slice (some a47) aZ6.length W4) aZ6 from Kd.aK5 (by omega) dt5); have dK8 := j4.mk (show aZ6.length ≤ W4 from by omega); clear dt5 dK7 ch1 dg5 dK6; have eF6 := j4.mk dt6; clear dt6; replace q47 := eq_true q47) | ((with_reducible refine N8 (b := .append) (xs := #[.tmp 28, .tmp 32]) rfl ?_); at_builtin; refine Kd.as5 U7 (w0 := w) w.heap.size rfl (.tmp 28) (.tmp 32) 78 117 (.agg #[(.int .i64 0), (.string ⟨#[]⟩), (.string ⟨#[]⟩), (.slice none 0 0), (.slice none 0 0)]) 88 rfl Tryz.underlying78 ak2 rfl I1 (by omega) c09 bQ8 aZ6 _ _ _ (fun k_ => (z6 k_ ∨ w.heap.size ≤ k_) ∧ some k_ ≠ (.slice X6 t107.length X2 : Value).ownBlock ∧ some k_ ≠ (.slice a15 t110.length a16 : Value).ownBlock ∧ some k_ ≠ (.slice aj3 U4.length aj4 : Value).ownBlock ∧ k_ ≠ j8 ∧ k_ ≠ o7 ∧ k_ ≠ n8) (fun k_ => ((fun k_ => (z6 k_ ∨ w.heap.size ≤ k_) ∧ some k_ ≠ (.slice X6 t107.length X2 : Value).ownBlock ∧ some k_ ≠ (.slice a15 t110.length a16 : Value).ownBlock ∧ some k_ ≠ (.slice aj3 U4.length aj4 : Value).ownBlock ∧ k_ ≠ j8 ∧ k_ ≠ o7 ∧ k_ ≠ n8)) k_ ∧ some k_ ≠ (c09 : Value).ownBlock) rfl rfl ?aO ?aR (fun _ hk => hk) ?aF ?aB ?aS ?aL ?_; (case aR => exact (by skip; exact Kd.V_F (Kd.J8 (ok' := (fun k_ => ((fun k_ => (z6 k_ ∨ w.heap.size ≤ k_) ∧ some k_ ≠ (.slice X6 t107.length X2 : Value).ownBlock ∧ some k_ ≠ (.slice a15 t110.length a16 : Value).ownBlock ∧ some k_ ≠ (.slice aj3 U4.length aj4 : Value).ownBlock ∧ k_ ≠ j8 ∧ k_ ≠ o7 ∧ k_ ≠ n8)) k_ ∧ some k_ ≠ (c09 : Value).ownBlock)) (az6.out) (fun k_ hk => ⟨⟨hk.1.1.1, ⟨hk.1.1.2.1, ⟨hk.1.1.2.2.1, ⟨hk.1.2, ⟨hk.1.1.2.2.2.1, ⟨hk.1.1.2.2.2.2.1, hk.1.1.2.2.2.2.2⟩⟩⟩⟩⟩⟩, hk.2⟩)))); (case aB => exact zB); (case aF => exact (fun k_ hk => ⟨(.inr (Nat.le_trans (bZ) hk)), Kd.fresh' (Kd.aa3 (rO y8)) k_ hk, Kd.fresh' (Kd.aa3 (rO E2)) k_ hk, Kd.fresh' (Kd.aa3 (rO ae4)) k_ hk, (kG j5) k_ hk, (kG j7) k_ hk, (kG C2) k_ hk⟩)); (case aO => exact (nO aD5)); (case aS => exact (bZ)); (case aL => have := bf2.out; omega); intro bx4 w48 ho hb hg hat; rw [← cH2.out] at ho; have P5 := j4.mk (Kd.D5 (ok := (fun k_ => (z6 k_ ∨ w.heap.size ≤ k_) ∧ some k_ ≠ (.slice X6 t107.length X2 : Value).ownBlock ∧ some k_ ≠ (.slice a15 t110.length a16 : Value).ownBlock ∧ some k_ ≠ (.slice aj3 U4.length aj4 : Value).ownBlock ∧ k_ ≠ j8 ∧ k_ ≠ o7 ∧ k_ ≠ n8)) (fV C0) hg hat); have P6 := bN j5 aD5 hg; have n2_ := bN j7 aD5 hg; have n3_ := j4.mk (Kd.D5 (ok := (fun k_ => (z6 k_ ∨ w.heap.size ≤ k_) ∧ some k_ ≠ (.slice X6 t107.length X2 : Value).ownBlock ∧ some k_ ≠ (.slice a15 t110.length a16 : Value).ownBlock ∧ some k_ ≠ (.slice aj3 U4.length aj4 : Value).ownBlock ∧ k_ ≠ j8 ∧ k_ ≠ o7 ∧ k_ ≠ n8)) (fV C5) hg hat); have n4_ := j4.mk (Kd.D5 (ok := (fun k_ => (z6 k_ ∨ w.heap.size ≤ k_) ∧ some k_ ≠ (.slice X6 t107.length X2 : Value).ownBlock ∧ some k_ ≠ (.slice a15 t110.length a16 : Value).ownBlock ∧ some k_ ≠ (.slice aj3 U4.length aj4 : Value).ownBlock ∧ k_ ≠ j8 ∧ k_ ≠ o7 ∧ k_ ≠ n8)) (fV C6) hg hat); have n5_ := j4.mk (Kd.X4 (rO y8) (Kd.W9 (nO aD5)) I1 hg); have n6_ := j4.mk (Kd.X4 (rO E2) (Kd.W9 (nO aD5)) I1 hg); have n7_ := j4.mk (I4 (g := n8) (o := .cells #[.int .i64 t104, .string t105, .string t106, .slice aj3 U4.length aj4, .slice a15 t110.length a16] 117 (0, 0)) (kQ C2) hg (Kd.aJ2 aD5.out (fun _ hk => hk.2.2.2.2.2.2))); have n8_ := j4.mk (Kd.D5 (ok := (fun k_ => (z6 k_ ∨ w.heap.size ≤ k_) ∧ some k_ ≠ (.slice a15 t110.length a16 : Value).ownBlock ∧ some k_ ≠ (.slice aj3 U4.length aj4 : Value).ownBlock ∧ k_ ≠ j8 ∧ k_ ≠ o7 ∧ k_ ≠ n8)) (fV P0) hg hat); have n9_ := j4.mk (Kd.D5 (ok := (fun k_ => (z6 k_ ∨ w.heap.size ≤ k_) ∧ some k_ ≠ (.slice a15 t110.length a16 : Value).ownBlock ∧ some k_ ≠ (.slice aj3 U4.length aj4 : Value).ownBlock ∧ k_ ≠ j8 ∧ k_ ≠ o7 ∧ k_ ≠ n8)) (fV S5) hg hat); have az1 := j4.mk (Kd.X4 (rO ae4) (Kd.W9 (nO aD5)) I1 hg); have az2 := j4.mk (Kd.D5 (ok := (fun k_ => (z6 k_ ∨ w.heap.size ≤ k_) ∧ some k_ ≠ (.slice X6 t107.length X2 : Value).ownBlock ∧ some k_ ≠ (.slice a15 t110.length a16 : Value).ownBlock ∧ some k_ ≠ (.slice aj3 U4.length aj4 : Value).ownBlock ∧ k_ ≠ j8 ∧ k_ ≠ o7 ∧ k_ ≠ n8)) (fV az6) hg hat); have aV5 := j4.mk (hb); have bp8 := j4.mk (ho); clear C0 j5 j7 C5 C6 y8 E2 C2 P0 S5 ae4 az6 HB aD5; have C0 := P5; have j5 := P6; have j7 := n2_; have C5 := n3_; have C6 := n4_; have y8 := n5_; have E2 := n6_; have C2 := n7_; have P0 := n8_; have S5 := n9_; have ae4 := az1; have az6 := az2; have HB := aV5; have ay2 := bp8; clear P5 P6 n2_ n3_ n4_ n5_ n6_ n7_ n8_ n9_ az1 az2 aV5 bp8 ho hb hg hat; have de4 := cz5 C2.out; have de5 := fz5 C2.out) | ((with_reducible refine N8 (b := .append) (xs := #[.tmp 38, .tmp 40]) rfl ?_); at_builtin; refine Kd.cC4 U7 (w0 := w) w.heap.size rfl (.tmp 38) (.tmp 40) 78 117 (.agg #[(.int .i64 0), (.string ⟨#[]⟩), (.string ⟨#[]⟩), (.slice none 0 0), (.slice none 0 0)]) 88 rfl Tryz.underlying78 ak2 rfl I1 (by omega) bx4 bh0 (⟨t104, (⟨t105, t106⟩ : G6), U4, t110⟩ : G9) [.int .i64 t104, .string t105, .string t106, .slice aj3 U4.length aj4, .slice a15 t110.length a16] (fun k_ => (z6 k_ ∨ w.heap.size ≤ k_) ∧ some k_ ≠ (.slice X6 t107.length X2 : Value).ownBlock ∧ k_ ≠ j8 ∧ k_ ≠ o7 ∧ k_ ≠ n8) (fun k_ => ((fun k_ => (z6 k_ ∨ w.heap.size ≤ k_) ∧ some k_ ≠ (.slice X6 t107.length X2 : Value).ownBlock ∧ k_ ≠ j8 ∧ k_ ≠ o7 ∧ k_ ≠ n8)) k_ ∧ some k_ ≠ (bx4 : Value).ownBlock) rfl rfl ?aP (fun _ hk => hk) ?aF ?aO ?aB ?aS ?aL ?_; (case aP => exact (aU8 _ _ (⟨t104, (⟨t105, t106⟩ : G6), U4, t110⟩ : G9) (Kd.y7 (Kd.E0 (ok' := (fun k_ => ((fun k_ => (z6 k_ ∨ w.heap.size ≤ k_) ∧ some k_ ≠ (.slice X6 t107.length X2 : Value).ownBlock ∧ k_ ≠ j8 ∧ k_ ≠ o7 ∧ k_ ≠ n8)) k_ ∧ some k_ ≠ (bx4 : Value).ownBlock)) (Kd.z8 (Kd.z8 (Kd.z8 (Kd.V9 (ae4.out) (Kd.W9 ay2.out) I1) j5.out I1) j7.out I1) C2.out I1) (fun k_ hk => ⟨⟨(.inr (hk.1.1.1.1.1)), ⟨hk.1.1.1.1.2, ⟨hk.1.1.2, ⟨hk.1.2, hk.2⟩⟩⟩⟩, hk.1.1.1.2⟩))).2.1 (Kd.R_F (Kd.E0 (ok' := (fun k_ => ((fun k_ => (z6 k_ ∨ w.heap.size ≤ k_) ∧ some k_ ≠ (.slice X6 t107.length X2 : Value).ownBlock ∧ k_ ≠ j8 ∧ k_ ≠ o7 ∧ k_ ≠ n8)) k_ ∧ some k_ ≠ (bx4 : Value).ownBlock)) (Kd.z8 (Kd.z8 (Kd.z8 (Kd.V9 (ae4.out) (Kd.W9 ay2.out) I1) j5.out I1) j7.out I1) C2.out I1) (fun k_ hk => ⟨⟨(.inr (hk.1.1.1.1.1)), ⟨hk.1.1.1.1.2, ⟨hk.1.1.2, ⟨hk.1.2, hk.2⟩⟩⟩⟩, hk.1.1.1.2⟩))) (Kd.y7 (Kd.E0 (ok' := (fun k_ => ((fun k_ => (z6 k_ ∨ w.heap.size ≤ k_) ∧ some k_ ≠ (.slice X6 t107.length X2 : Value).ownBlock ∧ k_ ≠ j8 ∧ k_ ≠ o7 ∧ k_ ≠ n8)) k_ ∧ some k_ ≠ (bx4 : Value).ownBlock)) (Kd.z8 (Kd.z8 (Kd.z8 (Kd.V9 (Kd.V9 (E2.out) (Kd.a44 y8.out) I1) (Kd.W9 ay2.out) I1) j5.out I1) j7.out I1) C2.out I1) (fun k_ hk => ⟨⟨(.inr (hk.1.1.1.1.1)), ⟨hk.1.1.1.1.2, ⟨hk.1.1.2, ⟨hk.1.2, hk.2⟩⟩⟩⟩, hk.1.1.1.2⟩))).2.1 (Kd.R_F (Kd.E0 (ok' := (fun k_ => ((fun k_ => (z6 k_ ∨ w.heap.size ≤ k_) ∧ some k_ ≠ (.slice X6 t107.length X2 : Value).ownBlock ∧ k_ ≠ j8 ∧ k_ ≠ o7 ∧ k_ ≠ n8)) k_ ∧ some k_ ≠ (bx4 : Value).ownBlock)) (Kd.z8 (Kd.z8 (Kd.z8 (Kd.V9 (Kd.V9 (E2.out) (Kd.a44 y8.out) I1) (Kd.W9 ay2.out) I1) j5.out I1) j7.out I1) C2.out I1) (fun k_ hk => ⟨⟨(.inr (hk.1.1.1.1.1)), ⟨hk.1.1.1.1.2, ⟨hk.1.1.2, ⟨hk.1.2, hk.2⟩⟩⟩⟩, hk.1.1.1.2⟩))))); (case aB => exact zB); (case aF => exact (fun k_ hk => ⟨(.inr (Nat.le_trans (bZ) hk)), Kd.fresh' (Kd.aa3 (rO y8)) k_ hk, (kG j5) k_ hk, (kG j7) k_ hk, (kG C2) k_ hk⟩)); (case aO => exact (fN ay2)); (case aS => exact (bZ)); (case aL => have := cH3.out; omega); intro v145 w50 ho hb hg hat; rw [← df8.out] at ho; have P5 := j4.mk (Kd.D5 (ok := (fun k_ => (z6 k_ ∨ w.heap.size ≤ k_) ∧ some k_ ≠ (.slice X6 t107.length X2 : Value).ownBlock ∧ some k_ ≠ (.slice a15 t110.length a16 : Value).ownBlock ∧ some k_ ≠ (.slice aj3 U4.length aj4 : Value).ownBlock ∧ k_ ≠ j8 ∧ k_ ≠ o7 ∧ k_ ≠ n8)) (vO C0) hg hat); have P6 := bN j5 ay2 hg; have n2_ := bN j7 ay2 hg; have n3_ := j4.mk (Kd.D5 (ok := (fun k_ => (z6 k_ ∨ w.heap.size ≤ k_) ∧ some k_ ≠ (.slice X6 t107.length X2 : Value).ownBlock ∧ some k_ ≠ (.slice a15 t110.length a16 : Value).ownBlock ∧ some k_ ≠ (.slice aj3 U4.length aj4 : Value).ownBlock ∧ k_ ≠ j8 ∧ k_ ≠ o7 ∧ k_ ≠ n8)) (vO C5) hg hat); have n4_ := j4.mk (Kd.D5 (ok := (fun k_ => (z6 k_ ∨ w.heap.size ≤ k_) ∧ some k_ ≠ (.slice X6 t107.length X2 : Value).ownBlock ∧ some k_ ≠ (.slice a15 t110.length a16 : Value).ownBlock ∧ some k_ ≠ (.slice aj3 U4.length aj4 : Value).ownBlock ∧ k_ ≠ j8 ∧ k_ ≠ o7 ∧ k_ ≠ n8)) (vO C6) hg hat); have n5_ := j4.mk (Kd.X4 (rO y8) (Kd.W9 (nO ay2)) I1 hg); have n6_ := j4.mk (I4 (g := n8) (o := .cells #[.int .i64 t104, .string t105, .string t106, .slice aj3 U4.length aj4, .slice a15 t110.length a16] 117 (0, 0)) (kQ C2) hg (Kd.aJ2 ay2.out (fun _ hk => hk.2.2.2.2.2.2))); have n7_ := j4.mk (Kd.D5 (ok := (fun k_ => (z6 k_ ∨ w.heap.size ≤ k_) ∧ some k_ ≠ (.slice a15 t110.length a16 : Value).ownBlock ∧ some k_ ≠ (.slice aj3 U4.length aj4 : Value).ownBlock ∧ k_ ≠ j8 ∧ k_ ≠ o7 ∧ k_ ≠ n8)) (vO P0) hg hat); have n8_ := j4.mk (Kd.D5 (ok := (fun k_ => (z6 k_ ∨ w.heap.size ≤ k_) ∧ some k_ ≠ (.slice a15 t110.length a16 : Value).ownBlock ∧ some k_ ≠ (.slice aj3 U4.length aj4 : Value).ownBlock ∧ k_ ≠ j8 ∧ k_ ≠ o7 ∧ k_ ≠ n8)) (vO S5) hg hat); have n9_ := j4.mk (Kd.D5 (ok := (fun k_ => (z6 k_ ∨ w.heap.size ≤ k_) ∧ some k_ ≠ (.slice X6 t107.length X2 : Value).ownBlock ∧ some k_ ≠ (.slice a15 t110.length a16 : Value).ownBlock ∧ some k_ ≠ (.slice aj3 U4.length aj4 : Value).ownBlock ∧ k_ ≠ j8 ∧ k_ ≠ o7 ∧ k_ ≠ n8)) (vO az6) hg hat); have az1 := j4.mk (hb); have az2 := j4.mk (ho); clear C0 j5 j7 C5 C6 y8 C2 P0 S5 az6 HB ay2 E2 ae4; have C0 := P5; have j5 := P6; have j7 := n2_; have C5 := n3_; have C6 := n4_; have y8 := n5_; have C2 := n6_; have P0 := n7_; have S5 := n8_; have az6 := n9_; have HB := az1; have bB6 := az2; clear P5 P6 n2_ n3_ n4_ n5_ n6_ n7_ n8_ n9_ az1 az2 ho hb hg hat; have dg6 := cz2 j5.out; have dg7 := fz2 j5.out; have q52 : ((bh1) : Int) ≤ ((C8.length : Int) : Int) := of_decide_eq_true za; obtain ⟨eF7, dg8, _, dg9, _⟩ := info_parts ak2; have bj3 : C8.length ≤ W4 := (Kd.S7 C0.out).2.1; have dK9 : Kd.F U7 _ _ (some a47) C8.length C8 := (Kd.bg8 (base := w.heap.size) C0.out).2.2; have ea4 : (0 : Int) ≤ ((bh1) : Int) := of_decide_eq_true za; have dt7 := aN3 (P := Tryz.prog) 78 117 .i64 Tryz.underlying78 dg8 5 dg9 (some a47) C8.length W4 (bh1) ea4 q52; have cH7 := Kd.cb9 (m := ((bh1) : Int).toNat) (c := W4) dK9 (by omega) bj3; obtain ⟨A52, cW8⟩ : ∃ A1, A1 = (if W4 = ((bh1) : Int).toNat then (some a47) else ((some a47) : Option Addr).map (·.add (((bh1) : Int).toNat * 5))) := ⟨_, rfl⟩; obtain ⟨c52, cW9⟩ : ∃ c1, c1 = W4 - ((bh1) : Int).toNat := ⟨_, rfl⟩; have cH8 : b75.length = C8.length - ((bh1) : Int).toNat := (by rw [cH4.out, List.length_drop] <;> omega); rw [show (C8).drop ((bh1) : Int).toNat = b75 from cH4.out.symm] at cH7; replace cH7 : Kd.F U7 _ _ A52 b75.length b75 := (by rw [cW8]; exact cH7); rw [← cH8, ← cW8, ← cW9] at dt7; have ch2 := j4.mk (show Kd.V U7 117 _ w.heap.size _ (.slice A52 b75.length c52) b75 from Kd.aK5 (by rw [cH8, cW9]; exact Nat.sub_le_sub_right bj3 _) cH7); have ep5 := j4.mk (show b75.length ≤ c52 from by rw [cH8, cW9]; exact Nat.sub_le_sub_right bj3 _); clear cH7 dK9 bj3 dg8 dg9 cW9; have eF8 := j4.mk cH8; have eF9 := j4.mk cW8; clear cH8 cW8; replace q52 := eq_true q52) | ((with_reducible refine N8 (b := .append) (xs := #[.tmp 42, .tmp 47]) rfl ?_); at_builtin; refine Kd.as5 U7 (w0 := w) w.heap.size rfl (.tmp 42) (.tmp 47) 78 117 (.agg #[(.int .i64 0), (.string ⟨#[]⟩), (.string ⟨#[]⟩), (.slice none 0 0), (.slice none 0 0)]) 88 rfl Tryz.underlying78 ak2 rfl I1 (by omega) v145 c08 b75 _ _ _ (fun k_ => (z6 k_ ∨ w.heap.size ≤ k_) ∧ some k_ ≠ (.slice X6 t107.length X2 : Value).ownBlock ∧ k_ ≠ j8 ∧ k_ ≠ o7 ∧ k_ ≠ n8) (fun k_ => ((fun k_ => (z6 k_ ∨ w.heap.size ≤ k_) ∧ some k_ ≠ (.slice X6 t107.length X2 : Value).ownBlock ∧ k_ ≠ j8 ∧ k_ ≠ o7 ∧ k_ ≠ n8)) k_ ∧ some k_ ≠ (v145 : Value).ownBlock) rfl rfl ?aO ?aR (fun _ hk => hk) ?aF ?aB ?aS ?aL ?_; (case aR => exact (by skip; exact Kd.V_F (Kd.J8 (ok' := (fun k_ => ((fun k_ => (z6 k_ ∨ w.heap.size ≤ k_) ∧ some k_ ≠ (.slice X6 t107.length X2 : Value).ownBlock ∧ k_ ≠ j8 ∧ k_ ≠ o7 ∧ k_ ≠ n8)) k_ ∧ some k_ ≠ (v145 : Value).ownBlock)) (ch2.out) (fun k_ hk => ⟨⟨hk.1.1, ⟨hk.1.2.1, ⟨hk.1.2.2.2.2.1, ⟨hk.1.2.2.2.2.2.1, hk.1.2.2.2.2.2.2⟩⟩⟩⟩, hk.2⟩)))); (case aB => exact zB); (case aF => exact (fun k_ hk => ⟨(.inr (Nat.le_trans (bZ) hk)), Kd.fresh' (Kd.aa3 (rO y8)) k_ hk, (kG j5) k_ hk, (kG j7) k_ hk, (kG C2) k_ hk⟩)); (case aO => exact (nO bB6)); (case aS => exact (bZ)); (case aL => have := dJ9.out; omega); intro eG0 w53 ho hb hg hat; rw [← df9.out] at ho; have P5 := j4.mk (Kd.D5 (ok := (fun k_ => (z6 k_ ∨ w.heap.size ≤ k_) ∧ some k_ ≠ (.slice X6 t107.length X2 : Value).ownBlock ∧ k_ ≠ j8 ∧ k_ ≠ o7 ∧ k_ ≠ n8)) (fV C0) hg hat); have P6 := bN j5 bB6 hg; have n2_ := bN j7 bB6 hg; have n3_ := j4.mk (Kd.D5 (ok := (fun k_ => (z6 k_ ∨ w.heap.size ≤ k_) ∧ some k_ ≠ (.slice X6 t107.length X2 : Value).ownBlock ∧ k_ ≠ j8 ∧ k_ ≠ o7 ∧ k_ ≠ n8)) (fV C5) hg hat); have n4_ := j4.mk (Kd.D5 (ok := (fun k_ => (z6 k_ ∨ w.heap.size ≤ k_) ∧ some k_ ≠ (.slice X6 t107.length X2 : Value).ownBlock ∧ k_ ≠ j8 ∧ k_ ≠ o7 ∧ k_ ≠ n8)) (fV C6) hg hat); have n5_ := j4.mk (Kd.X4 (rO y8) (Kd.W9 (nO bB6)) I1 hg); have n6_ := j4.mk (I4 (g := n8) (o := .cells #[.int .i64 t104, .string t105, .string t106, .slice aj3 U4.length aj4, .slice a15 t110.length a16] 117 (0, 0)) (kQ C2) hg (Kd.aJ2 bB6.out (fun _ hk => hk.2.2.2.2))); have n7_ := j4.mk (Kd.D5 (ok := (fun k_ => (z6 k_ ∨ w.heap.size ≤ k_) ∧ k_ ≠ j8 ∧ k_ ≠ o7 ∧ k_ ≠ n8)) (fV P0) hg hat); have n8_ := j4.mk (Kd.D5 (ok := (fun k_ => (z6 k_ ∨ w.heap.size ≤ k_) ∧ k_ ≠ j8 ∧ k_ ≠ o7 ∧ k_ ≠ n8)) (fV S5) hg hat); have n9_ := j4.mk (Kd.D5 (ok := (fun k_ => (z6 k_ ∨ w.heap.size ≤ k_) ∧ some k_ ≠ (.slice X6 t107.length X2 : Value).ownBlock ∧ k_ ≠ j8 ∧ k_ ≠ o7 ∧ k_ ≠ n8)) (fV az6) hg hat); have az1 := j4.mk (Kd.D5 (ok := (fun k_ => (z6 k_ ∨ w.heap.size ≤ k_) ∧ some k_ ≠ (.slice X6 t107.length X2 : Value).ownBlock ∧ k_ ≠ j8 ∧ k_ ≠ o7 ∧ k_ ≠ n8)) (fV ch2) hg hat); have az2 := j4.mk (hb); have aV5 := j4.mk (ho); clear C0 j5 j7 C5 C6 y8 C2 P0 S5 az6 ch2 HB bB6; have C0 := P5; have j5 := P6; have j7 := n2_; have C5 := n3_; have C6 := n4_; have y8 := n5_; have C2 := n6_; have P0 := n7_; have S5 := n8_; have az6 := n9_; have ch2 := az1; have HB := az2; have dh0 := aV5; clear P5 P6 n2_ n3_ n4_ n5_ n6_ n7_ n8_ n9_ az1 az2 aV5 ho hb hg hat; obtain ⟨ae7, ae8, cu5⟩ := Kd.ax1 dh0.out; subst cu5; have dh1 := cz2 j5.out; have dh2 := fz2 j5.out; have ch3 := cz2 j7.out; have ch4 := fz2 j7.out))
  refine bodyPost_ret (results_cell_row rfl _ _ o7 80 #[.int .i64 r0, .slice ae7 dK0.length ae8] (0, 0) _ rfl (kQ j7) Tryz.underlying80 rfl z2_) rfl ?_
  exact ⟨_, by first | rfl | (simp [W6, W7] <;> rfl) | (simp only [← bB1, ← bR3]; first | rfl | (simp [W6, W7] <;> rfl)) | (simp [*, W6, W7] <;> rfl), fN dh0, zB⟩
 ·have cg7 : decide (0 < U4.length) = false := decide_eq_false (by omega)
  clear c17
  obtain ⟨bh2, bR9⟩ : ∃ j_ : Int, (wrap64 (a1 + 1)) = j_ := ⟨_, rfl⟩
  first | rw [bR9] at H | simp only [bR9] at H
  (try rw [bR9] at A6)
  have ea5 : (IntKind.i64.wrap (a1 + 1)) = bh2 := (Z1 _).trans bR9
  replace H := Q5 H; obtain ⟨dh3, dh4, H⟩ := H
  replace H := Q5 H; obtain ⟨ep6, ep7, H⟩ := H
  first | (with_reducible replace H := bne (C8.drop ((bh2) : Int).toNat : List (G9)) H; obtain ⟨b76, cH9, H⟩ := H) | (generalize V5 : (C8.drop ((bh2) : Int).toNat : List (G9)) = b76 at H; have cH9 := j4.mk V5.symm; clear V5)
  replace H := aj5 H; obtain ⟨dL0, H⟩ := H
  first | (with_reducible replace H := bne (bh0 ++ b76 : List (G9)) H; obtain ⟨dL1, dh5, H⟩ := H) | (generalize V5 : (bh0 ++ b76 : List (G9)) = dL1 at H; have dh5 := j4.mk V5.symm; clear V5)
  simp only [Option.some.injEq, Prod.mk.injEq] at H
  obtain ⟨rfl, rfl⟩ := H
  go_enter Tryz.func96, Tryz.ntmps96
  try go_wp2_with (first | ((with_reducible refine l9 (N := 3) rfl ?_); refine bx (cs := #[.int .i64 r0, .slice ae2 C8.length W4]) (t := 80) ?_; intro j8 hg w61 o8 hb; replace C0 := vE hg C0 hb; have j5 := j4.mk (o8); have L8 := gS hg; have J7 := gS hg; replace HB := bS hb; clear hb o8 hg) | ((with_reducible refine l9 (N := 6) rfl ?_); refine bx (cs := #[.int .i64 0, .slice none 0 0]) (t := 80) ?_; intro o7 hg w62 o8 hb; replace C0 := vE hg C0 hb; have j7 := j4.mk (o8); have as7 := gS hg; have al6 := gS hg; have D1 := nS hg j5; have D3 := nG hg j5; replace j5 := kS j5 hb; replace HB := bS hb; clear hb o8 hg; have dH8 := D1.out; have dH9 := D3.out; have cF2 := cz2 j5.out; have cF3 := fz2 j5.out; have aj1 : 0 ≤ (a1 : Int) := of_decide_eq_true za; have aj2 : a1 < (C8.length : Int) := of_decide_eq_true za; obtain ⟨a47, ax8, ax9, ay0, ay1, aV4, ah1, aR5, bi7, aG5, aG6, an0, an1, an2, an3⟩ := ax2 (Kd.S7 C0.out).2.2 a1 aj1 aj2; cases aV4; obtain ⟨cg8, aR6, aR7, ak9⟩ := Kd.bo2 C0.out z117 a1 aj1 (by first | exact aj2 | exact of_decide_eq_true za | (have e_ := (Kd.S7 C0.out).1; omega)); obtain ⟨bi8, bi9, bj0, bj1, rfl, ab9, ac0, ac1, ac2⟩ := ak3 aR7; have a41 := ak9 3 _ rfl; rw [W5 _ _ 3 (by omega)] at a41; replace a41 := Option.some.inj (a41.symm.trans aG5); injection a41 with ai0 aB1 ai1; rw [ai0] at ac0; rw [ai1] at ab9; have C5 := j4.mk (show Kd.V a01 143 _ w.heap.size _ _ ((o9 C8 a1).f2) from Kd.aK5 ab9 ac0); clear ai0 aB1 ai1 ac0 ab9; have a42 := ak9 4 _ rfl; rw [W5 _ _ 4 (by omega)] at a42; replace a42 := Option.some.inj (a42.symm.trans aG6); injection a42 with ai0 aB1 ai1; rw [ai0] at ac2; rw [ai1] at ac1; have C6 := j4.mk (show Kd.V Kd.string 9 _ w.heap.size _ _ ((o9 C8 a1).f3) from Kd.aK5 ac1 ac2); clear ai0 aB1 ai1 ac2 ac1 ak9 aR6; have U0 := j4.mk an1; have aG7 := j4.mk an0; clear an1 an0; have U1 := j4.mk an3; have aG8 := j4.mk an2; clear an3 an2; replace aj1 := eq_true aj1; replace aj2 := eq_true aj2) | ((with_reducible refine j6 (f := 132) rfl ?_); refine gl 14 Tryz.func132 #[.agg #[.int .i64 ((o9 C8 a1).f0), .string ((o9 C8 a1).f1.f0), .string ((o9 C8 a1).f1.f1), .slice ax8 ((o9 C8 a1).f2).length ax9, .slice ay0 ((o9 C8 a1).f3).length ay1]] ((I0.calls (w := _) (a09 := by repeat (first | exact (by repeat (first | (with_reducible exact U0.out) | (with_reducible refine Kd.K4 ?_ _) | (with_reducible refine Kd.K5 ?_ _) | (with_reducible refine Kd.Q1 ?_) | exact U0.out)) | (with_reducible refine Kd.K4 ?_ _) | (with_reducible refine Kd.K5 ?_ _) | (with_reducible refine Kd.Q1 ?_))) (a10 := aG7.out) (bq5 := by repeat (first | exact (by repeat (first | (with_reducible exact U1.out) | (with_reducible refine Kd.K4 ?_ _) | (with_reducible refine Kd.K5 ?_ _) | (with_reducible refine Kd.Q1 ?_) | exact U1.out)) | (with_reducible refine Kd.K4 ?_ _) | (with_reducible refine Kd.K5 ?_ _) | (with_reducible refine Kd.Q1 ?_))) (bq6 := aG8.out) (h := A6.out)).mono ?_); rintro e w65 ⟨aV9, bH8, rfl, ho0, ho1, hb⟩; refine ⟨_, rfl, ?_⟩; replace C0 := j4.mk (Kd.J8 (Kd.a08 (Kd.a08 (Kd.aJ4 (vO C0) hb) (Kd.J6 ho0)) (Kd.J6 ho1)) (fun _ h_ => h_.1)); replace C5 := j4.mk (Kd.J8 (Kd.a08 (Kd.a08 (Kd.aJ4 (vO C5) hb) (Kd.J6 ho0)) (Kd.J6 ho1)) (fun _ h_ => h_.1)); replace C6 := j4.mk (Kd.J8 (Kd.a08 (Kd.a08 (Kd.aJ4 (vO C6) hb) (Kd.J6 ho0)) (Kd.J6 ho1)) (fun _ h_ => h_.1)); have y8 := j4.mk (Kd.T9 (Kd.ao7 (M := fun k_ => (w.heap.size ≤ k_)) ho0 (bZ) (fun k_ h_ => h_)) (bZ)); have E2 := j4.mk (Kd.T9 (Kd.ao7 (M := fun k_ => (w.heap.size ≤ k_)) ho1 (bZ) (fun k_ h_ => h_)) (bZ)); replace j5 := kS j5 hb; replace j7 := kS j7 hb; replace U0 := cR U0 hb; replace U1 := cR U1 hb; replace HB := bS hb; clear hb ho0; (try clear ho1)) | ((with_reducible refine l9 (N := 7) rfl ?_); refine bx (cs := #[.int .i64 0, .string ⟨#[]⟩, .string ⟨#[]⟩, .slice none 0 0, .slice none 0 0]) (t := 117) ?_; intro n8 hg w66 o8 hb; replace C0 := vE hg C0 hb; replace C5 := vE hg C5 hb; replace C6 := vE hg C6 hb; replace y8 := rS y8 hb; replace E2 := rS E2 hb; replace U0 := cR U0 hb; replace U1 := cR U1 hb; have C2 := j4.mk (o8); have cg9 := gS hg; have bB3 := gS hg; have ai2 := nS hg j5; have ai3 := nG hg j5; replace j5 := kS j5 hb; have ai4 := nS hg j7; have ai5 := nG hg j7; replace j7 := kS j7 hb; replace HB := bS hb; clear hb o8 hg; have cI0 := ai3.out; have cI1 := ai2.out; have cf4 := ai5.out; have cf5 := ai4.out; have bS0 := cz5 C2.out; have bS1 := fz5 C2.out; obtain ⟨a83, a65, c23⟩ := Kd.s7 y8.out; subst c23; obtain ⟨a66, a67, dt8⟩ := Kd.s7 E2.out; subst dt8))
  have P5 : j4 (Kd.V U7 117 (((((w66.setCell ⟨n8, 0, none⟩ (.int .i64 t104)).setCell ⟨n8, 1, none⟩ (.string t105)).setCell ⟨n8, 2, none⟩ (.string t106)).setCell ⟨n8, 3, none⟩ (.slice a83 t107.length a65)).setCell ⟨n8, 4, none⟩ (.slice a66 t110.length a67)) w.heap.size (fun k_ => (z6 k_ ∨ w.heap.size ≤ k_) ∧ some k_ ≠ (.slice a83 t107.length a65 : Value).ownBlock ∧ some k_ ≠ (.slice a66 t110.length a67 : Value).ownBlock ∧ k_ ≠ j8 ∧ k_ ≠ o7 ∧ k_ ≠ n8) (.slice (some a47) C8.length W4) C8) := ⟨fV C0⟩
  have P6 : j4 (Kd.V a01 143 (((((w66.setCell ⟨n8, 0, none⟩ (.int .i64 t104)).setCell ⟨n8, 1, none⟩ (.string t105)).setCell ⟨n8, 2, none⟩ (.string t106)).setCell ⟨n8, 3, none⟩ (.slice a83 t107.length a65)).setCell ⟨n8, 4, none⟩ (.slice a66 t110.length a67)) w.heap.size (fun k_ => (z6 k_ ∨ w.heap.size ≤ k_) ∧ some k_ ≠ (.slice a83 t107.length a65 : Value).ownBlock ∧ some k_ ≠ (.slice a66 t110.length a67 : Value).ownBlock ∧ k_ ≠ j8 ∧ k_ ≠ o7 ∧ k_ ≠ n8) (.slice ax8 ((o9 C8 a1).f2).length ax9) ((o9 C8 a1).f2)) := ⟨fV C5⟩
  have n2_ : j4 (Kd.V Kd.string 9 (((((w66.setCell ⟨n8, 0, none⟩ (.int .i64 t104)).setCell ⟨n8, 1, none⟩ (.string t105)).setCell ⟨n8, 2, none⟩ (.string t106)).setCell ⟨n8, 3, none⟩ (.slice a83 t107.length a65)).setCell ⟨n8, 4, none⟩ (.slice a66 t110.length a67)) w.heap.size (fun k_ => (z6 k_ ∨ w.heap.size ≤ k_) ∧ some k_ ≠ (.slice a83 t107.length a65 : Value).ownBlock ∧ some k_ ≠ (.slice a66 t110.length a67 : Value).ownBlock ∧ k_ ≠ j8 ∧ k_ ≠ o7 ∧ k_ ≠ n8) (.slice ay0 ((o9 C8 a1).f3).length ay1) ((o9 C8 a1).f3)) := ⟨fV C6⟩
  have n3_ : j4 (Kd.R a01 143 (((((w66.setCell ⟨n8, 0, none⟩ (.int .i64 t104)).setCell ⟨n8, 1, none⟩ (.string t105)).setCell ⟨n8, 2, none⟩ (.string t106)).setCell ⟨n8, 3, none⟩ (.slice a83 t107.length a65)).setCell ⟨n8, 4, none⟩ (.slice a66 t110.length a67)) w.heap.size (fun k_ => (w.heap.size ≤ k_)) (.slice a83 t107.length a65) t107) := ⟨fM y8 C2 (fun _ hk => hk.1.1)⟩
  have n4_ : j4 (Kd.R Kd.string 9 (((((w66.setCell ⟨n8, 0, none⟩ (.int .i64 t104)).setCell ⟨n8, 1, none⟩ (.string t105)).setCell ⟨n8, 2, none⟩ (.string t106)).setCell ⟨n8, 3, none⟩ (.slice a83 t107.length a65)).setCell ⟨n8, 4, none⟩ (.slice a66 t110.length a67)) w.heap.size (fun k_ => (w.heap.size ≤ k_)) (.slice a66 t110.length a67) t110) := ⟨fM E2 C2 (fun _ hk => hk.1.1)⟩
  have n5_ : j4 ((((((w66.setCell ⟨n8, 0, none⟩ (.int .i64 t104)).setCell ⟨n8, 1, none⟩ (.string t105)).setCell ⟨n8, 2, none⟩ (.string t106)).setCell ⟨n8, 3, none⟩ (.slice a83 t107.length a65)).setCell ⟨n8, 4, none⟩ (.slice a66 t110.length a67)).heap[j8]? = some (.cells #[.int .i64 r0, .slice (some a47) C8.length W4] 80 (0, 0))) := ⟨kQ j5⟩
  have n6_ : j4 ((((((w66.setCell ⟨n8, 0, none⟩ (.int .i64 t104)).setCell ⟨n8, 1, none⟩ (.string t105)).setCell ⟨n8, 2, none⟩ (.string t106)).setCell ⟨n8, 3, none⟩ (.slice a83 t107.length a65)).setCell ⟨n8, 4, none⟩ (.slice a66 t110.length a67)).heap[o7]? = some (.cells #[.int .i64 0, .slice none 0 0] 80 (0, 0))) := ⟨kQ j7⟩
  have n7_ : j4 ((((((w66.setCell ⟨n8, 0, none⟩ (.int .i64 t104)).setCell ⟨n8, 1, none⟩ (.string t105)).setCell ⟨n8, 2, none⟩ (.string t106)).setCell ⟨n8, 3, none⟩ (.slice a83 t107.length a65)).setCell ⟨n8, 4, none⟩ (.slice a66 t110.length a67)).heap[n8]? = some (.cells #[.int .i64 t104, .string t105, .string t106, .slice a83 t107.length a65, .slice a66 t110.length a67] 117 (0, 0))) := ⟨kQ C2⟩
  have n8_ : j4 (Below w.heap.size w (((((w66.setCell ⟨n8, 0, none⟩ (.int .i64 t104)).setCell ⟨n8, 1, none⟩ (.string t105)).setCell ⟨n8, 2, none⟩ (.string t106)).setCell ⟨n8, 3, none⟩ (.slice a83 t107.length a65)).setCell ⟨n8, 4, none⟩ (.slice a66 t110.length a67))) := ⟨zB⟩
  (try clear C0)
  (try clear C5)
  (try clear C6)
  (try clear y8)
  (try clear E2)
  (try clear j5)
  (try clear j7)
  (try clear C2)
  (try clear HB)
  generalize (((((w66.setCell ⟨n8, 0, none⟩ (.int .i64 t104)).setCell ⟨n8, 1, none⟩ (.string t105)).setCell ⟨n8, 2, none⟩ (.string t106)).setCell ⟨n8, 3, none⟩ (.slice a83 t107.length a65)).setCell ⟨n8, 4, none⟩ (.slice a66 t110.length a67)) = w72 at P5 P6 n2_ n3_ n4_ n5_ n6_ n7_ n8_ ⊢
  have C0 := P5
  have C5 := P6
  have C6 := n2_
  have y8 := n3_
  have E2 := n4_
  have j5 := n5_
  have j7 := n6_
  have C2 := n7_
  have HB := n8_
  clear P5 P6 n2_ n3_ n4_ n5_ n6_ n7_ n8_
  replace C0 := j4.mk (Kd.aA2 C0.out)
  replace C5 := j4.mk (Kd.aA2 C5.out)
  replace C6 := j4.mk (Kd.aA2 C6.out)
  replace y8 := j4.mk (Kd.O0 y8.out)
  replace E2 := j4.mk (Kd.O0 E2.out)
  replace j5 := j4.mk (I7 j5.out)
  replace j7 := j4.mk (I7 j7.out)
  replace C2 := j4.mk (I7 C2.out)
  replace HB := j4.mk (E9 HB.out)
  have q74 : (a2 : Int) ≤ ((t107.length : Int) : Int) := of_decide_eq_true za
  obtain ⟨eG1, dh6, _, dL2, _⟩ := info_parts at1
  have ch5 : t107.length ≤ a65 := (Kd.y7 y8.out).2.1
  have dL3 : Kd.F a01 _ _ a83 t107.length t107 := (Kd.bg8 (base := w.heap.size) (Kd.J8 (ok' := (fun k_ => (((((z6 k_ ∨ w.heap.size ≤ k_) ∧ some k_ ≠ (.slice a66 t110.length a67 : Value).ownBlock) ∧ k_ ≠ j8) ∧ k_ ≠ o7) ∧ k_ ≠ n8))) (Kd.R_V (Kd.z8 (Kd.z8 (Kd.z8 (Kd.V9 (y8.out) (Kd.a44 E2.out) I1) j5.out I1) j7.out I1) C2.out I1)) (fun k_ hk => ⟨⟨⟨⟨(.inr (hk.1.1.1.1)), hk.1.1.1.2⟩, hk.1.1.2⟩, hk.1.2⟩, hk.2⟩))).2.2
  have dt9 := bm9 (P := Tryz.prog) 115 143 .i64 Tryz.underlying115 dh6 a83 t107.length a65 a2 (of_decide_eq_true za) q74 ch5
  have du0 := Kd.bH0 (m := (a2 : Int).toNat) dL3 (by omega)
  have du1 : az3.length = (a2 : Int).toNat := (by rw [aW3.out, List.length_take]; omega)
  rw [← aW3.out] at du0
  rw [← du1] at dt9
  have P0 := j4.mk (show Kd.V a01 143 _ w.heap.size _ (.slice a83 az3.length a65) az3 from Kd.aK5 (by omega) du0)
  have dK3 := j4.mk (show az3.length ≤ a65 from by omega)
  clear du0 dL3 ch5 dh6 dL2
  have eG2 := j4.mk du1
  clear du1
  replace q74 := eq_true q74
  have q75 : ((aN1) : Int) ≤ ((t107.length : Int) : Int) := of_decide_eq_true za
  obtain ⟨eG3, dh7, _, dh8, _⟩ := info_parts at1
  have bj4 : t107.length ≤ a65 := (Kd.y7 y8.out).2.1
  have dL4 : Kd.F a01 _ _ a83 t107.length t107 := (Kd.bg8 (base := w.heap.size) (Kd.J8 (ok' := (fun k_ => (((((z6 k_ ∨ w.heap.size ≤ k_) ∧ some k_ ≠ (.slice a66 t110.length a67 : Value).ownBlock) ∧ k_ ≠ j8) ∧ k_ ≠ o7) ∧ k_ ≠ n8))) (Kd.R_V (Kd.z8 (Kd.z8 (Kd.z8 (Kd.V9 (y8.out) (Kd.a44 E2.out) I1) j5.out I1) j7.out I1) C2.out I1)) (fun k_ hk => ⟨⟨⟨⟨(.inr (hk.1.1.1.1)), hk.1.1.1.2⟩, hk.1.1.2⟩, hk.1.2⟩, hk.2⟩))).2.2
  have ea6 : (0 : Int) ≤ ((aN1) : Int) := of_decide_eq_true za
  have du2 := aN3 (P := Tryz.prog) 115 143 .i64 Tryz.underlying115 dh7 4 dh8 a83 t107.length a65 (aN1) ea6 q75
  have cI2 := Kd.cb9 (m := ((aN1) : Int).toNat) (c := a65) dL4 (by omega) bj4
  obtain ⟨A75, cX0⟩ : ∃ A1, A1 = (if a65 = ((aN1) : Int).toNat then a83 else (a83 : Option Addr).map (·.add (((aN1) : Int).toNat * 4))) := ⟨_, rfl⟩
  obtain ⟨c75, cX1⟩ : ∃ c1, c1 = a65 - ((aN1) : Int).toNat := ⟨_, rfl⟩
  have cI3 : aK7.length = t107.length - ((aN1) : Int).toNat := (by rw [bR0.out, List.length_drop] <;> omega)
  rw [show (t107).drop ((aN1) : Int).toNat = aK7 from bR0.out.symm] at cI2
  replace cI2 : Kd.F a01 _ _ A75 aK7.length aK7 := (by rw [cX0]; exact cI2)
  rw [← cI3, ← cX0, ← cX1] at du2
  have S5 := j4.mk (show Kd.V a01 143 _ w.heap.size _ (.slice A75 aK7.length c75) aK7 from Kd.aK5 (by rw [cI3, cX1]; exact Nat.sub_le_sub_right bj4 _) cI2)
  have dK5 := j4.mk (show aK7.length ≤ c75 from by rw [cI3, cX1]; exact Nat.sub_le_sub_right bj4 _)
  clear cI2 dL4 bj4 dh7 dh8 cX1
  have eG4 := j4.mk cI3
  have eG5 := j4.mk cX0
  clear cI3 cX0
  replace q75 := eq_true q75
  refine ah3 (n := 14) (S := fun w' => w'.cell? ⟨n8, 0, none⟩ = some (.int .i64 t104) ∧ w'.cell? ⟨n8, 1, none⟩ = some (.string t105) ∧ w'.cell? ⟨n8, 2, none⟩ = some (.string t106) ∧ w'.cell? ⟨n8, 3, none⟩ = some (.slice a83 t107.length a65) ∧ w'.cell? ⟨n8, 4, none⟩ = some (.slice a66 t110.length a67)) (ds := [13]) #[false, false, false, false, false, false, false, false, false, false, false, false, false, false] z2_ rfl rfl ⟨(l7 C2.out 0).trans rfl, (l7 C2.out 1).trans rfl, (l7 C2.out 2).trans rfl, (l7 C2.out 3).trans rfl, (l7 C2.out 4).trans rfl⟩ (fun hHeld => ?_); refine a60 Q0.dJ8 Q0.df7 (fun HT_ HW_ => ?_)
  generalize w72.drew = w73 at C0 C5 C6 y8 E2 j5 j7 C2 HB P0 S5 hHeld ⊢
  refine pu 1 16 ?_
  refine pu 3 18 ?_
  refine pu 6 21 ?_
  refine pu 8 23 ?_
  refine pu 9 24 ?_
  refine ta 2 17 ?_
  refine pu 4 19 ?_
  refine ta 7 22 ?_
  refine pu 10 25 ?_
  refine on 0 (some 15) (fun K hK => ?_)
  refine rL a01 143 15 bB0 (fun cW6 w76 bS2 hb => ?_)
  replace C0 := j4.mk (Kd.P3 (vO C0) (Kd.J6 bS2) hb)
  replace C5 := j4.mk (Kd.P3 (vO C5) (Kd.J6 bS2) hb)
  replace C6 := j4.mk (Kd.P3 (vO C6) (Kd.J6 bS2) hb)
  replace E2 := rS E2 hb
  replace P0 := j4.mk (Kd.P3 (vO P0) (Kd.J6 bS2) hb)
  replace S5 := j4.mk (Kd.P3 (vO S5) (Kd.J6 bS2) hb)
  have aF4 := j4.mk (Kd.T9 (Kd.as0 (Kd.ao7 (M := fun k_ => (w.heap.size ≤ k_)) bS2 (bZ) (fun k_ h_ => h_)) (Kd.aa3 (rO y8))) (bZ))
  replace y8 := j4.mk (Kd.ab6 (rO y8) (Kd.J6 bS2) hb)
  replace j5 := kS j5 hb
  replace j7 := kS j7 hb
  replace C2 := kS C2 hb
  replace HB := bS hb
  clear hb bS2
  refine kO 15 hK (fun hHeld => ?_)
  clear hK K
  refine on 5 (some 20) (fun K hK => ?_)
  refine Kd.O4 a01 (w0 := w) w.heap.size (by rfl) (.tmp 15) (.tmp 19) 115 143 (.agg #[(.string ⟨#[]⟩), (.string ⟨#[]⟩), (.int .i64 0), (.int .i64 0)]) 48 rfl Tryz.underlying115 at1 rfl I1 (by omega) cW6 bb8 az3 _ _ _ (fun k_ => (w.heap.size ≤ k_) ∧ some k_ ≠ (.slice a83 t107.length a65 : Value).ownBlock) (fun _ => False) rfl rfl ?aO ?aR (fun _ _ h => h) (fun _ h => h.elim) ?aF ?aB ?aS ?aL ?_
  (case aR => repeat (first | exact (Kd.S7 P0.out).2.2 | (with_reducible refine Kd.K4 ?_ _) | (with_reducible refine Kd.K5 ?_ _) | (with_reducible refine Kd.Q1 ?_)))
  (case aB => exact zB)
  (case aF => exact (fun k_ hk => ⟨(Nat.le_trans (bZ) hk), Kd.fresh' (Kd.aa3 (rO y8)) k_ hk⟩))
  (case aO => exact (by (with_reducible repeat (first | apply Kd.N9 | apply Kd.M8 | apply Kd.O0)); exact Kd.E0 aF4.out (fun _ hk => ⟨hk.1.1, hk.2⟩)))
  (case aS => exact (bZ))
  (case aL => have := cV5.out; omega)
  intro dt3 w78 ho hb hg hat
  rw [← cH0.out] at ho
  replace C0 := j4.mk (Kd.D5 (ok := (fun k_ => (z6 k_ ∨ w.heap.size ≤ k_) ∧ some k_ ≠ (.slice a83 t107.length a65 : Value).ownBlock ∧ some k_ ≠ (.slice a66 t110.length a67 : Value).ownBlock ∧ k_ ≠ j8 ∧ k_ ≠ o7 ∧ k_ ≠ n8)) (vO C0) hg hat)
  replace j5 := bG j5 aF4 hg
  replace j7 := bG j7 aF4 hg
  replace C5 := j4.mk (Kd.D5 (ok := (fun k_ => (z6 k_ ∨ w.heap.size ≤ k_) ∧ some k_ ≠ (.slice a83 t107.length a65 : Value).ownBlock ∧ some k_ ≠ (.slice a66 t110.length a67 : Value).ownBlock ∧ k_ ≠ j8 ∧ k_ ≠ o7 ∧ k_ ≠ n8)) (vO C5) hg hat)
  replace C6 := j4.mk (Kd.D5 (ok := (fun k_ => (z6 k_ ∨ w.heap.size ≤ k_) ∧ some k_ ≠ (.slice a83 t107.length a65 : Value).ownBlock ∧ some k_ ≠ (.slice a66 t110.length a67 : Value).ownBlock ∧ k_ ≠ j8 ∧ k_ ≠ o7 ∧ k_ ≠ n8)) (vO C6) hg hat)
  replace y8 := j4.mk (Kd.aK8 (ok := (fun k_ => (w.heap.size ≤ k_))) (rO y8) hg hat)
  replace E2 := j4.mk (Kd.X4 (rO E2) (Kd.a44 (rO aF4)) I1 hg)
  replace C2 := bG C2 aF4 hg
  replace P0 := j4.mk (Kd.D5 (ok := (fun k_ => (z6 k_ ∨ w.heap.size ≤ k_) ∧ some k_ ≠ (.slice a66 t110.length a67 : Value).ownBlock ∧ k_ ≠ j8 ∧ k_ ≠ o7 ∧ k_ ≠ n8)) (fV P0) hg hat)
  replace S5 := j4.mk (Kd.D5 (ok := (fun k_ => (z6 k_ ∨ w.heap.size ≤ k_) ∧ some k_ ≠ (.slice a66 t110.length a67 : Value).ownBlock ∧ k_ ≠ j8 ∧ k_ ≠ o7 ∧ k_ ≠ n8)) (fV S5) hg hat)
  replace HB := j4.mk (hb)
  have aO1 := j4.mk (ho)
  clear aF4 ho hb hg hat
  refine kO 20 hK (fun hHeld => ?_)
  clear hK K
  refine on 11 (some 26) (fun K hK => ?_)
  refine Kd.O4 a01 (w0 := w) w.heap.size (by rfl) (.tmp 20) (.tmp 25) 115 143 (.agg #[(.string ⟨#[]⟩), (.string ⟨#[]⟩), (.int .i64 0), (.int .i64 0)]) 48 rfl Tryz.underlying115 at1 rfl I1 (by omega) dt3 bQ7 aK7 _ _ _ (fun k_ => (w.heap.size ≤ k_) ∧ some k_ ≠ (.slice a83 t107.length a65 : Value).ownBlock) (fun _ => False) rfl rfl ?aO ?aR (fun _ _ h => h) (fun _ h => h.elim) ?aF ?aB ?aS ?aL ?_
  (case aR => repeat (first | exact (Kd.S7 S5.out).2.2 | (with_reducible refine Kd.K4 ?_ _) | (with_reducible refine Kd.K5 ?_ _) | (with_reducible refine Kd.Q1 ?_)))
  (case aB => exact zB)
  (case aF => exact (fun k_ hk => ⟨(Nat.le_trans (bZ) hk), Kd.fresh' (Kd.aa3 (rO y8)) k_ hk⟩))
  (case aO => exact (rO aO1))
  (case aS => exact (bZ))
  (case aL => have := cg5.out; omega)
  intro v131 w79 ho hb hg hat
  rw [← cH1.out] at ho
  replace C0 := j4.mk (Kd.D5 (ok := (fun k_ => (z6 k_ ∨ w.heap.size ≤ k_) ∧ some k_ ≠ (.slice a83 t107.length a65 : Value).ownBlock ∧ some k_ ≠ (.slice a66 t110.length a67 : Value).ownBlock ∧ k_ ≠ j8 ∧ k_ ≠ o7 ∧ k_ ≠ n8)) (vO C0) hg hat)
  replace j5 := bG j5 aO1 hg
  replace j7 := bG j7 aO1 hg
  replace C5 := j4.mk (Kd.D5 (ok := (fun k_ => (z6 k_ ∨ w.heap.size ≤ k_) ∧ some k_ ≠ (.slice a83 t107.length a65 : Value).ownBlock ∧ some k_ ≠ (.slice a66 t110.length a67 : Value).ownBlock ∧ k_ ≠ j8 ∧ k_ ≠ o7 ∧ k_ ≠ n8)) (vO C5) hg hat)
  replace C6 := j4.mk (Kd.D5 (ok := (fun k_ => (z6 k_ ∨ w.heap.size ≤ k_) ∧ some k_ ≠ (.slice a83 t107.length a65 : Value).ownBlock ∧ some k_ ≠ (.slice a66 t110.length a67 : Value).ownBlock ∧ k_ ≠ j8 ∧ k_ ≠ o7 ∧ k_ ≠ n8)) (vO C6) hg hat)
  replace y8 := j4.mk (Kd.aK8 (ok := (fun k_ => (w.heap.size ≤ k_))) (rO y8) hg hat)
  replace E2 := j4.mk (Kd.X4 (rO E2) (Kd.a44 (rO aO1)) I1 hg)
  replace C2 := bG C2 aO1 hg
  replace P0 := j4.mk (Kd.D5 (ok := (fun k_ => (z6 k_ ∨ w.heap.size ≤ k_) ∧ some k_ ≠ (.slice a66 t110.length a67 : Value).ownBlock ∧ k_ ≠ j8 ∧ k_ ≠ o7 ∧ k_ ≠ n8)) (vO P0) hg hat)
  replace S5 := j4.mk (Kd.D5 (ok := (fun k_ => (z6 k_ ∨ w.heap.size ≤ k_) ∧ some k_ ≠ (.slice a66 t110.length a67 : Value).ownBlock ∧ k_ ≠ j8 ∧ k_ ≠ o7 ∧ k_ ≠ n8)) (vO S5) hg hat)
  replace HB := j4.mk (hb)
  have ae4 := j4.mk (ho)
  clear aO1 ho hb hg hat
  obtain ⟨ai6, ai7, cX2⟩ := Kd.s7 ae4.out
  (first | subst cX2 | (injection cX2 with f1_ f2_ f3_; have f4_ := f1_.symm; have f5_ := f3_.symm; clear f1_ f2_ f3_; subst f4_; subst f5_))
  refine kO 26 hK (fun hHeld => ?_)
  clear hK K
  refine pu 12 27 ?_
  refine bz5 (i := 13) (N := none) #[true, true, true, true, true, true, true, true, true, true, true, true, true, true] rfl rfl (bb1 HT_.out z2_) I1 (fun K hK => ?_)
  have eG6 : w79.cell? ⟨n8, 3, none⟩ = some (.slice a83 t107.length a65) := (l7 C2.out 3).trans rfl
  have ep8 := z7 C2.out 3
  have e53 := ai2.out
  have e54 := ai4.out
  have e55 := ai3.out
  have e56 := ai5.out
  refine sk ?_
  refine hK.out _ _ ?_
  clear hK K
  refine au9 (ah0 HT_.out z2_) ?_
  have P5 := sV ⟨n8, 3, none⟩ (.slice ai6 U4.length ai7) C0
  have P6 := sV ⟨n8, 3, none⟩ (.slice ai6 U4.length ai7) C5
  have n2_ := sV ⟨n8, 3, none⟩ (.slice ai6 U4.length ai7) C6
  have n3_ := sV ⟨n8, 3, none⟩ (.slice ai6 U4.length ai7) P0
  have n4_ := sV ⟨n8, 3, none⟩ (.slice ai6 U4.length ai7) S5
  have n5_ := sR ⟨n8, 3, none⟩ (.slice ai6 U4.length ai7) y8 C2
  have n6_ := sR ⟨n8, 3, none⟩ (.slice ai6 U4.length ai7) E2 C2
  have n7_ := sR ⟨n8, 3, none⟩ (.slice ai6 U4.length ai7) ae4 C2
  have n8_ := sB ⟨n8, 3, none⟩ (.slice ai6 U4.length ai7) j5
  have n9_ := sB ⟨n8, 3, none⟩ (.slice ai6 U4.length ai7) j7
  have az1 : j4 ((w79.setCell ⟨n8, 3, none⟩ (.slice ai6 U4.length ai7)).heap[n8]? = some (.cells #[.int .i64 t104, .string t105, .string t106, .slice ai6 U4.length ai7, .slice a66 t110.length a67] 117 (0, 0))) := ⟨kQ C2⟩
  have az2 := j4.mk (I5 (j := 3) (v := .slice ai6 U4.length ai7) HB.out bB3.out)
  clear C0 C5 C6 P0 S5 y8 E2 ae4 j5 j7 C2 HB
  generalize w79.setCell ⟨n8, 3, none⟩ (.slice ai6 U4.length ai7) = w79 at P5 P6 n2_ n3_ n4_ n5_ n6_ n7_ n8_ n9_ az1 az2 ⊢
  have C0 := P5
  have C5 := P6
  have C6 := n2_
  have P0 := n3_
  have S5 := n4_
  have y8 := n5_
  have E2 := n6_
  have ae4 := n7_
  have j5 := n8_
  have j7 := n9_
  have C2 := az1
  have HB := az2
  clear P5 P6 n2_ n3_ n4_ n5_ n6_ n7_ n8_ n9_ az1 az2
  try go_wp2_with (first | ((with_reducible refine l9 (N := 28) rfl ?_); refine Kd.cC5 U7 _ 117 ?hg (N' := 28) ?hd (xs := ([] : List (G9))) (inner := []) (ok := (fun k_ => (z6 k_ ∨ w.heap.size ≤ k_) ∧ some k_ ≠ (.slice a83 t107.length a65 : Value).ownBlock ∧ some k_ ≠ (.slice a66 t110.length a67 : Value).ownBlock ∧ some k_ ≠ (.slice ai6 U4.length ai7 : Value).ownBlock ∧ k_ ≠ j8 ∧ k_ ≠ o7 ∧ k_ ≠ n8)) (okp := (fun k_ => (z6 k_ ∨ w.heap.size ≤ k_) ∧ some k_ ≠ (.slice a83 t107.length a65 : Value).ownBlock ∧ some k_ ≠ (.slice a66 t110.length a67 : Value).ownBlock ∧ some k_ ≠ (.slice ai6 U4.length ai7 : Value).ownBlock ∧ k_ ≠ j8 ∧ k_ ≠ o7 ∧ k_ ≠ n8)) ?hr ?hp (fun _ hk => hk) ((show ∀ k_, w79.heap.size ≤ k_ → (fun k_ => (z6 k_ ∨ w.heap.size ≤ k_) ∧ some k_ ≠ (.slice a83 t107.length a65 : Value).ownBlock ∧ some k_ ≠ (.slice a66 t110.length a67 : Value).ownBlock ∧ some k_ ≠ (.slice ai6 U4.length ai7 : Value).ownBlock ∧ k_ ≠ j8 ∧ k_ ≠ o7 ∧ k_ ≠ n8) k_ from fun k_ hk => ⟨(.inr (Nat.le_trans (bZ) hk)), Kd.fresh' (Kd.aa3 (fO y8 C2)) k_ hk, Kd.fresh' (Kd.aa3 (fO E2 C2)) k_ hk, Kd.fresh' (Kd.aa3 (fO ae4 C2)) k_ hk, (kG j5) k_ hk, (kG j7) k_ hk, (kG C2) k_ hk⟩) _ (Nat.le_refl _)) (Below.refl _ _) (Nat.le_refl _) (by simp) ?_; (case hd => rfl); (case hg => rfl); (case hr => first | (go_simp; done) | (go_simp; rfl)); (case hp => exact (M4.none _ _)); intro c09 w82 bx5 hb hg_ X3; clear hg_ X3; (first | rw [← bR1.out] at bx5 | (simp only [Int.reduceToNat] at bx5; rw [← bR1.out] at bx5)); replace C0 := j4.mk (Kd.P3 (fV C0) (Kd.ab2 bx5) hb); replace C5 := j4.mk (Kd.P3 (fV C5) (Kd.ab2 bx5) hb); replace C6 := j4.mk (Kd.P3 (fV C6) (Kd.ab2 bx5) hb); replace y8 := fS y8 C2 hb; replace E2 := fS E2 C2 hb; replace P0 := j4.mk (Kd.P3 (fV P0) (Kd.ab2 bx5) hb); replace S5 := j4.mk (Kd.P3 (fV S5) (Kd.ab2 bx5) hb); replace ae4 := fS ae4 C2 hb; have aD5 := j4.mk (Kd.aq2 bx5 (bZ)); replace j5 := kS j5 hb; replace j7 := kS j7 hb; replace C2 := kP (.cells #[.int .i64 t104, .string t105, .string t106, .slice ai6 U4.length ai7, .slice a66 t110.length a67] 117 (0, 0)) C2 hb; replace HB := bS hb; clear hb bx5; have dL5 := cz2 j5.out; have dL6 := fz2 j5.out; have q85 : (a1 : Int) ≤ ((C8.length : Int) : Int) := of_decide_eq_true za; obtain ⟨eG7, dh9, _, dL7, _⟩ := info_parts ak2; have ch6 : C8.length ≤ W4 := (Kd.S7 C0.out).2.1; have dL8 : Kd.F U7 _ _ (some a47) C8.length C8 := (Kd.bg8 (base := w.heap.size) C0.out).2.2; have du3 := bm9 (P := Tryz.prog) 78 117 .i64 Tryz.underlying78 dh9 (some a47) C8.length W4 a1 (of_decide_eq_true za) q85 ch6; have du4 := Kd.bH0 (m := (a1 : Int).toNat) dL8 (by omega); have du5 : aZ6.length = (a1 : Int).toNat := (by rw [bR2.out, List.length_take]; omega); rw [← bR2.out] at du4; rw [← du5] at du3; have az6 := j4.mk (show Kd.V U7 117 _ w.heap.size _ (.slice (some a47) aZ6.length W4) aZ6 from Kd.aK5 (by omega) du4); have dK8 := j4.mk (show aZ6.length ≤ W4 from by omega); clear du4 dL8 ch6 dh9 dL7; have eG8 := j4.mk du5; clear du5; replace q85 := eq_true q85) | ((with_reducible refine N8 (b := .append) (xs := #[.tmp 28, .tmp 32]) rfl ?_); at_builtin; refine Kd.as5 U7 (w0 := w) w.heap.size rfl (.tmp 28) (.tmp 32) 78 117 (.agg #[(.int .i64 0), (.string ⟨#[]⟩), (.string ⟨#[]⟩), (.slice none 0 0), (.slice none 0 0)]) 88 rfl Tryz.underlying78 ak2 rfl I1 (by omega) c09 bQ8 aZ6 _ _ _ (fun k_ => (z6 k_ ∨ w.heap.size ≤ k_) ∧ some k_ ≠ (.slice a83 t107.length a65 : Value).ownBlock ∧ some k_ ≠ (.slice a66 t110.length a67 : Value).ownBlock ∧ some k_ ≠ (.slice ai6 U4.length ai7 : Value).ownBlock ∧ k_ ≠ j8 ∧ k_ ≠ o7 ∧ k_ ≠ n8) (fun k_ => ((fun k_ => (z6 k_ ∨ w.heap.size ≤ k_) ∧ some k_ ≠ (.slice a83 t107.length a65 : Value).ownBlock ∧ some k_ ≠ (.slice a66 t110.length a67 : Value).ownBlock ∧ some k_ ≠ (.slice ai6 U4.length ai7 : Value).ownBlock ∧ k_ ≠ j8 ∧ k_ ≠ o7 ∧ k_ ≠ n8)) k_ ∧ some k_ ≠ (c09 : Value).ownBlock) rfl rfl ?aO ?aR (fun _ hk => hk) ?aF ?aB ?aS ?aL ?_; (case aR => exact (by skip; exact Kd.V_F (Kd.J8 (ok' := (fun k_ => ((fun k_ => (z6 k_ ∨ w.heap.size ≤ k_) ∧ some k_ ≠ (.slice a83 t107.length a65 : Value).ownBlock ∧ some k_ ≠ (.slice a66 t110.length a67 : Value).ownBlock ∧ some k_ ≠ (.slice ai6 U4.length ai7 : Value).ownBlock ∧ k_ ≠ j8 ∧ k_ ≠ o7 ∧ k_ ≠ n8)) k_ ∧ some k_ ≠ (c09 : Value).ownBlock)) (az6.out) (fun k_ hk => ⟨⟨hk.1.1.1, ⟨hk.1.1.2.1, ⟨hk.1.1.2.2.1, ⟨hk.1.2, ⟨hk.1.1.2.2.2.1, ⟨hk.1.1.2.2.2.2.1, hk.1.1.2.2.2.2.2⟩⟩⟩⟩⟩⟩, hk.2⟩)))); (case aB => exact zB); (case aF => exact (fun k_ hk => ⟨(.inr (Nat.le_trans (bZ) hk)), Kd.fresh' (Kd.aa3 (rO y8)) k_ hk, Kd.fresh' (Kd.aa3 (rO E2)) k_ hk, Kd.fresh' (Kd.aa3 (rO ae4)) k_ hk, (kG j5) k_ hk, (kG j7) k_ hk, (kG C2) k_ hk⟩)); (case aO => exact (nO aD5)); (case aS => exact (bZ)); (case aL => have := bf2.out; omega); intro bx4 w86 ho hb hg hat; rw [← cH2.out] at ho; have P5 := j4.mk (Kd.D5 (ok := (fun k_ => (z6 k_ ∨ w.heap.size ≤ k_) ∧ some k_ ≠ (.slice a83 t107.length a65 : Value).ownBlock ∧ some k_ ≠ (.slice a66 t110.length a67 : Value).ownBlock ∧ some k_ ≠ (.slice ai6 U4.length ai7 : Value).ownBlock ∧ k_ ≠ j8 ∧ k_ ≠ o7 ∧ k_ ≠ n8)) (fV C0) hg hat); have P6 := bN j5 aD5 hg; have n2_ := bN j7 aD5 hg; have n3_ := j4.mk (Kd.D5 (ok := (fun k_ => (z6 k_ ∨ w.heap.size ≤ k_) ∧ some k_ ≠ (.slice a83 t107.length a65 : Value).ownBlock ∧ some k_ ≠ (.slice a66 t110.length a67 : Value).ownBlock ∧ some k_ ≠ (.slice ai6 U4.length ai7 : Value).ownBlock ∧ k_ ≠ j8 ∧ k_ ≠ o7 ∧ k_ ≠ n8)) (fV C5) hg hat); have n4_ := j4.mk (Kd.D5 (ok := (fun k_ => (z6 k_ ∨ w.heap.size ≤ k_) ∧ some k_ ≠ (.slice a83 t107.length a65 : Value).ownBlock ∧ some k_ ≠ (.slice a66 t110.length a67 : Value).ownBlock ∧ some k_ ≠ (.slice ai6 U4.length ai7 : Value).ownBlock ∧ k_ ≠ j8 ∧ k_ ≠ o7 ∧ k_ ≠ n8)) (fV C6) hg hat); have n5_ := j4.mk (Kd.X4 (rO y8) (Kd.W9 (nO aD5)) I1 hg); have n6_ := j4.mk (Kd.X4 (rO E2) (Kd.W9 (nO aD5)) I1 hg); have n7_ := j4.mk (I4 (g := n8) (o := .cells #[.int .i64 t104, .string t105, .string t106, .slice ai6 U4.length ai7, .slice a66 t110.length a67] 117 (0, 0)) (kQ C2) hg (Kd.aJ2 aD5.out (fun _ hk => hk.2.2.2.2.2.2))); have n8_ := j4.mk (Kd.D5 (ok := (fun k_ => (z6 k_ ∨ w.heap.size ≤ k_) ∧ some k_ ≠ (.slice a66 t110.length a67 : Value).ownBlock ∧ some k_ ≠ (.slice ai6 U4.length ai7 : Value).ownBlock ∧ k_ ≠ j8 ∧ k_ ≠ o7 ∧ k_ ≠ n8)) (fV P0) hg hat); have n9_ := j4.mk (Kd.D5 (ok := (fun k_ => (z6 k_ ∨ w.heap.size ≤ k_) ∧ some k_ ≠ (.slice a66 t110.length a67 : Value).ownBlock ∧ some k_ ≠ (.slice ai6 U4.length ai7 : Value).ownBlock ∧ k_ ≠ j8 ∧ k_ ≠ o7 ∧ k_ ≠ n8)) (fV S5) hg hat); have az1 := j4.mk (Kd.X4 (rO ae4) (Kd.W9 (nO aD5)) I1 hg); have az2 := j4.mk (Kd.D5 (ok := (fun k_ => (z6 k_ ∨ w.heap.size ≤ k_) ∧ some k_ ≠ (.slice a83 t107.length a65 : Value).ownBlock ∧ some k_ ≠ (.slice a66 t110.length a67 : Value).ownBlock ∧ some k_ ≠ (.slice ai6 U4.length ai7 : Value).ownBlock ∧ k_ ≠ j8 ∧ k_ ≠ o7 ∧ k_ ≠ n8)) (fV az6) hg hat); have aV5 := j4.mk (hb); have bp8 := j4.mk (ho); clear C0 j5 j7 C5 C6 y8 E2 C2 P0 S5 ae4 az6 HB aD5; have C0 := P5; have j5 := P6; have j7 := n2_; have C5 := n3_; have C6 := n4_; have y8 := n5_; have E2 := n6_; have C2 := n7_; have P0 := n8_; have S5 := n9_; have ae4 := az1; have az6 := az2; have HB := aV5; have ay2 := bp8; clear P5 P6 n2_ n3_ n4_ n5_ n6_ n7_ n8_ n9_ az1 az2 aV5 bp8 ho hb hg hat; have dL9 := cz5 C2.out; have dM0 := fz5 C2.out; have ep9 := cz2 j5.out; have eq0 := fz2 j5.out; have q89 : ((bh2) : Int) ≤ ((C8.length : Int) : Int) := of_decide_eq_true za; obtain ⟨eG9, di0, _, di1, _⟩ := info_parts ak2; have bj5 : C8.length ≤ W4 := (Kd.S7 C0.out).2.1; have dM1 : Kd.F U7 _ _ (some a47) C8.length C8 := (Kd.bg8 (base := w.heap.size) C0.out).2.2; have ea7 : (0 : Int) ≤ ((bh2) : Int) := of_decide_eq_true za; have du6 := aN3 (P := Tryz.prog) 78 117 .i64 Tryz.underlying78 di0 5 di1 (some a47) C8.length W4 (bh2) ea7 q89; have cI4 := Kd.cb9 (m := ((bh2) : Int).toNat) (c := W4) dM1 (by omega) bj5; obtain ⟨A89, cX3⟩ : ∃ A1, A1 = (if W4 = ((bh2) : Int).toNat then (some a47) else ((some a47) : Option Addr).map (·.add (((bh2) : Int).toNat * 5))) := ⟨_, rfl⟩; obtain ⟨c89, cX4⟩ : ∃ c1, c1 = W4 - ((bh2) : Int).toNat := ⟨_, rfl⟩; have cI5 : b76.length = C8.length - ((bh2) : Int).toNat := (by rw [cH9.out, List.length_drop] <;> omega); rw [show (C8).drop ((bh2) : Int).toNat = b76 from cH9.out.symm] at cI4; replace cI4 : Kd.F U7 _ _ A89 b76.length b76 := (by rw [cX3]; exact cI4); rw [← cI5, ← cX3, ← cX4] at du6; have ch7 := j4.mk (show Kd.V U7 117 _ w.heap.size _ (.slice A89 b76.length c89) b76 from Kd.aK5 (by rw [cI5, cX4]; exact Nat.sub_le_sub_right bj5 _) cI4); have eq1 := j4.mk (show b76.length ≤ c89 from by rw [cI5, cX4]; exact Nat.sub_le_sub_right bj5 _); clear cI4 dM1 bj5 di0 di1 cX4; have eH0 := j4.mk cI5; have eH1 := j4.mk cX3; clear cI5 cX3; replace q89 := eq_true q89) | ((with_reducible refine N8 (b := .append) (xs := #[.tmp 42, .tmp 47]) rfl ?_); at_builtin; refine Kd.as5 U7 (w0 := w) w.heap.size rfl (.tmp 42) (.tmp 47) 78 117 (.agg #[(.int .i64 0), (.string ⟨#[]⟩), (.string ⟨#[]⟩), (.slice none 0 0), (.slice none 0 0)]) 88 rfl Tryz.underlying78 ak2 rfl I1 (by omega) bx4 bh0 b76 _ _ _ (fun k_ => (z6 k_ ∨ w.heap.size ≤ k_) ∧ some k_ ≠ (.slice a83 t107.length a65 : Value).ownBlock ∧ some k_ ≠ (.slice a66 t110.length a67 : Value).ownBlock ∧ some k_ ≠ (.slice ai6 U4.length ai7 : Value).ownBlock ∧ k_ ≠ j8 ∧ k_ ≠ o7 ∧ k_ ≠ n8) (fun k_ => ((fun k_ => (z6 k_ ∨ w.heap.size ≤ k_) ∧ some k_ ≠ (.slice a83 t107.length a65 : Value).ownBlock ∧ some k_ ≠ (.slice a66 t110.length a67 : Value).ownBlock ∧ some k_ ≠ (.slice ai6 U4.length ai7 : Value).ownBlock ∧ k_ ≠ j8 ∧ k_ ≠ o7 ∧ k_ ≠ n8)) k_ ∧ some k_ ≠ (bx4 : Value).ownBlock) rfl rfl ?aO ?aR (fun _ hk => hk) ?aF ?aB ?aS ?aL ?_; (case aR => exact (by skip; exact Kd.V_F (Kd.J8 (ok' := (fun k_ => ((fun k_ => (z6 k_ ∨ w.heap.size ≤ k_) ∧ some k_ ≠ (.slice a83 t107.length a65 : Value).ownBlock ∧ some k_ ≠ (.slice a66 t110.length a67 : Value).ownBlock ∧ some k_ ≠ (.slice ai6 U4.length ai7 : Value).ownBlock ∧ k_ ≠ j8 ∧ k_ ≠ o7 ∧ k_ ≠ n8)) k_ ∧ some k_ ≠ (bx4 : Value).ownBlock)) (ch7.out) (fun k_ hk => ⟨⟨hk.1.1, ⟨hk.1.2.1, ⟨hk.1.2.2.1, ⟨hk.1.2.2.2.1, ⟨hk.1.2.2.2.2.1, ⟨hk.1.2.2.2.2.2.1, hk.1.2.2.2.2.2.2⟩⟩⟩⟩⟩⟩, hk.2⟩)))); (case aB => exact zB); (case aF => exact (fun k_ hk => ⟨(.inr (Nat.le_trans (bZ) hk)), Kd.fresh' (Kd.aa3 (rO y8)) k_ hk, Kd.fresh' (Kd.aa3 (rO E2)) k_ hk, Kd.fresh' (Kd.aa3 (rO ae4)) k_ hk, (kG j5) k_ hk, (kG j7) k_ hk, (kG C2) k_ hk⟩)); (case aO => exact (nO ay2)); (case aS => exact (bZ)); (case aL => have := dL0.out; omega); intro eH2 w90 ho hb hg hat; rw [← dh5.out] at ho; have P5 := j4.mk (Kd.D5 (ok := (fun k_ => (z6 k_ ∨ w.heap.size ≤ k_) ∧ some k_ ≠ (.slice a83 t107.length a65 : Value).ownBlock ∧ some k_ ≠ (.slice a66 t110.length a67 : Value).ownBlock ∧ some k_ ≠ (.slice ai6 U4.length ai7 : Value).ownBlock ∧ k_ ≠ j8 ∧ k_ ≠ o7 ∧ k_ ≠ n8)) (vO C0) hg hat); have P6 := bN j5 ay2 hg; have n2_ := bN j7 ay2 hg; have n3_ := j4.mk (Kd.D5 (ok := (fun k_ => (z6 k_ ∨ w.heap.size ≤ k_) ∧ some k_ ≠ (.slice a83 t107.length a65 : Value).ownBlock ∧ some k_ ≠ (.slice a66 t110.length a67 : Value).ownBlock ∧ some k_ ≠ (.slice ai6 U4.length ai7 : Value).ownBlock ∧ k_ ≠ j8 ∧ k_ ≠ o7 ∧ k_ ≠ n8)) (vO C5) hg hat); have n4_ := j4.mk (Kd.D5 (ok := (fun k_ => (z6 k_ ∨ w.heap.size ≤ k_) ∧ some k_ ≠ (.slice a83 t107.length a65 : Value).ownBlock ∧ some k_ ≠ (.slice a66 t110.length a67 : Value).ownBlock ∧ some k_ ≠ (.slice ai6 U4.length ai7 : Value).ownBlock ∧ k_ ≠ j8 ∧ k_ ≠ o7 ∧ k_ ≠ n8)) (vO C6) hg hat); have n5_ := j4.mk (Kd.X4 (rO y8) (Kd.W9 (nO ay2)) I1 hg); have n6_ := j4.mk (Kd.X4 (rO E2) (Kd.W9 (nO ay2)) I1 hg); have n7_ := j4.mk (I4 (g := n8) (o := .cells #[.int .i64 t104, .string t105, .string t106, .slice ai6 U4.length ai7, .slice a66 t110.length a67] 117 (0, 0)) (kQ C2) hg (Kd.aJ2 ay2.out (fun _ hk => hk.2.2.2.2.2.2))); have n8_ := j4.mk (Kd.D5 (ok := (fun k_ => (z6 k_ ∨ w.heap.size ≤ k_) ∧ some k_ ≠ (.slice a66 t110.length a67 : Value).ownBlock ∧ some k_ ≠ (.slice ai6 U4.length ai7 : Value).ownBlock ∧ k_ ≠ j8 ∧ k_ ≠ o7 ∧ k_ ≠ n8)) (vO P0) hg hat); have n9_ := j4.mk (Kd.D5 (ok := (fun k_ => (z6 k_ ∨ w.heap.size ≤ k_) ∧ some k_ ≠ (.slice a66 t110.length a67 : Value).ownBlock ∧ some k_ ≠ (.slice ai6 U4.length ai7 : Value).ownBlock ∧ k_ ≠ j8 ∧ k_ ≠ o7 ∧ k_ ≠ n8)) (vO S5) hg hat); have az1 := j4.mk (Kd.X4 (rO ae4) (Kd.W9 (nO ay2)) I1 hg); have az2 := j4.mk (Kd.D5 (ok := (fun k_ => (z6 k_ ∨ w.heap.size ≤ k_) ∧ some k_ ≠ (.slice a83 t107.length a65 : Value).ownBlock ∧ some k_ ≠ (.slice a66 t110.length a67 : Value).ownBlock ∧ some k_ ≠ (.slice ai6 U4.length ai7 : Value).ownBlock ∧ k_ ≠ j8 ∧ k_ ≠ o7 ∧ k_ ≠ n8)) (vO az6) hg hat); have aV5 := j4.mk (Kd.D5 (ok := (fun k_ => (z6 k_ ∨ w.heap.size ≤ k_) ∧ some k_ ≠ (.slice a83 t107.length a65 : Value).ownBlock ∧ some k_ ≠ (.slice a66 t110.length a67 : Value).ownBlock ∧ some k_ ≠ (.slice ai6 U4.length ai7 : Value).ownBlock ∧ k_ ≠ j8 ∧ k_ ≠ o7 ∧ k_ ≠ n8)) (vO ch7) hg hat); have bp8 := j4.mk (hb); have cE3 := j4.mk (ho); clear C0 j5 j7 C5 C6 y8 E2 C2 P0 S5 ae4 az6 ch7 HB ay2; have C0 := P5; have j5 := P6; have j7 := n2_; have C5 := n3_; have C6 := n4_; have y8 := n5_; have E2 := n6_; have C2 := n7_; have P0 := n8_; have S5 := n9_; have ae4 := az1; have az6 := az2; have ch7 := aV5; have HB := bp8; have di2 := cE3; clear P5 P6 n2_ n3_ n4_ n5_ n6_ n7_ n8_ n9_ az1 az2 aV5 bp8 cE3 ho hb hg hat; obtain ⟨ea8, ea9, eb0⟩ := Kd.ax1 di2.out; subst eb0; have dM2 := cz2 j5.out; have dM3 := fz2 j5.out; have eq2 := cz2 j7.out; have eq3 := fz2 j7.out))
  refine bodyPost_ret (results_cell_row rfl _ _ o7 80 #[.int .i64 r0, .slice ea8 dL1.length ea9] (0, 0) _ rfl (kQ j7) Tryz.underlying80 rfl z2_) rfl ?_
  exact ⟨_, by first | rfl | (simp [W6, W7] <;> rfl) | (simp only [← bB1, ← bR9]; first | rfl | (simp [W6, W7] <;> rfl)) | (simp [*, W6, W7] <;> rfl), fN di2, zB⟩
end Go.Proofs.YtbncnjgflhoneaaGreatDoor.F
