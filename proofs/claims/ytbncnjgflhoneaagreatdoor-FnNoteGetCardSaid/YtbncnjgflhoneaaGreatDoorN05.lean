/- Of this claim, merged by program: F92, QD1, Z4, Z3, F94. -/
import Derived.Laws.BitsAllLaws
import Derived.Test.YtbncnjgflhoneaaGreatDoorN02
import Derived.Test.YtbncnjgflhoneaaGreatDoorN03
import Derived.Test.YtbncnjgflhoneaaGreatDoorN04
set_option linter.unusedVariables false
set_option linter.unusedSimpArgs false
namespace Go.Proofs.YtbncnjgflhoneaaGreatDoor.F
open Go.RowKit Go.Proofs.YtbncnjgflhoneaaGreatDoor.Hand Go.Proofs.YtbncnjgflhoneaaGreatDoorW.l8 Go.Proofs.YtbncnjgflhoneaaGreatDoorW.s9 Go.Proofs.YtbncnjgflhoneaaGreatDoorW.y9
attribute [local go_sem high] bz9
mutual
def C4.j0 : Nat → List Int → Int → ByteArray → ByteArray → List ByteArray → Option (ByteArray × ByteArray × (List (G6)) × List ByteArray × Int)
 | 0, _, _, _, _, _ => none
 | k + 1, x1000, a34, aG0, aG1, aG2 => (l6.f k x1000 a34 4).bind fun a11 => (C4.l0 k (wrap64 (1 + a11.1)) x1000 a11.2 aG0 aG1 ([] : List (G6)) aG2)
def C4.l0 : Nat → Int → List Int → Int → ByteArray → ByteArray → List (G6) → List ByteArray → Option (ByteArray × ByteArray × (List (G6)) × List ByteArray × Int)
 | 0, _, _, _, _, _, _, _ => none
 | k + 1, x4, x1000, a34, aG0, aG1, ax4, aG2 => if x4 > 0 then ((V0.f k x1000 a34).bind fun cD9 => (C4.l1 k x4 false 0 x1000 cD9.2.2 aG0 aG1 ax4 aG2 cD9.1 cD9.2.1)) else (some (aG0, aG1, ax4, aG2, a34))
def C4.l1 : Nat → Int → Bool → Int → List Int → Int → ByteArray → ByteArray → List (G6) → List ByteArray → ByteArray → ByteArray → Option (ByteArray × ByteArray × (List (G6)) × List ByteArray × Int)
 | 0, _, _, _, _, _, _, _, _, _, _, _ => none
 | k + 1, x4, x6, x7, x1000, a34, aG0, aG1, ax4, aG2, bi3, bi4 => if x7 < (ax4.length : Int) then (if x6 = true then (C4.l1 k x4 true (wrap64 (x7 + 1)) x1000 a34 aG0 aG1 ax4 aG2 bi3 bi4) else (if 0 ≤ x7 then (C4.l1 k x4 ((((E6 ax4 x7).f0).toList) == bi3.toList && ((((E6 ax4 x7).f1).toList) == bi4.toList)) (wrap64 (x7 + 1)) x1000 a34 aG0 aG1 ax4 aG2 bi3 bi4) else (none))) else (if x6 = true then (C4.l0 k (wrap64 (x4 - 1)) x1000 a34 aG0 aG1 ax4 aG2) else (if ax4.length < 4398046511104 then (C4.l0 k (wrap64 (x4 - 1)) x1000 a34 aG0 aG1 (ax4 ++ [(⟨bi3, bi4⟩ : G6)]) aG2) else (none)))
end
def C4.f (k : Nat) (L6 : List Int) (a03 : Int) : Option (ByteArray × ByteArray × (List (G6)) × List ByteArray × Int) := (V0.f k L6 a03).bind fun D9 => ((a48.f k L6 D9.2.2 (([1, 4, 9] : List Int))).bind fun aJ7 => ((Q6.f k L6 aJ7.2 aJ7.1).bind fun bO5 => ((l6.f k L6 bO5.2 5).bind fun cE0 => (if cE0.1 = 0 then (C4.j0 k L6 cE0.2 (⟨#[]⟩ : ByteArray) (⟨#[]⟩ : ByteArray) bO5.1) else (C4.j0 k L6 cE0.2 D9.1 D9.2.1 bO5.1)))))
set_option maxHeartbeats 8000000 in
set_option maxRecDepth 100000 in
theorem C4.calls (k : Nat) (g : Nat) (L6 : List Int) (a03 : Int) (r1 : ByteArray) (r2 : ByteArray) (r3 : List (G6)) (r4 : List ByteArray) (r5 : Int) (w0 w : World) (hI : l5 w0 w g L6 a03) (hB : Below w0.heap.size w0 w) (h : C4.f k L6 a03 = some (r1, r2, r3, r4, r5)) :
  Calls Tryz.prog 92 #[.pointer (some ⟨g, 0, none⟩)] w fun e w' => ∃ v2_ v3_ : Value, e = .returned (.agg #[.string r1, .string r2, v2_, v3_]) ∧ Kd.R k32 32 w' w.heap.size (fun _ => True) v2_ r3 ∧ Kd.R Kd.string 9 w' w.heap.size (fun _ => True) v3_ r4 ∧ l5 w0 w' g L6 r5 ∧ Below w0.heap.size w0 w' ∧ y5 w w' g none := by
 have aV0 := Tryz.underlying35
 have as2 := Tryz.underlying32
 have HI0 := j4.mk hI
 have bp3 := j4.mk (l5.ge HI0.out)
 have HK := j4.mk (y5.refl w g none)
 have HL := j4.mk hB.size
 clear hI
 have HW0 := j4.mk hB.size
 have HB := j4.mk hB
 clear hB
 have H := h
 clear h
 unfold C4.f at H
 replace H := S2 H; obtain ⟨⟨t102, t103, t104⟩, A2, H⟩ := H
 dsimp only at H
 first | (with_reducible replace H := bns H; obtain ⟨bH7, aJ8, H⟩ := H) | (generalize V5 : (([1, 4, 9] : List Int) : List Int) = bH7 at H; have aJ8 := j4.mk V5.symm; clear V5)
 replace H := S2 H; obtain ⟨⟨t108, t109⟩, A3, H⟩ := H
 dsimp only at H
 replace H := S2 H; obtain ⟨⟨t110, t113⟩, A4, H⟩ := H
 dsimp only at H
 replace H := S2 H; obtain ⟨⟨t115, t116⟩, A5, H⟩ := H
 dsimp only at H
 have HC6 := j4.mk H
 clear H
 go_enter Tryz.func92, Tryz.ntmps92
 go_upto_if 18 with (first | ((with_reducible refine l9 (N := 2) rfl ?_); refine bx (cs := #[.string ⟨#[]⟩, .string ⟨#[]⟩, .slice none 0 0, .slice none 0 0]) (t := 35) ?_; intro j8 hg w7 o8 hb; have j5 := j4.mk (o8); have L8 := GK HK hg; have J7 := GT HK hg HW0; have a50 := IL HI0 hg; have J1 := IG HI0 hg; replace HI0 := IS HI0 hb; replace HK := KT HK hb; replace HB := bF HB hb; clear hb o8 hg) | (go_at_call 130; refine (V0.calls (w := _) (w0 := w0) (hI := zI) (hB := zB) (h := A2.out)).mono ?_; rintro e w8 ⟨rfl, hi, hb, hk⟩; replace j5 := KB hk j5 J1; replace HK := KS HK hk; replace HI0 := j4.mk (hi); replace HB := j4.mk (hb); clear hb hk hi) | ((with_reducible refine l9 (N := 12) rfl ?_); refine Kd.aI8 (Kd.int .i64) _ 3 ?hg (N := 12) ?hd (xs := ([1, 4, 9] : List Int)) (inner := [.int .i64 1, .int .i64 4, .int .i64 9]) (ok := fun _ => True) (okp := fun _ => True) ?hr ?hp (fun _ hk => hk) trivial (Below.refl _ _) (Nat.le_refl _) (by simp) ?_; (case hd => rfl); (case hg => rfl); (case hr => first | (go_simp; done) | (go_simp; rfl)); (case hp => exact (M4.one (show Kd.M (Kd.int .i64) _ _ _ 1 [.int .i64 1] from rfl) (M4.one (show Kd.M (Kd.int .i64) _ _ _ 4 [.int .i64 4] from rfl) (M4.one (show Kd.M (Kd.int .i64) _ _ _ 9 [.int .i64 9] from rfl) (M4.none _ _))))); intro ct8 w9 aA6 hb hg_ X3; clear hg_ X3; (first | rw [← aJ8.out] at aA6 | (simp only [Int.reduceToNat] at aA6; rw [← aJ8.out] at aA6)); have O6 := lK HK aA6; replace j5 := kS j5 hb; replace HI0 := IS HI0 hb; replace HK := KT HK hb; replace HB := bF HB hb; clear hb aA6; obtain ⟨b70, aK6, bp5⟩ := Kd.s7 O6.out; subst bp5) | (go_at_call 109; refine (a48.calls (w := _) (w0 := w0) (hI := zI) (hB := zB) (hr1 := rC O6) (hc1 := cL O6) (hf1 := au8 (l5.aw4 HI0.out O6.out I1)) (h := A3.out)).mono ?_; rintro e w12 ⟨rfl, hi, hb, hk⟩; replace j5 := KB hk j5 J1; replace O6 := RK hk O6 HI0; replace HK := KS HK hk; replace HI0 := j4.mk (hi); replace HB := j4.mk (hb); clear hb hk hi) | (go_at_call 131; refine (Q6.calls (w := _) (w0 := w0) (hI := zI) (hB := zB) (h := A4.out)).mono ?_; rintro e w13 ⟨bH8, rfl, ho0, hi, hb, hk⟩; replace j5 := KB hk j5 J1; replace O6 := RK hk O6 HI0; have E2 := lK HK ho0; replace HK := KS HK hk; replace HI0 := j4.mk (hi); replace HB := j4.mk (hb); clear hb hk hi ho0; obtain ⟨aU2, aU3, bO6⟩ := Kd.s7 E2.out; subst bO6) | ((with_reducible refine l9 (N := 3) rfl ?_); refine bx (cs := #[.string ⟨#[]⟩, .string ⟨#[]⟩, .slice none 0 0, .slice none 0 0]) (t := 35) ?_; intro aF2 hg w15 o8 hb; replace O6 := rS O6 hb; replace E2 := rS E2 hb; have H6 := j4.mk (o8); have dd5 := GK HK hg; have bO7 := GT HK hg HW0; have ah5 := nS hg j5; have ah6 := nG hg j5; replace j5 := kS j5 hb; have am8 := IL HI0 hg; have aa7 := IG HI0 hg; replace HI0 := IS HI0 hb; replace HK := KT HK hb; replace HB := bF HB hb; clear hb o8 hg; have cE1 := ah6.out; have cE2 := ah5.out; have dd6 := aa7.out; have dd7 := am8.out; obtain ⟨cc4, cc5, cc6, cc7⟩ := cz4 H6.out; obtain ⟨cc8, cc9, cd0, cd1⟩ := fz4 H6.out) | (go_at_call 51; refine (l6.calls (w := _) (w0 := w0) (hI := zI) (hB := zB) (h := A5.out)).mono ?_; rintro e w19 ⟨rfl, hi, hb, hk⟩; replace j5 := KB hk j5 J1; replace O6 := RG hk O6 H6 HI0; replace E2 := RG hk E2 H6 HI0; replace H6 := KP (.cells #[.string t102, .string t103, .slice none 0 0, .slice aU2 t110.length aU3] 35 (0, 0)) hk H6 aa7; replace HK := KS HK hk; replace HI0 := j4.mk (hi); replace HB := j4.mk (hb); clear hb hk hi))
 repeat (go_quiet (first | ((with_reducible refine l9 (N := 2) rfl ?_); refine bx (cs := #[.string ⟨#[]⟩, .string ⟨#[]⟩, .slice none 0 0, .slice none 0 0]) (t := 35) ?_; intro j8 hg w7 o8 hb; have j5 := j4.mk (o8); have L8 := GK HK hg; have J7 := GT HK hg HW0; have a50 := IL HI0 hg; have J1 := IG HI0 hg; replace HI0 := IS HI0 hb; replace HK := KT HK hb; replace HB := bF HB hb; clear hb o8 hg) | (go_at_call 130; refine (V0.calls (w := _) (w0 := w0) (hI := zI) (hB := zB) (h := A2.out)).mono ?_; rintro e w8 ⟨rfl, hi, hb, hk⟩; replace j5 := KB hk j5 J1; replace HK := KS HK hk; replace HI0 := j4.mk (hi); replace HB := j4.mk (hb); clear hb hk hi) | ((with_reducible refine l9 (N := 12) rfl ?_); refine Kd.aI8 (Kd.int .i64) _ 3 ?hg (N := 12) ?hd (xs := ([1, 4, 9] : List Int)) (inner := [.int .i64 1, .int .i64 4, .int .i64 9]) (ok := fun _ => True) (okp := fun _ => True) ?hr ?hp (fun _ hk => hk) trivial (Below.refl _ _) (Nat.le_refl _) (by simp) ?_; (case hd => rfl); (case hg => rfl); (case hr => first | (go_simp; done) | (go_simp; rfl)); (case hp => exact (M4.one (show Kd.M (Kd.int .i64) _ _ _ 1 [.int .i64 1] from rfl) (M4.one (show Kd.M (Kd.int .i64) _ _ _ 4 [.int .i64 4] from rfl) (M4.one (show Kd.M (Kd.int .i64) _ _ _ 9 [.int .i64 9] from rfl) (M4.none _ _))))); intro ct8 w9 aA6 hb hg_ X3; clear hg_ X3; (first | rw [← aJ8.out] at aA6 | (simp only [Int.reduceToNat] at aA6; rw [← aJ8.out] at aA6)); have O6 := lK HK aA6; replace j5 := kS j5 hb; replace HI0 := IS HI0 hb; replace HK := KT HK hb; replace HB := bF HB hb; clear hb aA6; obtain ⟨b70, aK6, bp5⟩ := Kd.s7 O6.out; subst bp5) | (go_at_call 109; refine (a48.calls (w := _) (w0 := w0) (hI := zI) (hB := zB) (hr1 := rC O6) (hc1 := cL O6) (hf1 := au8 (l5.aw4 HI0.out O6.out I1)) (h := A3.out)).mono ?_; rintro e w12 ⟨rfl, hi, hb, hk⟩; replace j5 := KB hk j5 J1; replace O6 := RK hk O6 HI0; replace HK := KS HK hk; replace HI0 := j4.mk (hi); replace HB := j4.mk (hb); clear hb hk hi) | (go_at_call 131; refine (Q6.calls (w := _) (w0 := w0) (hI := zI) (hB := zB) (h := A4.out)).mono ?_; rintro e w13 ⟨bH8, rfl, ho0, hi, hb, hk⟩; replace j5 := KB hk j5 J1; replace O6 := RK hk O6 HI0; have E2 := lK HK ho0; replace HK := KS HK hk; replace HI0 := j4.mk (hi); replace HB := j4.mk (hb); clear hb hk hi ho0; obtain ⟨aU2, aU3, bO6⟩ := Kd.s7 E2.out; subst bO6) | ((with_reducible refine l9 (N := 3) rfl ?_); refine bx (cs := #[.string ⟨#[]⟩, .string ⟨#[]⟩, .slice none 0 0, .slice none 0 0]) (t := 35) ?_; intro aF2 hg w15 o8 hb; replace O6 := rS O6 hb; replace E2 := rS E2 hb; have H6 := j4.mk (o8); have dd5 := GK HK hg; have bO7 := GT HK hg HW0; have ah5 := nS hg j5; have ah6 := nG hg j5; replace j5 := kS j5 hb; have am8 := IL HI0 hg; have aa7 := IG HI0 hg; replace HI0 := IS HI0 hb; replace HK := KT HK hb; replace HB := bF HB hb; clear hb o8 hg; have cE1 := ah6.out; have cE2 := ah5.out; have dd6 := aa7.out; have dd7 := am8.out; obtain ⟨cc4, cc5, cc6, cc7⟩ := cz4 H6.out; obtain ⟨cc8, cc9, cd0, cd1⟩ := fz4 H6.out) | (go_at_call 51; refine (l6.calls (w := _) (w0 := w0) (hI := zI) (hB := zB) (h := A5.out)).mono ?_; rintro e w19 ⟨rfl, hi, hb, hk⟩; replace j5 := KB hk j5 J1; replace O6 := RG hk O6 H6 HI0; replace E2 := RG hk E2 H6 HI0; replace H6 := KP (.cells #[.string t102, .string t103, .slice none 0 0, .slice aU2 t110.length aU3] 35 (0, 0)) hk H6 aa7; replace HK := KS HK hk; replace HI0 := j4.mk (hi); replace HB := j4.mk (hb); clear hb hk hi)); go_upto_if 18 with (first | ((with_reducible refine l9 (N := 2) rfl ?_); refine aN4 ?hg (N := 2) ?hd (cs := #[.string ⟨#[]⟩, .string ⟨#[]⟩, .slice none 0 0, .slice none 0 0]) (t := 35) ?hr ?_; (case hd => rfl); (case hg => rfl); (case hr => first | (go_simp; done) | (go_simp; rfl)); intro j8 hg w7 o8 hb; have P5 := IS HI0 hb; have P6 := KT HK hb; have n2_ := bF HB hb; have n3_ := j4.mk (o8); have n4_ := GK HK hg; have n5_ := GT HK hg HW0; have n6_ := IL HI0 hg; have n7_ := IG HI0 hg; clear HI0; clear HK; clear HB; have HI0 := P5; have HK := P6; have HB := n2_; have j5 := n3_; have L8 := n4_; have J7 := n5_; have a50 := n6_; have J1 := n7_; clear P5 P6 n2_ n3_ n4_ n5_ n6_ n7_; clear hb o8 hg) | (go_at_call 130; (with_reducible refine (V0.calls k g L6 a03 t102 t103 t104 w0 _ ?a92 ?ad2 A2.out).mono ?_); (case a92 => repeat (first | (with_reducible first | exact HI0.out | apply l5.alloc | apply l5.drewN | apply l5.drew | apply l5.af6 | refine l5.far ?_ a50.out _) | exact HI0.out)); (case ad2 => repeat (first | (with_reducible first | exact HB.out | apply P2 | apply J9 | apply E9 | refine I5 ?_ (l5.ge HI0.out) | refine I5 ?_ J7.out) | exact HB.out)); rintro e w8 ⟨rfl, hi, hb, hk⟩; have P5 := KB hk j5 J1; have P6 := KS HK hk; have n2_ := j4.mk (hb); have n3_ := j4.mk (hi); clear j5; clear HK; clear HB; clear HI0; have j5 := P5; have HK := P6; have HB := n2_; have HI0 := n3_; clear P5 P6 n2_ n3_; (try clear hb); (try clear hb2); (try clear hk); (try clear hi)) | ((with_reducible refine l9 (N := 12) rfl ?_); refine Kd.aI8 (Kd.int .i64) _ 3 ?hg (N := 12) ?hd (xs := ([1, 4, 9] : List Int)) (inner := [.int .i64 1, .int .i64 4, .int .i64 9]) (ok := fun _ => True) (okp := fun _ => True) ?hr ?hp (fun _ hk => hk) trivial (Below.refl _ _) (Nat.le_refl _) (by simp) ?_; (case hd => rfl); (case hg => rfl); (case hr => first | (go_simp; done) | (go_simp; rfl)); (case hp => exact (M4.one (show Kd.M (Kd.int .i64) _ _ _ 1 [.int .i64 1] from rfl) (M4.one (show Kd.M (Kd.int .i64) _ _ _ 4 [.int .i64 4] from rfl) (M4.one (show Kd.M (Kd.int .i64) _ _ _ 9 [.int .i64 9] from rfl) (M4.none _ _))))); intro ct8 w9 aA6 hb hg_ X3; clear hg_ X3; (first | rw [← aJ8.out] at aA6 | (simp only [Int.reduceToNat] at aA6; rw [← aJ8.out] at aA6)); have P5 := lK HK aA6; have P6 := IS HI0 hb; have n2_ := kS j5 hb; have n3_ := KT HK hb; have n4_ := bF HB hb; clear HI0; clear j5; clear HK; clear HB; have O6 := P5; have HI0 := P6; have j5 := n2_; have HK := n3_; have HB := n4_; clear P5 P6 n2_ n3_ n4_; clear hb aA6; obtain ⟨b70, aK6, bp5⟩ := Kd.s7 O6.out; subst bp5) | (go_at_call 109; (with_reducible refine (a48.calls k g L6 t104 _ _ bH7 t108 t109 w0 _ ?a92 ?ad2 ?aN8 ?aN9 ?bO8 A3.out).mono ?_); (case a92 => repeat (first | (with_reducible first | exact HI0.out | apply l5.alloc | apply l5.drewN | apply l5.drew | apply l5.af6 | refine l5.far ?_ a50.out _) | exact HI0.out)); (case ad2 => repeat (first | (with_reducible first | exact HB.out | apply P2 | apply J9 | apply E9 | refine I5 ?_ (l5.ge HI0.out) | refine I5 ?_ J7.out) | exact HB.out)); (case aN8 => repeat (first | exact (Kd.y7 O6.out).2.2 | (with_reducible refine Kd.K4 ?_ _) | (with_reducible refine Kd.K5 ?_ _) | (with_reducible refine Kd.Q1 ?_))); (case aN9 => exact (Kd.y7 O6.out).2.1); (case bO8 => exact au8 (l5.aw4 HI0.out O6.out I1)); rintro e w12 ⟨rfl, hi, hb, hk⟩; have P5 := KB hk j5 J1; have P6 := RK hk O6 HI0; have n2_ := KS HK hk; have n3_ := j4.mk (hb); have n4_ := j4.mk (hi); clear j5; clear O6; clear HK; clear HB; clear HI0; have j5 := P5; have O6 := P6; have HK := n2_; have HB := n3_; have HI0 := n4_; clear P5 P6 n2_ n3_ n4_; (try clear hb); (try clear hb2); (try clear hk); (try clear hi)) | (go_at_call 131; (with_reducible refine (Q6.calls k g L6 t109 t108 t110 t113 w0 _ ?a92 ?ad2 A4.out).mono ?_); (case a92 => repeat (first | (with_reducible first | exact HI0.out | apply l5.alloc | apply l5.drewN | apply l5.drew | apply l5.af6 | refine l5.far ?_ a50.out _) | exact HI0.out)); (case ad2 => repeat (first | (with_reducible first | exact HB.out | apply P2 | apply J9 | apply E9 | refine I5 ?_ (l5.ge HI0.out) | refine I5 ?_ J7.out) | exact HB.out)); rintro e w13 ⟨bH8, rfl, ho0, hi, hb, hk⟩; have P5 := KB hk j5 J1; have P6 := RK hk O6 HI0; have n2_ := lK HK ho0; have n3_ := KS HK hk; have n4_ := j4.mk (hb); have n5_ := j4.mk (hi); clear j5; clear O6; clear HK; clear HB; clear HI0; have j5 := P5; have O6 := P6; have E2 := n2_; have HK := n3_; have HB := n4_; have HI0 := n5_; clear P5 P6 n2_ n3_ n4_ n5_; (try clear hb); (try clear hb2); (try clear hk); (try clear hi); (try clear ho0); obtain ⟨aU2, aU3, bO6⟩ := Kd.s7 E2.out; subst bO6) | ((with_reducible refine l9 (N := 3) rfl ?_); refine aN4 ?hg (N := 3) ?hd (cs := #[.string ⟨#[]⟩, .string ⟨#[]⟩, .slice none 0 0, .slice none 0 0]) (t := 35) ?hr ?_; (case hd => rfl); (case hg => rfl); (case hr => first | (go_simp; done) | (go_simp; rfl)); intro aF2 hg w15 o8 hb; have P5 := rS O6 hb; have P6 := rS E2 hb; have n2_ := IS HI0 hb; have n3_ := kS j5 hb; have n4_ := KT HK hb; have n5_ := bF HB hb; have n6_ := j4.mk (o8); have n7_ := GK HK hg; have n8_ := GT HK hg HW0; have n9_ := nS hg j5; have az1 := nG hg j5; have az2 := IL HI0 hg; have aV5 := IG HI0 hg; clear O6; clear E2; clear HI0; clear j5; clear HK; clear HB; have O6 := P5; have E2 := P6; have HI0 := n2_; have j5 := n3_; have HK := n4_; have HB := n5_; have H6 := n6_; have dd5 := n7_; have bO7 := n8_; have ah5 := n9_; have ah6 := az1; have am8 := az2; have aa7 := aV5; clear P5 P6 n2_ n3_ n4_ n5_ n6_ n7_ n8_ n9_ az1 az2 aV5; clear hb o8 hg; have cE1 := ah6.out; have cE2 := ah5.out; have dd6 := aa7.out; have dd7 := am8.out; have cc4 : w15.cell? ⟨aF2, 0, none⟩ = some (.string ⟨#[]⟩) := (l7 H6.out 0).trans rfl; have cc5 : w15.cell? ⟨aF2, 1, none⟩ = some (.string ⟨#[]⟩) := (l7 H6.out 1).trans rfl; have cc6 : w15.cell? ⟨aF2, 2, none⟩ = some (.slice none 0 0) := (l7 H6.out 2).trans rfl; have cc7 : w15.cell? ⟨aF2, 3, none⟩ = some (.slice none 0 0) := (l7 H6.out 3).trans rfl; have cc8 := z7 H6.out 0; have cc9 := z7 H6.out 1; have cd0 := z7 H6.out 2; have cd1 := z7 H6.out 3) | (go_at_call 51; (with_reducible refine (l6.calls k g L6 t113 5 t115 t116 w0 _ ?a92 ?ad2 A5.out).mono ?_); (case a92 => repeat (first | (with_reducible first | exact HI0.out | apply l5.alloc | apply l5.drewN | apply l5.drew | apply l5.af6 | refine l5.far ?_ a50.out _ | refine l5.far ?_ am8.out _) | exact HI0.out)); (case ad2 => repeat (first | (with_reducible first | exact HB.out | apply P2 | apply J9 | apply E9 | refine I5 ?_ (l5.ge HI0.out) | refine I5 ?_ J7.out | refine I5 ?_ bO7.out) | exact HB.out)); rintro e w19 ⟨rfl, hi, hb, hk⟩; have P5 := KB hk j5 J1; have P6 := RG hk O6 H6 HI0; have n2_ := RG hk E2 H6 HI0; have n3_ := KP (.cells #[.string t102, .string t103, .slice none 0 0, .slice aU2 t110.length aU3] 35 (0, 0)) hk H6 aa7; have n4_ := KS HK hk; have n5_ := j4.mk (hb); have n6_ := j4.mk (hi); clear j5; clear O6; clear E2; clear H6; clear HK; clear HB; clear HI0; have j5 := P5; have O6 := P6; have E2 := n2_; have H6 := n3_; have HK := n4_; have HB := n5_; have HI0 := n6_; clear P5 P6 n2_ n3_ n4_ n5_ n6_; (try clear hb); (try clear hb2); (try clear hk); (try clear hi))))
 (try simp only [Act.put, List.setIfInBounds_toArray, List.set_cons_zero, List.set_cons_succ])
 go_cut [] (fun wc => ∃ (kq : Nat) (af0 : ByteArray) (af1 : ByteArray), j4 (C4.j0 kq L6 t116 af0 af1 t110 = some (r1, r2, r3, r4, r5)) ∧ j4 (kq ≤ k) ∧ j4 (Kd.R Kd.string 9 wc w.heap.size (fun _ => True) (.slice aU2 t110.length aU3) t110) ∧ j4 (wc.heap[j8]? = some (.cells #[.string (⟨#[]⟩ : ByteArray), .string (⟨#[]⟩ : ByteArray), (.slice none 0 0), (.slice none 0 0)] 35 (0, 0))) ∧ j4 (wc.heap[aF2]? = some (.cells #[.string af0, .string af1, (.slice none 0 0), (.slice aU2 t110.length aU3)] 35 (0, 0))) ∧ j4 (l5 w0 wc g L6 t116) ∧ j4 (y5 w wc g none) ∧ j4 (Below w0.heap.size w0 wc))
 case first =>
  have H := HC6.out
  clear HC6
  replace H := a45 H; rcases H with ⟨aL3, b22, H⟩ | ⟨c20, aL3, b22, H⟩
  ·(first | rw [aL3] | (simp only [Z1, aa5]; rw [aL3]) | skip)
   have H' := j4.mk H
   clear H
   have cd2 := ah6.out
   have cd3 := ah5.out
   have cd4 := aa7.out
   have cd5 := am8.out
   have bO9 := cz4 H6.out
   have bP0 := fz4 H6.out
   go_wp2
   repeat (go_quiet (fail); try go_wp2)
   go_meet
   case rel => exact ⟨_, ((⟨#[]⟩ : ByteArray)), ((⟨#[]⟩ : ByteArray)), H', ⟨by first | omega | exact Nat.le_refl _⟩, ⟨fM E2 H6 (fun _ hk => trivial)⟩, ⟨kQ j5⟩, ⟨kQ H6⟩, ⟨zI⟩, ⟨zK⟩, ⟨zB⟩⟩
  ·(first | rw [aL3] | (simp only [Z1, aa5]; rw [aL3]) | skip)
   have H' := j4.mk H
   clear H
   go_wp2
   repeat (go_quiet (fail); try go_wp2)
   go_meet
   case rel => exact ⟨_, (t102), (t103), H', ⟨by first | omega | exact Nat.le_refl _⟩, ⟨rO E2⟩, ⟨kQ j5⟩, ⟨kQ H6⟩, ⟨zI⟩, ⟨zK⟩, ⟨zB⟩⟩
 case rest =>
  clear HC6
  obtain ⟨kq, af0, af1, HA, HJ5, J4, j5, H6, HI0, HK, HB⟩ := hcut
  cases kq with
  | zero => exact absurd HA.out (by simp [C4.j0])
  | succ kj5 =>
   have H := HA.out
   clear HA
   simp only [C4.j0] at H
   replace H := S2 H; obtain ⟨⟨t117, t118⟩, A24, H⟩ := H
   dsimp only at H
   have H' := j4.mk H
   clear H
   go_wp2_with (first | (go_at_call 51; refine (l6.calls (w := _) (w0 := w0) (hI := zI) (hB := zB) (h := A24.out)).mono ?_; rintro e w25 ⟨rfl, hi, hb, hk⟩; replace J4 := RK hk J4 HI0; replace j5 := KB hk j5 J1; replace H6 := KB hk H6 aa7; replace HK := KS HK hk; replace HI0 := j4.mk (hi); replace HB := j4.mk (hb); clear hb hk hi))
   repeat (go_quiet (first | (go_at_call 51; refine (l6.calls (w := _) (w0 := w0) (hI := zI) (hB := zB) (h := A24.out)).mono ?_; rintro e w25 ⟨rfl, hi, hb, hk⟩; replace J4 := RK hk J4 HI0; replace j5 := KB hk j5 J1; replace H6 := KB hk H6 aa7; replace HK := KS HK hk; replace HI0 := j4.mk (hi); replace HB := j4.mk (hb); clear hb hk hi)); try go_wp2_with (first | (go_at_call 51; (with_reducible refine (l6.calls kj5 g L6 t116 4 t117 t118 w0 _ ?a92 ?ad2 A24.out).mono ?_); (case a92 => repeat (first | (with_reducible first | exact HI0.out | apply l5.alloc | apply l5.drewN | apply l5.drew | apply l5.af6 | refine l5.far ?_ a50.out _ | refine l5.far ?_ am8.out _) | exact HI0.out)); (case ad2 => repeat (first | (with_reducible first | exact HB.out | apply P2 | apply J9 | apply E9 | refine I5 ?_ (l5.ge HI0.out) | refine I5 ?_ J7.out | refine I5 ?_ bO7.out) | exact HB.out)); rintro e w25 ⟨rfl, hi, hb, hk⟩; have P5 := RK hk J4 HI0; have P6 := KB hk j5 J1; have n2_ := KB hk H6 aa7; have n3_ := KS HK hk; have n4_ := j4.mk (hb); have n5_ := j4.mk (hi); clear J4; clear j5; clear H6; clear HK; clear HB; clear HI0; have J4 := P5; have j5 := P6; have H6 := n2_; have HK := n3_; have HB := n4_; have HI0 := n5_; clear P5 P6 n2_ n3_ n4_ n5_; (try clear hb); (try clear hb2); (try clear hk); (try clear hi))))
   go_loopg [4] kj5 (fun kq v4 w' => ∃ (au3 : Int) (am9 : Int) (W8 : List (G6)) (b71 : Value), v4 = .int .i64 au3 ∧ j4 (C4.l0 kq au3 L6 am9 af0 af1 W8 t110 = some (r1, r2, r3, r4, r5)) ∧ j4 (kq ≤ kj5) ∧ j4 (Kd.R k32 32 w' w.heap.size (fun _ => True) b71 W8) ∧ j4 (Kd.R Kd.string 9 w' w.heap.size (fun _ => True) (.slice aU2 t110.length aU3) t110) ∧ j4 (w'.heap[j8]? = some (.cells #[.string (⟨#[]⟩ : ByteArray), .string (⟨#[]⟩ : ByteArray), (.slice none 0 0), (.slice none 0 0)] 35 (0, 0))) ∧ j4 (w'.heap[aF2]? = some (.cells #[.string af0, .string af1, b71, (.slice aU2 t110.length aU3)] 35 (0, 0))) ∧ j4 (l5 w0 w' g L6 am9) ∧ j4 (y5 w w' g none) ∧ j4 (Below w0.heap.size w0 w'))
   case atStart => exact ⟨(wrap64 (1 + t117)), (t118), (([] : List (G6))), (.slice none 0 0), zs, H', ⟨Nat.le_refl _⟩, ⟨zn⟩, ⟨rO J4⟩, ⟨kQ j5⟩, ⟨kQ H6⟩, ⟨zI⟩, ⟨zK⟩, ⟨zB⟩⟩
   case round =>
    clear H'
    obtain ⟨au3, am9, W8, b71, rfl, HA, HK2, F3, J4, j5, H6, HI0, HK, HB⟩ := hrel
    cases gk with
    | zero => exact absurd HA.out (by simp [C4.l0])
    | succ k2 =>
     have H := HA.out
     clear HA
     simp only [C4.l0] at H
     replace H := K2 H; rcases H with ⟨cd6, H⟩ | ⟨cd6, H⟩
     ·replace H := S2 H; obtain ⟨⟨t119, t120, t121⟩, A27, H⟩ := H
      dsimp only at H
      have H' := j4.mk H
      clear H
      go_wp2_with (first | (go_at_call 130; refine (V0.calls (w := _) (w0 := w0) (hI := zI) (hB := zB) (h := A27.out)).mono ?_; rintro e w28 ⟨rfl, hi, hb, hk⟩; replace F3 := RK hk F3 HI0; replace J4 := RK hk J4 HI0; replace j5 := KB hk j5 J1; replace H6 := KB hk H6 aa7; replace HK := KS HK hk; replace HI0 := j4.mk (hi); replace HB := j4.mk (hb); clear hb hk hi) | ((with_reducible refine l9 (N := 5) rfl ?_); refine bx (cs := #[.string ⟨#[]⟩, .string ⟨#[]⟩]) (t := 32) ?_; intro az4 hg w29 o8 hb; replace F3 := j4.mk (Kd.am5 (Kd.as4 (rO F3) az4 (Nat.le_of_eq hg.symm)) hb); replace J4 := rS J4 hb; have ad3 := j4.mk (o8); have dd8 := GK HK hg; have dd9 := GT HK hg HW0; have aA7 := nS hg j5; have aA8 := nG hg j5; replace j5 := kS j5 hb; have aq4 := nS hg H6; have aq5 := nG hg H6; replace H6 := kS H6 hb; have aQ8 := IL HI0 hg; have aQ9 := IG HI0 hg; replace HI0 := IS HI0 hb; replace HK := KT HK hb; replace HB := bF HB hb; clear hb o8 hg; have bp6 := aA8.out; have bp7 := aA7.out; have cd7 := aq5.out; have cd8 := aq4.out; have bP1 := aQ9.out; have bP2 := aQ8.out; obtain ⟨cd9, ce0⟩ := cz2 ad3.out; obtain ⟨ce1, ce2⟩ := fz2 ad3.out))
      repeat (go_quiet (first | (go_at_call 130; refine (V0.calls (w := _) (w0 := w0) (hI := zI) (hB := zB) (h := A27.out)).mono ?_; rintro e w28 ⟨rfl, hi, hb, hk⟩; replace F3 := RK hk F3 HI0; replace J4 := RK hk J4 HI0; replace j5 := KB hk j5 J1; replace H6 := KB hk H6 aa7; replace HK := KS HK hk; replace HI0 := j4.mk (hi); replace HB := j4.mk (hb); clear hb hk hi) | ((with_reducible refine l9 (N := 5) rfl ?_); refine bx (cs := #[.string ⟨#[]⟩, .string ⟨#[]⟩]) (t := 32) ?_; intro az4 hg w29 o8 hb; replace F3 := j4.mk (Kd.am5 (Kd.as4 (rO F3) az4 (Nat.le_of_eq hg.symm)) hb); replace J4 := rS J4 hb; have ad3 := j4.mk (o8); have dd8 := GK HK hg; have dd9 := GT HK hg HW0; have aA7 := nS hg j5; have aA8 := nG hg j5; replace j5 := kS j5 hb; have aq4 := nS hg H6; have aq5 := nG hg H6; replace H6 := kS H6 hb; have aQ8 := IL HI0 hg; have aQ9 := IG HI0 hg; replace HI0 := IS HI0 hb; replace HK := KT HK hb; replace HB := bF HB hb; clear hb o8 hg; have bp6 := aA8.out; have bp7 := aA7.out; have cd7 := aq5.out; have cd8 := aq4.out; have bP1 := aQ9.out; have bP2 := aQ8.out; obtain ⟨cd9, ce0⟩ := cz2 ad3.out; obtain ⟨ce1, ce2⟩ := fz2 ad3.out)); try go_wp2_with (first | (go_at_call 130; (with_reducible refine (V0.calls k2 g L6 am9 t119 t120 t121 w0 _ ?a92 ?ad2 A27.out).mono ?_); (case a92 => repeat (first | (with_reducible first | exact HI0.out | apply l5.alloc | apply l5.drewN | apply l5.drew | apply l5.af6 | refine l5.far ?_ a50.out _ | refine l5.far ?_ am8.out _) | exact HI0.out)); (case ad2 => repeat (first | (with_reducible first | exact HB.out | apply P2 | apply J9 | apply E9 | refine I5 ?_ (l5.ge HI0.out) | refine I5 ?_ J7.out | refine I5 ?_ bO7.out) | exact HB.out)); rintro e w28 ⟨rfl, hi, hb, hk⟩; have P5 := RK hk F3 HI0; have P6 := RK hk J4 HI0; have n2_ := KB hk j5 J1; have n3_ := KB hk H6 aa7; have n4_ := KS HK hk; have n5_ := j4.mk (hb); have n6_ := j4.mk (hi); clear F3; clear J4; clear j5; clear H6; clear HK; clear HB; clear HI0; have F3 := P5; have J4 := P6; have j5 := n2_; have H6 := n3_; have HK := n4_; have HB := n5_; have HI0 := n6_; clear P5 P6 n2_ n3_ n4_ n5_ n6_; (try clear hb); (try clear hb2); (try clear hk); (try clear hi)) | ((with_reducible refine l9 (N := 5) rfl ?_); refine aN4 ?hg (N := 5) ?hd (cs := #[.string ⟨#[]⟩, .string ⟨#[]⟩]) (t := 32) ?hr ?_; (case hd => rfl); (case hg => rfl); (case hr => first | (go_simp; done) | (go_simp; rfl)); intro az4 hg w29 o8 hb; have P5 := j4.mk (Kd.am5 (Kd.as4 (rO F3) az4 (Nat.le_of_eq hg.symm)) hb); have P6 := rS J4 hb; have n2_ := kS j5 hb; have n3_ := kS H6 hb; have n4_ := IS HI0 hb; have n5_ := KT HK hb; have n6_ := bF HB hb; have n7_ := j4.mk (o8); have n8_ := GK HK hg; have n9_ := GT HK hg HW0; have az1 := nS hg j5; have az2 := nG hg j5; have aV5 := nS hg H6; have bp8 := nG hg H6; have cE3 := IL HI0 hg; have dG3 := IG HI0 hg; clear F3; clear J4; clear j5; clear H6; clear HI0; clear HK; clear HB; have F3 := P5; have J4 := P6; have j5 := n2_; have H6 := n3_; have HI0 := n4_; have HK := n5_; have HB := n6_; have ad3 := n7_; have dd8 := n8_; have dd9 := n9_; have aA7 := az1; have aA8 := az2; have aq4 := aV5; have aq5 := bp8; have aQ8 := cE3; have aQ9 := dG3; clear P5 P6 n2_ n3_ n4_ n5_ n6_ n7_ n8_ n9_ az1 az2 aV5 bp8 cE3 dG3; clear hb o8 hg; have bp6 := aA8.out; have bp7 := aA7.out; have cd7 := aq5.out; have cd8 := aq4.out; have bP1 := aQ9.out; have bP2 := aQ8.out; have cd9 : w29.cell? ⟨az4, 0, none⟩ = some (.string ⟨#[]⟩) := (l7 ad3.out 0).trans rfl; have ce0 : w29.cell? ⟨az4, 1, none⟩ = some (.string ⟨#[]⟩) := (l7 ad3.out 1).trans rfl; have ce1 := z7 ad3.out 0; have ce2 := z7 ad3.out 1)))
      go_loopg [6, 7] k2 (fun kq v6 v7 w' => ∃ (dr4 : Bool) (bw6 : Int), v6 = .bool dr4 ∧ v7 = .int .i64 bw6 ∧ j4 (C4.l1 kq au3 dr4 bw6 L6 t121 af0 af1 W8 t110 t119 t120 = some (r1, r2, r3, r4, r5)) ∧ j4 (kq ≤ k2) ∧ j4 (Kd.R k32 32 w' w.heap.size (fun k_ => k_ ≠ az4) b71 W8) ∧ j4 (Kd.R Kd.string 9 w' w.heap.size (fun _ => True) (.slice aU2 t110.length aU3) t110) ∧ j4 (w'.heap[j8]? = some (.cells #[.string (⟨#[]⟩ : ByteArray), .string (⟨#[]⟩ : ByteArray), (.slice none 0 0), (.slice none 0 0)] 35 (0, 0))) ∧ j4 (w'.heap[aF2]? = some (.cells #[.string af0, .string af1, b71, (.slice aU2 t110.length aU3)] 35 (0, 0))) ∧ j4 (w'.heap[az4]? = some (.cells #[.string t119, .string t120] 32 (0, 0))) ∧ j4 (l5 w0 w' g L6 t121) ∧ j4 (y5 w w' g none) ∧ j4 (Below w0.heap.size w0 w'))
      case atStart => exact ⟨(false), (0), zs, zs, H', ⟨Nat.le_refl _⟩, ⟨by (with_reducible repeat (first | apply Kd.N9 | apply Kd.M8 | apply Kd.O0)); exact Kd.E0 (Kd.M9 (p := ⟨az4, 1, none⟩) (Kd.M9 (p := ⟨az4, 0, none⟩) (Kd.E0 F3.out (fun k_ hk => (⟨hk, hk.2⟩ : _ ∧ k_ ≠ az4))) (fun _ hk => hk.2) (.string t119)) (fun _ hk => hk.2) (.string t120)) (fun _ hk => hk.1.2)⟩, ⟨fM J4 ad3 (fun _ hk => trivial)⟩, ⟨kQ j5⟩, ⟨kQ H6⟩, ⟨kQ ad3⟩, ⟨zI⟩, ⟨zK⟩, ⟨zB⟩⟩
      case round =>
       clear H'
       obtain ⟨dr4, bw6, rfl, rfl, HA, HK3, F3, J4, j5, H6, ad3, HI0, HK, HB⟩ := hrel
       cases gk with
       | zero => exact absurd HA.out (by simp [C4.l1])
       | succ k3 =>
        have H := HA.out
        clear HA
        simp only [C4.l1] at H
        replace H := K2 H; rcases H with ⟨ce3, H⟩ | ⟨ce3, H⟩
        ·replace H := itb H; rcases H with ⟨rfl, H⟩ | ⟨rfl, H⟩
         ·have H' := j4.mk H
          clear H
          have cE4 := ah6.out
          have cE5 := ah5.out
          have de0 := aq4.out
          have de1 := aq5.out
          have dG4 := aa7.out
          have dG5 := am8.out
          have dG6 := cz4 H6.out
          have dG7 := fz4 H6.out
          obtain ⟨dr5, dr6, ct9⟩ := Kd.s7 F3.out
          subst ct9
          go_wp2
          repeat (go_quiet (fail); try go_wp2)
          go_roundg k3
          case measure => have := HJ5.out; have := HK2.out; have := HK3.out; omega
          case rel => exact ⟨(true), (wrap64 (bw6 + 1)), zs, zs, H', ⟨by have := HJ5.out; have := HK2.out; have := HK3.out; omega⟩, ⟨rO F3⟩, ⟨rO J4⟩, ⟨kQ j5⟩, ⟨kQ H6⟩, ⟨kQ ad3⟩, ⟨zI⟩, ⟨zK⟩, ⟨zB⟩⟩
         ·replace H := S1 H; obtain ⟨en2, H⟩ := H
          have H' := j4.mk H
          clear H
          have bP3 := ah6.out
          have bP4 := ah5.out
          have de2 := aq4.out
          have de3 := aq5.out
          have en3 := aa7.out
          have en4 := am8.out
          have ce4 := cz4 H6.out
          have ce5 := fz4 H6.out
          obtain ⟨dG8, dG9, dr7⟩ := Kd.s7 F3.out
          subst dr7
          have aR0 : 0 ≤ (bw6 : Int) := of_decide_eq_true za
          have aR1 : bw6 < (W8.length : Int) := of_decide_eq_true za
          obtain ⟨ax5, bH9, aa8, e34⟩ := as1 (Kd.y7 F3.out).2.2 bw6 aR0 aR1
          cases bH9
          replace aR0 := eq_true aR0
          replace aR1 := eq_true aR1
          have dH0 := aA8.out
          have dH1 := aA7.out
          have dH2 := aQ9.out
          have dH3 := aQ8.out
          have de4 := cz2 ad3.out
          have de5 := fz2 ad3.out
          go_wp2
          repeat (go_quiet (fail); try go_wp2)
          go_roundg k3
          case measure => have := HJ5.out; have := HK2.out; have := HK3.out; omega
          case rel => exact ⟨(((((E6 W8 bw6).f0).toList) == t119.toList && ((((E6 W8 bw6).f1).toList) == t120.toList))), (wrap64 (bw6 + 1)), zs, zs, H', ⟨by have := HJ5.out; have := HK2.out; have := HK3.out; omega⟩, ⟨rO F3⟩, ⟨rO J4⟩, ⟨kQ j5⟩, ⟨kQ H6⟩, ⟨kQ ad3⟩, ⟨zI⟩, ⟨zK⟩, ⟨zB⟩⟩
        ·replace H := itb H; rcases H with ⟨rfl, H⟩ | ⟨rfl, H⟩
         ·have H' := j4.mk H
          clear H
          have de6 := ah6.out
          have de7 := ah5.out
          have dH4 := aq4.out
          have dH5 := aq5.out
          have en5 := aa7.out
          have en6 := am8.out
          have cE6 := cz4 H6.out
          have cE7 := fz4 H6.out
          obtain ⟨dr8, dr9, cV6⟩ := Kd.s7 F3.out
          subst cV6
          go_wp2
          repeat (go_quiet (fail); try go_wp2)
          go_roundg k3
          case measure => have := HJ5.out; have := HK2.out; have := HK3.out; omega
          case rel => exact ⟨(wrap64 (au3 - 1)), (t121), (W8), (.slice dr8 W8.length dr9), zs, H', ⟨by have := HJ5.out; have := HK2.out; have := HK3.out; omega⟩, ⟨by (with_reducible repeat (first | apply Kd.N9 | apply Kd.M8 | apply Kd.O0)); exact Kd.E0 F3.out (fun _ hk => trivial)⟩, ⟨rO J4⟩, ⟨kQ j5⟩, ⟨kQ H6⟩, ⟨zI⟩, ⟨zK⟩, ⟨zB⟩⟩
         ·replace H := aj5 H; obtain ⟨cE8, H⟩ := H
          first | (with_reducible replace H := bns H; obtain ⟨aV6, aJ9, H⟩ := H) | (generalize V5 : (W8 ++ [(⟨t119, t120⟩ : G6)] : List (G6)) = aV6 at H; have aJ9 := j4.mk V5.symm; clear V5)
          have H' := j4.mk H
          clear H
          have en7 := ah6.out
          have en8 := ah5.out
          have cE9 := aq4.out
          have cF0 := aq5.out
          have dH6 := aa7.out
          have dH7 := am8.out
          have de8 := cz4 H6.out
          have de9 := fz4 H6.out
          obtain ⟨bw7, bw8, cF1⟩ := Kd.s7 F3.out
          subst cF1
          have en9 := aA8.out
          have eo0 := aA7.out
          have dH8 := aQ9.out
          have dH9 := aQ8.out
          have cF2 := cz2 ad3.out
          have cF3 := fz2 ad3.out
          go_wp2_with (first | ((with_reducible refine N8 (b := .append) (xs := #[.tmp 50, .tmp 52]) rfl ?_); at_builtin; refine Kd.a89 k32 w.heap.size rfl (.tmp 50) (.tmp 52) 33 32 (.agg #[(.string ⟨#[]⟩), (.string ⟨#[]⟩)]) 32 rfl Tryz.underlying33 bo4 rfl I1 (by omega) (.slice bw7 W8.length bw8) W8 (⟨t119, t120⟩ : G6) [.string t119, .string t120] (fun k_ => k_ ≠ az4) (fun _ => False) rfl rfl ?aP (fun _ hk => hk.elim) ?aF ?aO (Below.refl _ _) ?aS ?aL ?_; (case aP => exact aQ2 _ _ _ (⟨t119, t120⟩ : G6)); (case aF => exact (fun k_ hk => (kG ad3) k_ hk)); (case aO => exact (rO F3)); (case aS => exact (kZ HK)); (case aL => have := cE8.out; omega); intro aE5 w65 ho hb hg hat; rw [← aJ9.out] at ho; have P5 := j4.mk (Kd.X4 (rO J4) (Kd.a44 (rO F3)) I1 hg); have P6 := j4.mk (I4 (g := j8) (o := .cells #[.string ⟨#[]⟩, .string ⟨#[]⟩, .slice none 0 0, .slice none 0 0] 35 (0, 0)) (kQ j5) hg (Kd.U6 F3.out j5.out I1)); have n2_ := j4.mk (I4 (g := aF2) (o := .cells #[.string af0, .string af1, .slice bw7 W8.length bw8, .slice aU2 t110.length aU3] 35 (0, 0)) (kQ H6) hg (Kd.U6 F3.out H6.out I1)); have n3_ := j4.mk (I4 (g := az4) (o := .cells #[.string t119, .string t120] 32 (0, 0)) (kQ ad3) hg (Kd.bm8 F3.out (fun _ hk => hk))); have n4_ := j4.mk (l5.grown zI hg (l5.aw4 HI0.out F3.out I1)); have n5_ := j4.mk (aF8 zB HL.out hb); have n6_ := j4.mk (y5.trans zK (y5.b53 hg g) (Kd.bh7 F3.out)); have n7_ := j4.mk (ho); clear J4 j5 H6 ad3 HI0 HB HK F3; have J4 := P5; have j5 := P6; have H6 := n2_; have ad3 := n3_; have HI0 := n4_; have HB := n5_; have HK := n6_; have a04 := n7_; clear P5 P6 n2_ n3_ n4_ n5_ n6_ n7_ ho hb hg hat; obtain ⟨bw9, aO0, bZ7⟩ := Kd.s7 a04.out; subst bZ7; obtain ⟨ce6, ce7, ce8, ce9⟩ := cz4 H6.out; obtain ⟨cf0, cf1, cf2, cf3⟩ := fz4 H6.out))
          repeat (go_quiet (first | ((with_reducible refine N8 (b := .append) (xs := #[.tmp 50, .tmp 52]) rfl ?_); at_builtin; refine Kd.a89 k32 w.heap.size rfl (.tmp 50) (.tmp 52) 33 32 (.agg #[(.string ⟨#[]⟩), (.string ⟨#[]⟩)]) 32 rfl Tryz.underlying33 bo4 rfl I1 (by omega) (.slice bw7 W8.length bw8) W8 (⟨t119, t120⟩ : G6) [.string t119, .string t120] (fun k_ => k_ ≠ az4) (fun _ => False) rfl rfl ?aP (fun _ hk => hk.elim) ?aF ?aO (Below.refl _ _) ?aS ?aL ?_; (case aP => exact aQ2 _ _ _ (⟨t119, t120⟩ : G6)); (case aF => exact (fun k_ hk => (kG ad3) k_ hk)); (case aO => exact (rO F3)); (case aS => exact (kZ HK)); (case aL => have := cE8.out; omega); intro aE5 w65 ho hb hg hat; rw [← aJ9.out] at ho; have P5 := j4.mk (Kd.X4 (rO J4) (Kd.a44 (rO F3)) I1 hg); have P6 := j4.mk (I4 (g := j8) (o := .cells #[.string ⟨#[]⟩, .string ⟨#[]⟩, .slice none 0 0, .slice none 0 0] 35 (0, 0)) (kQ j5) hg (Kd.U6 F3.out j5.out I1)); have n2_ := j4.mk (I4 (g := aF2) (o := .cells #[.string af0, .string af1, .slice bw7 W8.length bw8, .slice aU2 t110.length aU3] 35 (0, 0)) (kQ H6) hg (Kd.U6 F3.out H6.out I1)); have n3_ := j4.mk (I4 (g := az4) (o := .cells #[.string t119, .string t120] 32 (0, 0)) (kQ ad3) hg (Kd.bm8 F3.out (fun _ hk => hk))); have n4_ := j4.mk (l5.grown zI hg (l5.aw4 HI0.out F3.out I1)); have n5_ := j4.mk (aF8 zB HL.out hb); have n6_ := j4.mk (y5.trans zK (y5.b53 hg g) (Kd.bh7 F3.out)); have n7_ := j4.mk (ho); clear J4 j5 H6 ad3 HI0 HB HK F3; have J4 := P5; have j5 := P6; have H6 := n2_; have ad3 := n3_; have HI0 := n4_; have HB := n5_; have HK := n6_; have a04 := n7_; clear P5 P6 n2_ n3_ n4_ n5_ n6_ n7_ ho hb hg hat; obtain ⟨bw9, aO0, bZ7⟩ := Kd.s7 a04.out; subst bZ7; obtain ⟨ce6, ce7, ce8, ce9⟩ := cz4 H6.out; obtain ⟨cf0, cf1, cf2, cf3⟩ := fz4 H6.out)); try go_wp2_with (first | ((with_reducible refine N8 (b := .append) (xs := #[.tmp 50, .tmp 52]) rfl ?_); at_builtin; refine Kd.a89 k32 w.heap.size rfl (.tmp 50) (.tmp 52) 33 32 (.agg #[(.string ⟨#[]⟩), (.string ⟨#[]⟩)]) 32 rfl Tryz.underlying33 bo4 rfl I1 (by omega) (.slice bw7 W8.length bw8) W8 (⟨t119, t120⟩ : G6) [.string t119, .string t120] (fun k_ => k_ ≠ az4) (fun _ => False) rfl rfl ?aP (fun _ hk => hk.elim) ?aF ?aO (Below.refl _ _) ?aS ?aL ?_; (case aP => exact aQ2 _ _ _ (⟨t119, t120⟩ : G6)); (case aF => exact (fun k_ hk => (kG ad3) k_ hk)); (case aO => exact (rO F3)); (case aS => exact (kZ HK)); (case aL => have := cE8.out; omega); intro aE5 w65 ho hb hg hat; rw [← aJ9.out] at ho; have P5 := j4.mk (Kd.X4 (rO J4) (Kd.a44 (rO F3)) I1 hg); have P6 := j4.mk (I4 (g := j8) (o := .cells #[.string ⟨#[]⟩, .string ⟨#[]⟩, .slice none 0 0, .slice none 0 0] 35 (0, 0)) (kQ j5) hg (Kd.U6 F3.out j5.out I1)); have n2_ := j4.mk (I4 (g := aF2) (o := .cells #[.string af0, .string af1, .slice bw7 W8.length bw8, .slice aU2 t110.length aU3] 35 (0, 0)) (kQ H6) hg (Kd.U6 F3.out H6.out I1)); have n3_ := j4.mk (I4 (g := az4) (o := .cells #[.string t119, .string t120] 32 (0, 0)) (kQ ad3) hg (Kd.bm8 F3.out (fun _ hk => hk))); have n4_ := j4.mk (l5.grown zI hg (l5.aw4 HI0.out F3.out I1)); have n5_ := j4.mk (aF8 zB HL.out hb); have n6_ := j4.mk (y5.trans zK (y5.b53 hg g) (Kd.bh7 F3.out)); have n7_ := j4.mk (ho); clear J4; clear j5; clear H6; clear ad3; clear HI0; clear HB; clear HK; clear F3; have J4 := P5; have j5 := P6; have H6 := n2_; have ad3 := n3_; have HI0 := n4_; have HB := n5_; have HK := n6_; have a04 := n7_; clear P5 P6 n2_ n3_ n4_ n5_ n6_ n7_; clear ho hb hg hat; obtain ⟨bw9, aO0, bZ7⟩ := Kd.s7 a04.out; subst bZ7; have ce6 : w65.cell? ⟨aF2, 0, none⟩ = some (.string af0) := (l7 H6.out 0).trans rfl; have ce7 : w65.cell? ⟨aF2, 1, none⟩ = some (.string af1) := (l7 H6.out 1).trans rfl; have ce8 : w65.cell? ⟨aF2, 2, none⟩ = some (.slice bw7 W8.length bw8) := (l7 H6.out 2).trans rfl; have ce9 : w65.cell? ⟨aF2, 3, none⟩ = some (.slice aU2 t110.length aU3) := (l7 H6.out 3).trans rfl; have cf0 := z7 H6.out 0; have cf1 := z7 H6.out 1; have cf2 := z7 H6.out 2; have cf3 := z7 H6.out 3)))
          go_roundg k3
          case measure => have := HJ5.out; have := HK2.out; have := HK3.out; omega
          case rel => exact ⟨(wrap64 (au3 - 1)), (t121), (aV6), (.slice bw9 aV6.length aO0), zs, H', ⟨by have := HJ5.out; have := HK2.out; have := HK3.out; omega⟩, ⟨fM a04 H6 (fun _ hk => trivial)⟩, ⟨fM J4 H6 (fun _ hk => trivial)⟩, ⟨kQ j5⟩, ⟨kQ H6⟩, ⟨zI⟩, ⟨zK⟩, ⟨zB⟩⟩
     ·simp only [Option.some.injEq, Prod.mk.injEq] at H
      obtain ⟨rfl, rfl, rfl, rfl, rfl⟩ := H
      have cf4 := ah6.out
      have cf5 := ah5.out
      have eo1 := aa7.out
      have eo2 := am8.out
      have df0 := cz4 H6.out
      have df1 := fz4 H6.out
      have eo3 := J1.out
      have eo6 := a50.out
      have dI0 := cz4 j5.out
      have dI1 := fz4 j5.out
      obtain ⟨e95, e96, e97⟩ := Kd.s7 F3.out
      subst e97
      go_wp2
      repeat (go_quiet (fail); try go_wp2)
      refine bodyPost_ret (results_cell_row rfl _ _ j8 35 #[.string af0, .string af1, .slice e95 W8.length e96, .slice aU2 t110.length aU3] (0, 0) _ rfl (kQ j5) Tryz.underlying35 rfl z2_) rfl ?_
      exact ⟨_, _, zr, fM F3 j5 (fun _ hk => trivial), fM J4 j5 (fun _ hk => trivial), zI, zB, zK⟩
end Go.Proofs.YtbncnjgflhoneaaGreatDoor.F
namespace Go.Proofs.YtbncnjgflhoneaaGreatDoor.Hand
open Go.RowKit Go.Proofs.YtbncnjgflhoneaaGreatDoor.F Go.Proofs.YtbncnjgflhoneaaGreatDoorW.l8 Go.Proofs.YtbncnjgflhoneaaGreatDoorW.s9 Go.Proofs.YtbncnjgflhoneaaGreatDoorW.y9
def Byt (s : List Int) : Prop := s.length ≤ 1000000 ∧ ∀ x ∈ s, 0 ≤ x ∧ x ≤ 255
theorem Byt.at_ {s : List Int} (h : Byt s) (i : Int) : 0 ≤ rd s i ∧ rd s i ≤ 255 := by
 unfold rd
 rw [List.getD_eq_getElem?_getD]
 cases he : s[i.toNat]? with
 | none => decide
 | some x => exact h.2 x (List.mem_of_getElem? he)
theorem cV7 (a b : Int) (h0 : 0 ≤ a) (h1 : a < 9223372036854775808) (h2 : 0 ≤ b) (h3 : b < 9223372036854775808) : 0 ≤ bits .xor .i64 a b ∧ bits .xor .i64 a b < 9223372036854775808 := by
 obtain ⟨m, rfl⟩ := Int.eq_ofNat_of_zero_le h0
 obtain ⟨n, rfl⟩ := Int.eq_ofNat_of_zero_le h2
 have hx : m ^^^ n < 2 ^ 63 := Nat.xor_lt_two_pow (by omega) (by omega)
 have e : bits .xor .i64 (m : Int) (n : Int) = ((m ^^^ n : Nat) : Int) := by
  show IntKind.i64.wrap ((BitVec.ofInt 64 (m : Int) ^^^ BitVec.ofInt 64 (n : Int)).toNat : Int) = _
  rw [BitVec.toNat_xor, ofInt_u64 m (by omega), ofInt_u64 n (by omega)]
  simp [IntKind.wrap, IntKind.bits, IntKind.signed]
  omega
 rw [e]
 omega
theorem bi5 (a n : Int) (h0 : 0 ≤ a) (hn : 1 ≤ n) : 0 ≤ Int.tmod a n ∧ Int.tmod a n < n := ⟨Int.tmod_nonneg _ h0, Int.tmod_lt_of_pos _ (by omega)⟩
theorem a68 {s : List Int} (hs : Byt s) {p : Int} (h0 : 0 ≤ p) (h1 : p ≤ 1000000) {n : Int} (hn : 1 ≤ n) : ∃ v, Ev (fun k => l6.f k s p n) (v, p + 1) ∧ 0 ≤ v ∧ v < n := by
 have hl := hs.1
 have w1 : wrap64 (p + 1) = p + 1 := by unfold wrap64; omega
 have w2 : wrap64 (p + 1 - 1) = p := by unfold wrap64; omega
 have w3 : wrap64 (wrap64 (p * 7) + 3) = p * 7 + 3 := by unfold wrap64; omega
 unfold l6.f
 simp only [w1]
 by_cases c : (s.length : Int) = 0
 ·refine ⟨0, Ev.exact 1 fun k hk => ?_, by omega, by omega⟩
  obtain ⟨k, rfl⟩ : ∃ m, k = m + 1 := ⟨k - 1, by omega⟩
  rw [if_neg (by omega), beq_iff_eq.2 c, l6.j0, if_pos rfl]
 ·have e : ((s.length : Int) == 0) = false := beq_eq_false_iff_ne.2 c
  by_cases q : p < (s.length : Int)
  ·have hb := hs.at_ p
   have w4 : wrap64 (rd s p) = rd s p := by unfold wrap64; omega
   obtain ⟨t0, t1⟩ := bi5 (rd s p) n hb.1 hn
   refine ⟨_, Ev.exact 1 fun k hk => ?_, t0, t1⟩
   obtain ⟨k, rfl⟩ : ∃ m, k = m + 1 := ⟨k - 1, by omega⟩
   rw [if_neg (by omega), e, l6.j0, if_neg (by decide), w2, if_pos q, if_pos h0, if_neg (by omega), w4]
  ·obtain ⟨a0, a1⟩ := bi5 p (s.length : Int) h0 (by omega)
   obtain ⟨b0, b1⟩ := bi5 (p * 7 + 3) (s.length : Int) (by omega) (by omega)
   have hx := hs.at_ (Int.tmod p (s.length : Int))
   have hy := hs.at_ (Int.tmod (p * 7 + 3) (s.length : Int))
   have d0 : 0 ≤ Int.tdiv p (s.length : Int) := Int.tdiv_nonneg h0 (by omega)
   have d1 : Int.tdiv p (s.length : Int) ≤ p := Int.tdiv_le_self _ h0
   obtain ⟨X, hX⟩ : ∃ X, X = wrap64 (wrap64 (wrap64 (wrap64 (wrap64 (rd s (Int.tmod p (s.length : Int))) * 131) + wrap64 (wrap64 (rd s (Int.tmod (p * 7 + 3) (s.length : Int))) * 1117)) + wrap64 (p * 29)) + wrap64 (wrap64 (Int.tdiv p (s.length : Int)) * 53)) := ⟨_, rfl⟩
   have x0 : 0 ≤ X ∧ X ≤ 1000000000000 := by
    rw [hX]
    generalize rd s (Int.tmod p (s.length : Int)) = x at *
    generalize rd s (Int.tmod (p * 7 + 3) (s.length : Int)) = y at *
    generalize Int.tdiv p (s.length : Int) = t at *
    have e1 : wrap64 x = x := by unfold wrap64; omega
    have e2 : wrap64 y = y := by unfold wrap64; omega
    have e3 : wrap64 (x * 131) = x * 131 := by unfold wrap64; omega
    have e4 : wrap64 (y * 1117) = y * 1117 := by unfold wrap64; omega
    have e5 : wrap64 (x * 131 + y * 1117) = x * 131 + y * 1117 := by unfold wrap64; omega
    have e6 : wrap64 (p * 29) = p * 29 := by unfold wrap64; omega
    have e7 : wrap64 t = t := by unfold wrap64; omega
    have e8 : wrap64 (t * 53) = t * 53 := by unfold wrap64; omega
    have e9 : wrap64 (x * 131 + y * 1117 + p * 29) = x * 131 + y * 1117 + p * 29 := by unfold wrap64; omega
    rw [e1, e2, e3, e4, e5, e6, e7, e8, e9, show wrap64 (x * 131 + y * 1117 + p * 29 + t * 53) = x * 131 + y * 1117 + p * 29 + t * 53 by unfold wrap64; omega]
    omega
   have z0 : 0 ≤ Int.tdiv X 64 := Int.tdiv_nonneg x0.1 (by omega)
   have z1 : Int.tdiv X 64 ≤ X := Int.tdiv_le_self _ x0.1
   have w5 : wrap64 (Int.tdiv X 64) = Int.tdiv X 64 := by unfold wrap64; omega
   have hxo := cV7 X (Int.tdiv X 64) x0.1 (by omega) z0 (by omega)
   obtain ⟨t0, t1⟩ := bi5 _ n hxo.1 hn
   refine ⟨_, Ev.exact 1 fun k hk => ?_, t0, t1⟩
   obtain ⟨k, rfl⟩ : ∃ m, k = m + 1 := ⟨k - 1, by omega⟩
   rw [if_neg (by omega), e, l6.j0, if_neg (by decide), w2, if_neg q, if_neg c, if_pos a0, if_pos a1, w3, if_pos b0, if_pos b1, if_neg (by omega), ← hX, w5]
theorem bP5 {s : List Int} (hs : Byt s) {p : Int} (h0 : 0 ≤ p) (h1 : p ≤ 1000000) (l : List ByteArray) (hl : 1 ≤ l.length) : ∃ v, Ev (fun k => Q9.f k s p l) (v, p + 1) ∧ v ∈ l := by
 obtain ⟨v, hv, v0, v1⟩ := a68 hs h0 h1 (n := (l.length : Int)) (by omega)
 obtain ⟨i, rfl⟩ := Int.eq_ofNat_of_zero_le v0
 have hi : i < l.length := by omega
 refine ⟨l[i], ?_, List.getElem_mem hi⟩
 unfold Q9.f
 refine Ev.bind hv (Ev.congr (fun k => ?_) (Ev.now _))
 dsimp only
 rw [if_pos v0, if_pos v1]
 unfold H9
 rw [Int.toNat_natCast, List.getD_eq_getElem?_getD, List.getElem?_eq_getElem hi]
 rfl
theorem ds0 {s : List Int} (hs : Byt s) {p : Int} (h0 : 0 ≤ p) (h1 : p ≤ 1000000) (l : List Int) (hl : 1 ≤ l.length) : ∃ v, Ev (fun k => a48.f k s p l) (v, p + 1) ∧ v ∈ l := by
 obtain ⟨v, hv, v0, v1⟩ := a68 hs h0 h1 (n := (l.length : Int)) (by omega)
 obtain ⟨i, rfl⟩ := Int.eq_ofNat_of_zero_le v0
 have hi : i < l.length := by omega
 refine ⟨l[i], ?_, List.getElem_mem hi⟩
 unfold a48.f
 refine Ev.bind hv (Ev.congr (fun k => ?_) (Ev.now _))
 dsimp only
 rw [if_pos v0, if_pos v1]
 unfold rd
 rw [Int.toNat_natCast, List.getD_eq_getElem?_getD, List.getElem?_eq_getElem hi]
 rfl
def Sm (x : ByteArray) : Prop := x.size ≤ 40
theorem aV7 {v : ByteArray} {l : List ByteArray} (h : v ∈ l) (hl : (l.all fun x => decide (x.size ≤ 40)) = true) : Sm v := show v.size ≤ 40 from of_decide_eq_true (List.all_eq_true.1 hl v h)
theorem bI0 {s : List Int} (hs : Byt s) {p : Int} (h0 : 0 ≤ p) (h1 : p ≤ 900000) : ∃ u d, Ev (fun k => V0.f k s p) (u, d, p + 2) ∧ Sm u ∧ Sm d := by
 unfold V0.f ah4.f
 obtain ⟨u, hu, mu⟩ := bP5 hs h0 (by omega) [(⟨#[97]⟩ : ByteArray), (⟨#[98]⟩ : ByteArray), (⟨#[97, 110, 110]⟩ : ByteArray), (⟨#[98, 111, 98, 55]⟩ : ByteArray)] (by decide)
 obtain ⟨d, hd, md⟩ := bP5 hs (p := p + 1) (by omega) (by omega) [(⟨#[111, 110, 101, 46, 111, 114, 103]⟩ : ByteArray), (⟨#[116, 119, 111, 46, 111, 114, 103]⟩ : ByteArray), (⟨#[104, 117, 98, 46, 110, 101, 116]⟩ : ByteArray), (⟨#[120, 46, 99, 111, 109]⟩ : ByteArray), (⟨#[102, 97, 114, 46, 99, 111, 109]⟩ : ByteArray), (⟨#[111, 116, 104, 101, 114, 46, 99, 111, 109]⟩ : ByteArray), (⟨#[97, 46, 111, 110, 101, 46, 111, 114, 103]⟩ : ByteArray)] (by decide)
 refine ⟨u, d, Ev.bind hu (Ev.bind (Ev.bind hd (Ev.now _)) ?_), aV7 mu (by decide), aV7 md (by decide)⟩
 rw [show p + 2 = p + 1 + 1 by omega]
 exact Ev.now _
theorem cV8 {s : List Int} (hs : Byt s) {p : Int} (h0 : 0 ≤ p) (h1 : p ≤ 900000) : ∃ x, Ev (fun k => af8.f k s p) (x, p + 1) ∧ Sm x := by
 unfold af8.f
 obtain ⟨u, hu, mu⟩ := bP5 hs h0 (by omega) [(⟨#[104, 101, 108, 108, 111]⟩ : ByteArray), (⟨#[]⟩ : ByteArray), (⟨#[46]⟩ : ByteArray), (⟨#[46, 46]⟩ : ByteArray), (⟨#[46, 100, 111, 116]⟩ : ByteArray), (⟨#[97, 32, 108, 111, 110, 103, 101, 114, 32, 108, 105, 110, 101, 32, 111, 102, 32, 116, 101, 120, 116]⟩ : ByteArray), (⟨#[72, 111, 112, 58, 32, 111, 110, 101, 46, 111, 114, 103]⟩ : ByteArray), (⟨#[72, 111, 112, 58, 32]⟩ : ByteArray), (⟨#[73, 100, 58, 32, 55]⟩ : ByteArray), (⟨#[110, 111, 116, 32, 100, 101, 108, 105, 118, 101, 114, 101, 100, 58]⟩ : ByteArray), (⟨#[60, 97, 64, 111, 110, 101, 46, 111, 114, 103, 62]⟩ : ByteArray), (⟨#[108, 105, 110, 101, 32, 116, 104, 97, 116, 32, 105, 115, 32, 101, 120, 97, 99, 116, 108, 121, 32, 102, 111, 114, 116, 121, 32, 98, 121, 116, 101, 115, 32, 108, 111, 110, 103, 46, 46, 33]⟩ : ByteArray)] (by decide)
 exact ⟨u, Ev.bind hu (Ev.now _), aV7 mu (by decide)⟩
def Few (l : List ByteArray) : Prop := l.length ≤ 9 ∧ ∀ x ∈ l, Sm x
theorem bA3 {s : List Int} (hs : Byt s) : ∀ (n : Nat) (l : List ByteArray) (p : Int), l.length + n ≤ 9 → (∀ x ∈ l, Sm x) → 0 ≤ p → p + n ≤ 800000 → ∃ r, Ev (fun k => Q6.l0 k l (n : Int) s p) (r, p + n) ∧ Few r
 | 0, l, p, hl, hm, h0, h1 => ⟨l, Ev.step (f := fun _ => some (l, p + 0)) (fun k => by rw [Q6.l0, if_neg (by omega), Int.add_zero]) (Ev.now _), by omega, hm⟩
 | n + 1, l, p, hl, hm, h0, h1 => by
  obtain ⟨x, hx, sx⟩ := cV8 hs h0 (by omega)
  obtain ⟨r, hr, fr⟩ := bA3 hs n (l ++ [x]) (p + 1) (by rw [List.length_append, List.length_singleton]; omega) (fun y hy => by
   rcases List.mem_append.1 hy with hy | hy
   ·exact hm y hy
   ·rw [List.mem_singleton.1 hy]; exact sx) (by omega) (by omega)
  rw [show p + 1 + (n : Int) = p + ((n + 1 : Nat) : Int) by omega] at hr
  refine ⟨r, Ev.step (f := fun k => (af8.f k s p).bind fun t => (if l.length < 8796093022208 then (Q6.l0 k (l ++ [t.1]) (wrap64 (((n + 1 : Nat) : Int) - 1)) s t.2) else none)) (fun k => by rw [Q6.l0, if_pos (by omega)]) (Ev.bind hx (Ev.congr (fun k => ?_) hr)), fr⟩
  dsimp only
  rw [if_pos (by omega), show wrap64 (((n + 1 : Nat) : Int) - 1) = (n : Int) by unfold wrap64; omega]
theorem cV9 {s : List Int} (hs : Byt s) {p : Int} (h0 : 0 ≤ p) (h1 : p ≤ 700000) {m : Int} (hm : 0 ≤ m) (hm9 : m ≤ 9) : ∃ r q, Ev (fun k => Q6.f k s p m) (r, q) ∧ Few r ∧ p ≤ q ∧ q ≤ p + 10 := by
 have w : wrap64 (m + 1) = m + 1 := by unfold wrap64; omega
 unfold Q6.f
 rw [w]
 obtain ⟨v, hv, v0, v1⟩ := a68 hs h0 (by omega) (n := m + 1) (by omega)
 obtain ⟨n, rfl⟩ := Int.eq_ofNat_of_zero_le v0
 obtain ⟨r, hr, fr⟩ := bA3 hs n [] (p + 1) (by simp; omega) (fun _ h => by cases h) (by omega) (by omega)
 exact ⟨r, _, Ev.bind hv hr, fr, by omega, by omega⟩
def Sa (a : G6) : Prop := Sm a.f0 ∧ Sm a.f1
theorem bI1 {s : List Int} (n : Nat) (p : Int) (u d : ByteArray) (ts : List G6) (body : List ByteArray) (a b : ByteArray) (hl : ts.length ≤ 1000) (hn4 : n ≤ 1000) : ∀ (e i : Nat) (is : Bool), ts.length = i + e → (is = true → ts ≠ []) → ∃ ts' : List G6, (ts' = ts ∧ ts ≠ [] ∨ ts' = ts ++ [⟨a, b⟩]) ∧
  ∀ r, Ev (fun k => C4.l0 k (n : Int) s p u d ts' body) r → Ev (fun k => C4.l1 k ((n + 1 : Nat) : Int) is (i : Int) s p u d ts body a b) r
 | 0, i, is, hi, hn => by
  have w : wrap64 (((n + 1 : Nat) : Int) - 1) = (n : Int) := by unfold wrap64; omega
  cases is with
  | true =>
   refine ⟨ts, .inl ⟨rfl, hn rfl⟩, fun r hr => Ev.step (f := fun k => C4.l0 k (wrap64 (((n + 1 : Nat) : Int) - 1)) s p u d ts body) (fun k => by rw [C4.l1, if_neg (by omega), if_pos rfl]) ?_⟩
   rw [w]
   exact hr
  | false =>
   refine ⟨ts ++ [⟨a, b⟩], .inr rfl, fun r hr => Ev.step (f := fun k => C4.l0 k (wrap64 (((n + 1 : Nat) : Int) - 1)) s p u d (ts ++ [⟨a, b⟩]) body) (fun k => by rw [C4.l1, if_neg (by omega), if_neg (by decide), if_pos (by omega)]) ?_⟩
   rw [w]
   exact hr
 | e + 1, i, is, hi, hn => by
  have hne : ts ≠ [] := fun h => by rw [h] at hi; simp at hi
  have w : wrap64 ((i : Int) + 1) = ((i + 1 : Nat) : Int) := by unfold wrap64; omega
  cases is with
  | true =>
   obtain ⟨t', ht, hr⟩ := bI1 (s := s) n p u d ts body a b hl hn4 e (i + 1) true (by omega) (fun _ => hne)
   exact ⟨t', ht, fun r h => Ev.step (f := fun k => C4.l1 k ((n + 1 : Nat) : Int) true ((i + 1 : Nat) : Int) s p u d ts body a b) (fun k => by rw [C4.l1, if_pos (by omega), if_pos rfl, w]) (hr r h)⟩
  | false =>
   obtain ⟨t', ht, hr⟩ := bI1 (s := s) n p u d ts body a b hl hn4 e (i + 1) (((E6 ts (i : Int)).f0).toList == a.toList && (((E6 ts (i : Int)).f1).toList == b.toList)) (by omega) (fun _ => hne)
   exact ⟨t', ht, fun r h => Ev.step (f := fun k => C4.l1 k ((n + 1 : Nat) : Int) (((E6 ts (i : Int)).f0).toList == a.toList && (((E6 ts (i : Int)).f1).toList == b.toList)) ((i + 1 : Nat) : Int) s p u d ts body a b) (fun k => by rw [C4.l1, if_pos (by omega), if_neg (by decide), if_pos (by omega), w]) (hr r h)⟩
theorem bA4 {s : List Int} (hs : Byt s) (u d : ByteArray) (body : List ByteArray) : ∀ (n : Nat) (ts : List G6) (p : Int), ts.length + n ≤ 4 → (∀ a ∈ ts, Sa a) → 1 ≤ ts.length + n → 0 ≤ p → p + 2 * n ≤ 800000 → ∃ ts', Ev (fun k => C4.l0 k (n : Int) s p u d ts body) (u, d, ts', body, p + 2 * n) ∧ 1 ≤ ts'.length ∧ ts'.length ≤ 4 ∧ ∀ a ∈ ts', Sa a
 | 0, ts, p, hl, hm, h1, h0, hp => ⟨ts, Ev.step (f := fun _ => some (u, d, ts, body, p + 2 * ((0 : Nat) : Int))) (fun k => by rw [C4.l0, if_neg (by omega), show p + 2 * ((0 : Nat) : Int) = p by omega]) (Ev.now _), by omega, by omega, hm⟩
 | n + 1, ts, p, hl, hm, h1, h0, hp => by
  obtain ⟨a, b, hab, sa, sb⟩ := bI0 hs h0 (by omega)
  obtain ⟨t', ht, hr⟩ := bI1 (s := s) n (p + 2) u d ts body a b (by omega) (by omega) ts.length 0 false (by omega) (fun h => by cases h)
  have h4 : t'.length + n ≤ 4 ∧ 1 ≤ t'.length ∧ ∀ x ∈ t', Sa x := by
   rcases ht with ⟨rfl, hne⟩ | rfl
   ·exact ⟨by omega, List.length_pos_iff.2 hne, hm⟩
   ·refine ⟨by rw [List.length_append, List.length_singleton]; omega, by rw [List.length_append, List.length_singleton]; omega, fun x hx => ?_⟩
    rcases List.mem_append.1 hx with hx | hx
    ·exact hm x hx
    ·rw [List.mem_singleton.1 hx]; exact ⟨sa, sb⟩
  obtain ⟨q, hq, q1, q4, qs⟩ := bA4 hs u d body n t' (p + 2) h4.1 h4.2.2 (by omega) (by omega) (by omega)
  rw [show p + 2 + 2 * (n : Int) = p + 2 * ((n + 1 : Nat) : Int) by omega] at hq
  exact ⟨q, Ev.step (f := fun k => (V0.f k s p).bind fun t => C4.l1 k ((n + 1 : Nat) : Int) false 0 s t.2.2 u d ts body t.1 t.2.1) (fun k => by rw [C4.l0, if_pos (by omega)]) (Ev.bind hab (hr _ hq)), q1, q4, qs⟩
structure bZ8 (u d : ByteArray) (ts : List G6) (body : List ByteArray) : Prop where
 u : Sm u
 d : Sm d
 t1 : 1 ≤ ts.length
 t4 : ts.length ≤ 4
 ts : ∀ a ∈ ts, Sa a
 body : Few body
theorem cf6 {s : List Int} (hs : Byt s) {p : Int} (h0 : 0 ≤ p) (h1 : p ≤ 600000) : ∃ u d ts body q, Ev (fun k => C4.f k s p) (u, d, ts, body, q) ∧ bZ8 u d ts body ∧ p ≤ q ∧ q ≤ p + 30 := by
 obtain ⟨u, d, ha, su, sd⟩ := bI0 hs h0 (by omega)
 obtain ⟨m, hm, mm⟩ := ds0 hs (p := p + 2) (by omega) (by omega) [1, 4, 9] (by decide)
 have hm9 : 0 ≤ m ∧ m ≤ 9 := by
  simp only [List.mem_cons, List.not_mem_nil, or_false] at mm
  omega
 obtain ⟨body, q, hb, fb, q0, q1⟩ := cV9 hs (p := p + 2 + 1) (by omega) (by omega) hm9.1 hm9.2
 obtain ⟨c, hc, c0, c1⟩ := a68 hs (p := q) (by omega) (by omega) (n := 5) (by omega)
 obtain ⟨t, ht, t0, t1⟩ := a68 hs (p := q + 1) (by omega) (by omega) (n := 4) (by omega)
 obtain ⟨n, rfl⟩ := Int.eq_ofNat_of_zero_le t0
 have w : wrap64 (1 + (n : Int)) = ((n + 1 : Nat) : Int) := by unfold wrap64; omega
 have go : ∀ u d, Sm u → Sm d → ∃ ts q', Ev (fun k => C4.j0 k s (q + 1) u d body) (u, d, ts, body, q') ∧ bZ8 u d ts body ∧ p ≤ q' ∧ q' ≤ p + 30 := by
  intro u d su sd
  obtain ⟨ts, hts, k1, k4, ks⟩ := bA4 hs u d body (n + 1) [] (q + 1 + 1) (by simp; omega) (fun _ h => by cases h) (by simp) (by omega) (by omega)
  refine ⟨ts, _, Ev.step (f := fun k => (l6.f k s (q + 1) 4).bind fun x => C4.l0 k (wrap64 (1 + x.1)) s x.2 u d [] body) (fun k => by rw [C4.j0]) (Ev.bind ht (Ev.congr (fun k => ?_) hts)), ⟨su, sd, k1, k4, ks, fb⟩, by omega, by omega⟩
  dsimp only
  rw [w]
 unfold C4.f
 by_cases hz : c = 0
 ·obtain ⟨ts, q', he, hM, l0, l1⟩ := go (⟨#[]⟩ : ByteArray) (⟨#[]⟩ : ByteArray) (show (⟨#[]⟩ : ByteArray).size ≤ 40 by decide) (show (⟨#[]⟩ : ByteArray).size ≤ 40 by decide)
  refine ⟨_, _, ts, body, q', Ev.bind ha (Ev.bind hm (Ev.bind hb (Ev.bind hc (Ev.congr (fun k => ?_) he)))), hM, l0, l1⟩
  dsimp only
  rw [if_pos hz]
 ·obtain ⟨ts, q', he, hM, l0, l1⟩ := go u d su sd
  refine ⟨_, _, ts, body, q', Ev.bind ha (Ev.bind hm (Ev.bind hb (Ev.bind hc (Ev.congr (fun k => ?_) he)))), hM, l0, l1⟩
  dsimp only
  rw [if_neg hz]
end Go.Proofs.YtbncnjgflhoneaaGreatDoor.Hand
namespace Go.Proofs.YtbncnjgflhoneaaGreatDoor.F
open Go.RowKit Go.Proofs.YtbncnjgflhoneaaGreatDoor.Hand Go.Proofs.YtbncnjgflhoneaaGreatDoorW.l8 Go.Proofs.YtbncnjgflhoneaaGreatDoorW.s9 Go.Proofs.YtbncnjgflhoneaaGreatDoorW.y9
section
variable {P : Program} {md : Region.Mode} {ops : Array Oper} {Q : Exit → Act → World → Prop} {S : World → Prop} {ds : List Nat} {oi oj : Oper} {v : Value} {fuel : Nat} {l l' lj : Array Bool} {a a' a1 : Act} {w w1 : World} {K : Act → World → Prop} {N : Option Tmp}
theorem zH {p : Prop} (h : p := by repeat' (first | apply And.intro | exact (l7 (j4.out (by assumption)) _).trans rfl)) : p := h
theorem zF {p : Prop} (h : p := by repeat' (first | apply And.intro | refine (cell_far (j4.out (by assumption)) _).trans ?_ | (with_reducible first | exact hHeld | exact hHeld.1 | exact hHeld.2 | exact hHeld.2.1 | exact hHeld.2.2 | exact hHeld.2.2.1 | exact hHeld.2.2.2 | exact hHeld.2.2.2.1 | exact hHeld.2.2.2.2 | exact hHeld.2.2.2.2.1 | exact hHeld.2.2.2.2.2 | exact hHeld.2.2.2.2.2.1 | exact hHeld.2.2.2.2.2.2 | exact hHeld.2.2.2.2.2.2.1 | exact hHeld.2.2.2.2.2.2.2 | exact hHeld.2.2.2.2.2.2.2.1 | exact hHeld.2.2.2.2.2.2.2.2 | exact hHeld.2.2.2.2.2.2.2.2.1 | exact hHeld.2.2.2.2.2.2.2.2.2 | exact hHeld.2.2.2.2.2.2.2.2.2.1 | exact hHeld.2.2.2.2.2.2.2.2.2.2 | exact hHeld.2.2.2.2.2.2.2.2.2.2.1 | exact hHeld.2.2.2.2.2.2.2.2.2.2.2 | exact hHeld.2.2.2.2.2.2.2.2.2.2.2.1 | exact hHeld.2.2.2.2.2.2.2.2.2.2.2.2 | exact hHeld.2.2.2.2.2.2.2.2.2.2.2.2.1 | exact hHeld.2.2.2.2.2.2.2.2.2.2.2.2.2 | exact hHeld.2.2.2.2.2.2.2.2.2.2.2.2.2.1 | exact hHeld.2.2.2.2.2.2.2.2.2.2.2.2.2.2))) : p := h
theorem pu (i n : Nat) (h : F5 P md ops Q S ds fuel l' a' w) (hi : ops[i]? = some oi := by rfl) (hN : oi.dst = some n := by rfl)
  (hl : l.setIfInBounds i true = l' := by simp only [List.setIfInBounds_toArray, List.set_cons_zero, List.set_cons_succ]; rfl)
  (hc : cA6 md ops l l' i = true := by first | exact dp2 HT_.out (by kernel_rfl) | kernel_rfl) (hQ : ∀ c a w, Q (.panic c) (a.put oi.dst v) w → Q (.panic c) a w := by exact fun _ _ _ h => h)
  (hw : Region.wanted oi (yielded ops a.tmps) = true := by rfl) (hy : ∀ w, (execOp a.eval oi).run P w = .ok (.value v) w := by intro w'; go_simp; with_reducible rfl)
  (ha : a.put (some n) v = a' := by simp only [Act.put, List.setIfInBounds_toArray, List.set_cons_zero, List.set_cons_succ, Z1, aa5]; rfl) : F5 P md ops Q S ds (fuel + 1) l a w := dE0 l' hi hN hc hQ (.inl ⟨hw, hy⟩) ha h
theorem ta (i n : Nat) (h : F5 P md ops Q S ds fuel l' a' w) (hi : ops[i]? = some oi := by rfl) (hN : oi.dst = some n := by rfl)
  (hl : l.setIfInBounds i true = l' := by simp only [List.setIfInBounds_toArray, List.set_cons_zero, List.set_cons_succ]; rfl)
  (hc : bz4 md ops ds l l' i = true := by first | exact cA8 HT_.out HW_.out (by kernel_rfl) | kernel_rfl) (hQ : ∀ c a w, Q (.panic c) (a.put oi.dst v) w → Q (.panic c) a w := by exact fun _ _ _ h => h)
  (hw : Region.wanted oi (yielded ops a.tmps) = true := by rfl) (hy : ∀ w, S w → (execOp a.eval oi).run P w = .ok (.value v) w := by intro w' s_; go_simp; with_reducible rfl) (hS : S w := by exact hHeld)
  (ha : a.put (some n) v = a' := by simp only [Act.put, List.setIfInBounds_toArray, List.set_cons_zero, List.set_cons_succ, Z1, aa5]; rfl) : F5 P md ops Q S ds (fuel + 1) l a w := cz6 l' hi hN hc hQ (.inl ⟨hw, hy⟩) hS ha h
theorem on (i : Nat) (N : Option Tmp) (h : ∀ K : Act → World → Prop, Shut (∀ a' w', S w' → (S w' → F5 P md ops Q S ds fuel l' a' w') → K a' w') → if Region.wanted oi (yielded ops a.tmps) = true then Oper.wp P oi a w K Q else K (a.put N undef) w)
  (hi : ops[i]? = some oi := by rfl) (hN : oi.dst = N := by rfl)
  (hl : l.setIfInBounds i true = l' := by simp only [List.setIfInBounds_toArray, List.set_cons_zero, List.set_cons_succ]; rfl)
  (hc : b34 md ops l l' i = true := by first | exact bb1 HT_.out (by kernel_rfl) | kernel_rfl) (hd : i ∉ ds := by decide) : F5 P md ops Q S ds (fuel + 1) l a w := e72 l' hi hN hc hd h
theorem tw (i j : Nat) (N N' : Option Tmp) (h : ∀ K : Act → World → Prop, Shut (∀ a' w', S w' → (S w' → F5 P md ops Q S ds fuel l' a' w') → K a' w') → if Region.wanted oi (yielded ops a.tmps) = true then Oper.wp P oi a w K Q else K (a.put N undef) w)
  (h2 : ∀ K : Act → World → Prop, Shut (∀ a' w', S w' → (S w' → F5 P md ops Q S ds fuel lj a' w') → K a' w') → if Region.wanted oj (yielded ops a.tmps) = true then Oper.wp P oj a w K Q else K (a.put N' undef) w)
  (hi : ops[i]? = some oi := by rfl) (hj : ops[j]? = some oj := by rfl) (hN : oi.dst = N := by rfl) (hN' : oj.dst = N' := by rfl)
  (hl : l.setIfInBounds i true = l' := by simp only [List.setIfInBounds_toArray, List.set_cons_zero, List.set_cons_succ]; rfl) (hl' : l.setIfInBounds j true = lj := by simp only [List.setIfInBounds_toArray, List.set_cons_zero, List.set_cons_succ]; rfl)
  (hc : (Region.ready md ops l == [i, j] && l.setIfInBounds i true == l' && l.setIfInBounds j true == lj) = true := by first | exact dp3 HT_.out (by kernel_rfl) | kernel_rfl) (hd : i ∉ ds := by decide) (hd' : j ∉ ds := by decide) : F5 P md ops Q S ds (fuel + 1) l a w := e73 l' lj hi hj hN hN' hc hd hd' h h2
theorem rL {α : Type} (d : Kd α) (e n : Nat) {xs : List α} (hx : j4 (xs = [])) (h : ∀ v1 w1, d.R e w1 w.heap.size (fun _ => True) v1 xs → Below w.heap.size w w1 → K (a.put (some n) v1) w1) (hd : oi.dst = some n := by rfl)
  (hw : Region.wanted oi (yielded ops a.tmps) = true := by rfl) (hr : (execOp a.eval oi).run P w = .ok (.value (.slice (some ⟨w.heap.size, 0, none⟩) 0 0)) (w.alloc (.cells #[] e)) := by first | (go_simp; done) | (go_simp; rfl)) : if Region.wanted oi (yielded ops a.tmps) = true then Oper.wp P oi a w K Q else K (a.put (some n) undef) w := by
 have hz := hx.out
 subst hz
 rw [← hd]
 exact Kd.az9 d w.heap.size e hw hd (xs := []) (inner := []) (ok := fun _ => True) (okp := fun _ => True) hr (M4.none _ _) (fun _ hk => hk) trivial (Below.refl _ _) (Nat.le_refl _) (by simp) (fun v1 w1 ho hb _ _ => by rw [hd]; exact h v1 w1 ho hb)
theorem kO (n : Nat) {v : Value} (hK : Shut (∀ a' w', S w' → (S w' → F5 P md ops Q S ds fuel l a' w') → K a' w')) (h : S w → F5 P md ops Q S ds fuel l a' w) (hS : S w := by exact zH)
  (ha : a.put (some n) v = a' := by simp only [Act.put, List.setIfInBounds_toArray, List.set_cons_zero, List.set_cons_succ, Z1, aa5]; rfl) : K (a.put (some n) v) w := hK.out _ _ hS (fun s => by subst ha; exact h s)
theorem sk (h : K a w1) (hw : Region.wanted oi (yielded ops a.tmps) = true := by rfl) (hN : oi.dst = none := by rfl) (hrun : (execOp a.eval oi).run P w = .ok .skip w1 := by go_simp; rfl) : if Region.wanted oi (yielded ops a.tmps) = true then Oper.wp P oi a w K Q else K (a.put none undef) w := dc2 hw hN hrun h
theorem skW (h : ∀ w2, w2 = w1 → K a w2) (hw : Region.wanted oi (yielded ops a.tmps) = true := by rfl) (hN : oi.dst = none := by rfl) (hrun : (execOp a.eval oi).run P w = .ok .skip w1 := by go_simp; rfl) : if Region.wanted oi (yielded ops a.tmps) = true then Oper.wp P oi a w K Q else K (a.put none undef) w := dc2 hw hN hrun (h _ rfl)
end
section
variable {α : Type} {d : Kd α} {e t g base : Nat} {ok : Nat → Prop} {w w0 W w1 : World} {v : Value} {xs : List α} {cs cs' : Array Value}
theorem bG (b : j4 (w.heap[g]? = some (.cells cs t (0, 0)))) (ho : j4 (d.R e w base ok v xs)) (hg : W.grownBy w1 v.ownBlock) (ht : e ≠ t := by decide)
  (k : w.heap[g]? = some (.cells cs t (0, 0)) → W.heap[g]? = some (.cells cs t (0, 0)) := by intro h_; (repeat (first | (with_reducible first | exact h_ | apply aq0 | apply I7 | apply ac8) | refine kF ?_ (j4.out (by assumption)) _)); first | done | exact h_) : j4 (w1.heap[g]? = some (.cells cs t (0, 0))) := ⟨I4 (k b.out) hg (Kd.U6 ho.out b.out ht)⟩
theorem bN (b : j4 (w.heap[g]? = some (.cells cs t (0, 0)))) (ho : j4 (Kd.N d e w base ok v xs)) (hg : W.grownBy w1 v.ownBlock) (ht : e ≠ t := by decide)
  (k : w.heap[g]? = some (.cells cs t (0, 0)) → W.heap[g]? = some (.cells cs t (0, 0)) := by intro h_; (repeat (first | (with_reducible first | exact h_ | apply aq0 | apply I7 | apply ac8) | refine kF ?_ (j4.out (by assumption)) _)); first | done | exact h_) : j4 (w1.heap[g]? = some (.cells cs t (0, 0))) := ⟨I4 (k b.out) hg (Kd.cB8 ho.out b.out ht)⟩
end
end Go.Proofs.YtbncnjgflhoneaaGreatDoor.F
namespace Go.Proofs.YtbncnjgflhoneaaGreatDoor.F
open Go.RowKit Go.Proofs.YtbncnjgflhoneaaGreatDoor.Hand Go.Proofs.YtbncnjgflhoneaaGreatDoorW.l8 Go.Proofs.YtbncnjgflhoneaaGreatDoorW.s9 Go.Proofs.YtbncnjgflhoneaaGreatDoorW.y9
section
variable {w W w1 : World} {g : Nat} {α : Type} {d : Kd α} {e base : Nat} {ok ok' : Nat → Prop} {v : Value} {xs : List α}
theorem vO (h : j4 (Kd.V d e w base ok v xs)) (k : Kd.V d e w base ok v xs → Kd.V d e W base ok v xs := by intro h_; (with_reducible repeat (first | apply Kd.cf7 | apply Kd.bG9 | apply Kd.aA2)); exact h_) : Kd.V d e W base ok v xs := k h.out
theorem nO (h : j4 (Kd.N d e w base ok v xs)) (k : Kd.N d e w base ok v xs → Kd.N d e W base ok v xs := by intro h_; (with_reducible repeat (first | apply Kd.cW0 | apply Kd.cW1 | apply Kd.ds2)); exact h_) : Kd.N d e W base ok v xs := k h.out
theorem cR {A : Option Addr} {n : Nat} (h : j4 (d.C w A n xs)) (hb : Below W.heap.size W w1) (k : d.C w A n xs → d.C W A n xs := by intro h_; repeat (first | (with_reducible exact h_) | (with_reducible refine Kd.K4 ?_ _) | (with_reducible refine Kd.K5 ?_ _) | (with_reducible refine Kd.Q1 ?_) | exact h_)) : j4 (d.C w1 A n xs) := ⟨Kd.a79 (k h.out) hb⟩
theorem sV (p : Addr) (u : Value) (h : j4 (Kd.V d e w base ok v xs)) (m : ∀ k, ok k → k ≠ p.block := by intro k_ hk_; grind) : j4 (Kd.V d e (w.setCell p u) base ok v xs) := ⟨Kd.dc9 h.out m u⟩
theorem sR {t : Nat} {cs : Array Value} (p : Addr) (u : Value) (h : j4 (d.R e w base ok v xs)) (b : j4 (w.heap[p.block]? = some (.cells cs t (0, 0)))) (ht : ∀ q, q ∈ e :: d.E → q ≠ t := by decide) : j4 (d.R e (w.setCell p u) base ok v xs) := ⟨Kd.E0 (Kd.M9 (Kd.z8 h.out b.out ht) (fun _ hk => hk.2) u) (fun _ hk => hk.1)⟩
theorem sB {o : Obj} (p : Addr) (u : Value) (h : j4 (w.heap[g]? = some o)) (n : g ≠ p.block := by exact j4.out (by assumption)) : j4 ((w.setCell p u).heap[g]? = some o) := ⟨kF h.out n u⟩
theorem fV {ok' : Nat → Prop} (h : j4 (Kd.V d e w base ok v xs)) (k : Kd.V d e w base ok v xs → Kd.V d e W base ok v xs := by intro h_; (repeat (first | (with_reducible first | exact h_ | apply Kd.cf7 | apply Kd.bG9 | apply Kd.aA2) | refine Kd.dc9 ?_ (fun k_ hk_ => by grind) _)); first | done | exact h_) (m : ∀ k, ok k → ok' k := by intro k_ hk_; first | exact hk_ | grind | (simp [Value.ownBlock]; grind) | grind [Value.ownBlock]) : Kd.V d e W base ok' v xs := Kd.J8 (k h.out) m
theorem fN {ok' : Nat → Prop} (h : j4 (Kd.N d e w base ok v xs)) (k : Kd.N d e w base ok v xs → Kd.N d e W base ok v xs := by intro h_; (repeat (first | (with_reducible first | exact h_ | apply Kd.cW0 | apply Kd.cW1 | apply Kd.ds2) | refine Kd.dE9 ?_ (fun k_ hk_ => by grind) _)); first | done | exact h_) (m : ∀ k, ok k → ok' k := by intro k_ hk_; first | exact hk_ | grind | (simp [Value.ownBlock]; grind) | grind [Value.ownBlock]) : Kd.N d e W base ok' v xs := Kd.ad1 (k h.out) m
theorem vE {g : Nat} (hg : g = W.heap.size) (h : j4 (Kd.V d e w base ok v xs)) (hb : Below W.heap.size W w1) (k : Kd.V d e w base ok v xs → Kd.V d e W base ok v xs := by intro h_; (with_reducible repeat (first | apply Kd.cf7 | apply Kd.bG9 | apply Kd.aA2)); exact h_) : j4 (Kd.V d e w1 base (fun k => ok k ∧ k ≠ g) v xs) := ⟨Kd.aY3 (Kd.cC6 (k h.out) g (Nat.le_of_eq hg.symm)) hb⟩
end
end Go.Proofs.YtbncnjgflhoneaaGreatDoor.F
namespace Go.Proofs.YtbncnjgflhoneaaGreatDoor.F
open Go.RowKit Go.Proofs.YtbncnjgflhoneaaGreatDoor.Hand Go.Proofs.YtbncnjgflhoneaaGreatDoorW.l8 Go.Proofs.YtbncnjgflhoneaaGreatDoorW.s9 Go.Proofs.YtbncnjgflhoneaaGreatDoorW.y9
def aj6.f (r0 : Int) (C8 : List (G9)) : Option (Bool) := if (C8.length : Int) < 10 then (some (decide (r0 < 999))) else (some false)
set_option maxHeartbeats 8000000 in
set_option maxRecDepth 100000 in
theorem aj6.calls (r0 : Int) (ae2 : Option Addr) (W4 : Nat) (C8 : List (G9)) (r : Bool) (w : World) (be9 : Kd.C U7 w ae2 C8.length C8) (bf0 : C8.length ≤ W4) (h : aj6.f r0 C8 = some r) :
  Calls Tryz.prog 94 #[.agg #[.int .i64 r0, .slice ae2 C8.length W4]] w fun e w' => e = .returned (.bool r) ∧ Below w.heap.size w w' := by
 have bZ9 := Tryz.underlying80
 have df2 := j4.mk be9
 have dI2 := j4.mk bf0
 clear be9 bf0
 have HB := j4.mk (Below.refl w.heap.size w)
 have H := h
 clear h
 unfold aj6.f at H
 replace H := a29 H; rcases H with ⟨c2, ak5, H⟩ | ⟨c2, ak5, H⟩
 ·have aJ6 : decide (C8.length < 10) = true := decide_eq_true (by omega)
  clear c2
  obtain rfl := Option.some.inj H
  go_enter Tryz.func94, Tryz.ntmps94
  go_wp2_with (first | ((with_reducible refine l9 (N := 1) rfl ?_); refine bx (cs := #[.int .i64 r0, .slice ae2 C8.length W4]) (t := 80) ?_; intro j8 hg w3 o8 hb; have j5 := j4.mk (o8); have L8 := gS hg; have J7 := gS hg; replace HB := bS hb; clear hb o8 hg; have bY8 := cz2 j5.out; have bY9 := fz2 j5.out))
  go_ret
  exact ⟨zr, zB⟩
 ·have aJ6 : decide (C8.length < 10) = false := decide_eq_false (by omega)
  clear c2
  obtain rfl := Option.some.inj H
  go_enter Tryz.func94, Tryz.ntmps94
  go_wp2_with (first | ((with_reducible refine l9 (N := 1) rfl ?_); refine bx (cs := #[.int .i64 r0, .slice ae2 C8.length W4]) (t := 80) ?_; intro j8 hg w5 o8 hb; have j5 := j4.mk (o8); have L8 := gS hg; have J7 := gS hg; replace HB := bS hb; clear hb o8 hg; have ct4 := cz2 j5.out; have ct5 := fz2 j5.out))
  go_ret
  exact ⟨zr, zB⟩
end Go.Proofs.YtbncnjgflhoneaaGreatDoor.F
