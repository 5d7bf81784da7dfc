/- Of this claim, merged by program: F49, QD3, Q13A, F52, F20, F6, QG. -/
import Derived.Test.YtbncnjgflhoneaaGreatDoorN02
import Derived.Test.YtbncnjgflhoneaaGreatDoorN04
import Derived.Test.YtbncnjgflhoneaaGreatDoorN05
import Derived.Test.YtbncnjgflhoneaaGreatDoorN11
import Derived.Test.YtbncnjgflhoneaaGreatDoorN12
import Derived.Test.YtbncnjgflhoneaaGreatDoorN13
import Derived.Test.YtbncnjgflhoneaaGreatDoorN14
import Derived.Test.YtbncnjgflhoneaaGreatDoorN19
import Derived.Test.YtbncnjgflhoneaaGreatDoorN20
set_option linter.unusedVariables false
set_option linter.unusedSimpArgs false
namespace Go.Proofs.YtbncnjgflhoneaaGreatDoor.F
open Go.RowKit Go.Proofs.YtbncnjgflhoneaaGreatDoor.Hand Go.Proofs.YtbncnjgflhoneaaGreatDoorW.l8 Go.Proofs.YtbncnjgflhoneaaGreatDoorW.s9 Go.Proofs.YtbncnjgflhoneaaGreatDoorW.y9
def Q7.j0 : Nat → Bool → List Int → Int → Int → List (G9) → Option (Int × Int × ByteArray × ByteArray × Int × ByteArray × ByteArray × (List (G6)) × List ByteArray × Int)
 | 0, _, _, _, _, _ => none
 | k + 1, x15, x1000, a34, a14, X5 => if x15 = true then ((C4.f k x1000 a34).bind fun am7 => ((l6.f k x1000 am7.2.2.2.2 50).bind fun az7 => (some (1, 0, (⟨#[]⟩ : ByteArray), (⟨#[]⟩ : ByteArray), az7.1, am7.1, am7.2.1, am7.2.2.1, am7.2.2.2.1, az7.2)))) else ((Y7.f k x1000 a34 a14 X5).bind fun bv4 => ((l6.f k x1000 bv4.2.2.2 2).bind fun cS4 => (if cS4.1 = 0 then (some (2, bv4.1, bv4.2.1, bv4.2.2.1, 0, (⟨#[]⟩ : ByteArray), (⟨#[]⟩ : ByteArray), ([] : List (G6)), ([] : List ByteArray), cS4.2)) else ((l6.f k x1000 cS4.2 50).bind fun bT0 => (some (3, bv4.1, bv4.2.1, bv4.2.2.1, bT0.1, (⟨#[]⟩ : ByteArray), (⟨#[]⟩ : ByteArray), ([] : List (G6)), ([] : List ByteArray), bT0.2))))))
def Q7.f (k : Nat) (L6 : List Int) (a03 : Int) (R8 : Int) (a36 : List (G9)) : Option (Int × Int × ByteArray × ByteArray × Int × ByteArray × ByteArray × (List (G6)) × List ByteArray × Int) := if (a36.length : Int) = 0 then (Q7.j0 k true L6 a03 R8 a36) else ((l6.f k L6 a03 3).bind fun aa9 => (Q7.j0 k (aa9.1 == 0) L6 aa9.2 R8 a36))
set_option maxHeartbeats 8000000 in
set_option maxRecDepth 100000 in
theorem Q7.calls (k : Nat) (g : Nat) (L6 : List Int) (a03 : Int) (R8 : Int) (br7 : Option Addr) (b46 : Nat) (a36 : List (G9)) (r1 : Int) (r2 : Int) (r3 : ByteArray) (r4 : ByteArray) (r5 : Int) (r6 : ByteArray) (r7 : ByteArray) (r8 : List (G6)) (r9 : List ByteArray) (r10 : Int) (w0 w : World) (hI : l5 w0 w g L6 a03) (hB : Below w0.heap.size w0 w) (br8 : ∀ W_, y5 w W_ g none → Kd.C U7 W_ br7 a36.length a36) (br9 : a36.length ≤ b46) (h : Q7.f k L6 a03 R8 a36 = some (r1, r2, r3, r4, r5, r6, r7, r8, r9, r10)) :
  Calls Tryz.prog 49 #[.pointer (some ⟨g, 0, none⟩), .agg #[.int .i64 R8, .slice br7 a36.length b46]] w fun e w' => ∃ v7_ v8_ : Value, e = .returned (.agg #[.int .i64 r1, .int .i64 r2, .string r3, .string r4, .int .i64 r5, .string r6, .string r7, v7_, v8_]) ∧ Kd.R k32 32 w' w.heap.size (fun _ => True) v7_ r8 ∧ Kd.R Kd.string 9 w' w.heap.size (fun _ => True) v8_ r9 ∧ l5 w0 w' g L6 r10 ∧ Below w0.heap.size w0 w' ∧ y5 w w' g none := by
 have bZ9 := Tryz.underlying80
 have by1 := Tryz.underlying37
 have as2 := Tryz.underlying32
 have cj4 := j4.mk br8
 have cK9 := j4.mk br9
 clear br8 br9
 have HI0 := j4.mk hI
 have bp3 := j4.mk (l5.ge HI0.out)
 have HK := j4.mk (y5.refl w g none)
 have HL := j4.mk hB.size
 clear hI
 have HW0 := j4.mk hB.size
 have HB := j4.mk hB
 clear hB
 have H := h
 clear h
 unfold Q7.f at H
 have HC3 := j4.mk H
 clear H
 go_enter Tryz.func49, Tryz.ntmps49
 go_upto_region 1 with (first | ((with_reducible refine l9 (N := 3) rfl ?_); refine bx (cs := #[.int .i64 R8, .slice br7 a36.length b46]) (t := 80) ?_; intro j8 hg w4 o8 hb; have j5 := j4.mk (o8); have L8 := GK HK hg; have J7 := GT HK hg HW0; have a50 := IL HI0 hg; have J1 := IG HI0 hg; replace HI0 := IS HI0 hb; replace HK := KT HK hb; replace HB := bF HB hb; clear hb o8 hg) | ((with_reducible refine l9 (N := 4) rfl ?_); refine bx (cs := #[.int .i64 0, .int .i64 0, .string ⟨#[]⟩, .string ⟨#[]⟩, .int .i64 0, .string ⟨#[]⟩, .string ⟨#[]⟩, .slice none 0 0, .slice none 0 0]) (t := 37) ?_; intro o7 hg w5 o8 hb; have j7 := j4.mk (o8); have as7 := GK HK hg; have al6 := GT HK hg HW0; have D1 := nS hg j5; have D3 := nG hg j5; replace j5 := kS j5 hb; have ah2 := IL HI0 hg; have S3 := IG HI0 hg; replace HI0 := IS HI0 hb; replace HK := KT HK hb; replace HB := bF HB hb; clear hb o8 hg))
 (try simp only [Act.put, List.setIfInBounds_toArray, List.set_cons_zero, List.set_cons_succ])
 go_cut [15] (fun v15 wc => ∃ (kq : Nat) (bs0 : Bool) (am9 : Int), v15 = .bool bs0 ∧ j4 (Q7.j0 kq bs0 L6 am9 R8 a36 = some (r1, r2, r3, r4, r5, r6, r7, r8, r9, r10)) ∧ j4 (kq ≤ k) ∧ j4 (wc.heap[j8]? = some (.cells #[.int .i64 R8, (.slice br7 a36.length b46)] 80 (0, 0))) ∧ j4 (wc.heap[o7]? = some (.cells #[.int .i64 0, .int .i64 0, .string (⟨#[]⟩ : ByteArray), .string (⟨#[]⟩ : ByteArray), .int .i64 0, .string (⟨#[]⟩ : ByteArray), .string (⟨#[]⟩ : ByteArray), (.slice none 0 0), (.slice none 0 0)] 37 (0, 0))) ∧ j4 (l5 w0 wc g L6 am9) ∧ j4 (y5 w wc g none) ∧ j4 (Below w0.heap.size w0 wc))
 case first =>
  have H := HC3.out
  clear HC3
  replace H := a45 H; rcases H with ⟨am1, aZ8, H⟩ | ⟨c6, am1, aZ8, H⟩
  ·(first | rw [am1] | (simp only [Z1, aa5]; rw [am1]) | skip)
   have H' := j4.mk H
   clear H
   have dP0 := D1.out
   have dP1 := D3.out
   have ef7 := J1.out
   have ef8 := a50.out
   have bZ0 := cz2 j5.out
   have bZ1 := fz2 j5.out
   go_wp2
   go_meet
   case rel => exact ⟨_, (true), (a03), zs, H', ⟨by first | omega | exact Nat.le_refl _⟩, ⟨kQ j5⟩, ⟨kQ j7⟩, ⟨zI⟩, ⟨zK⟩, ⟨zB⟩⟩
  ·have cL0 : ¬ (a36 = []) := fun h_ => c6 (by rw [h_]; rfl)
   (first | rw [am1] | (simp only [Z1, aa5]; rw [am1]) | skip)
   replace H := S2 H; obtain ⟨⟨t103, t104⟩, A10, H⟩ := H
   dsimp only at H
   have H' := j4.mk H
   clear H
   have dl5 := D1.out
   have dl6 := D3.out
   have dT5 := J1.out
   have dT6 := a50.out
   have bT2 := cz2 j5.out
   have bT3 := fz2 j5.out
   go_wp2_with (first | (go_at_call 51; refine (l6.calls (w := _) (w0 := w0) (hI := zI) (hB := zB) (h := A10.out)).mono ?_; rintro e w14 ⟨rfl, hi, hb, hk⟩; replace j5 := KB hk j5 J1; replace j7 := KB hk j7 S3; replace HK := KS HK hk; replace HI0 := j4.mk (hi); replace HB := j4.mk (hb); clear hb hk hi))
   go_meet
   case rel => exact ⟨_, ((t103 == 0)), (t104), zs, H', ⟨by first | omega | exact Nat.le_refl _⟩, ⟨kQ j5⟩, ⟨kQ j7⟩, ⟨zI⟩, ⟨zK⟩, ⟨zB⟩⟩
 case rest =>
  clear HC3
  obtain ⟨kq, bs0, am9, rfl, HA, HJ2, j5, j7, HI0, HK, HB⟩ := hcut
  cases kq with
  | zero => exact absurd HA.out (by simp [Q7.j0])
  | succ kj2 =>
   have H := HA.out
   clear HA
   simp only [Q7.j0] at H
   replace H := itb H; rcases H with ⟨rfl, H⟩ | ⟨rfl, H⟩
   ·replace H := S2 H; obtain ⟨⟨t105, t106, t107, t110, t113⟩, A16, H⟩ := H
    dsimp only at H
    replace H := S2 H; obtain ⟨⟨t114, t115⟩, A17, H⟩ := H
    dsimp only at H
    simp only [Option.some.injEq, Prod.mk.injEq] at H
    obtain ⟨rfl, rfl, rfl, rfl, rfl, rfl, rfl, rfl, rfl, rfl⟩ := H
    go_wp2_with (first | ((with_reducible refine j6 (f := 92) rfl ?_); refine gl 17 Tryz.func92 #[.pointer (some ⟨g, 0, none⟩)] ((C4.calls (w := _) (w0 := w0) (hI := zI) (hB := zB) (h := A16.out)).mono ?_); rintro e w18 ⟨aV9, bH8, rfl, ho0, ho1, hi, hb, hk⟩; refine ⟨_, rfl, ?_⟩; replace j5 := KB hk j5 J1; replace j7 := KB hk j7 S3; have y8 := lK HK ho0; have E2 := lK HK ho1; replace HK := KS HK hk; replace HI0 := j4.mk (hi); replace HB := j4.mk (hb); clear hb hk hi ho0; (try clear ho1)) | ((with_reducible refine j6 (f := 51) rfl ?_); refine gl 19 Tryz.func51 #[.pointer (some ⟨g, 0, none⟩), .int .i64 50] ((l6.calls (w := _) (w0 := w0) (hI := zI) (hB := zB) (h := A17.out)).mono ?_); rintro e w19 ⟨rfl, hi, hb, hk⟩; refine ⟨_, rfl, ?_⟩; replace j5 := KB hk j5 J1; replace j7 := KB hk j7 S3; replace y8 := RK hk y8 HI0; replace E2 := RK hk E2 HI0; replace HK := KS HK hk; replace HI0 := j4.mk (hi); replace HB := j4.mk (hb); clear hb hk hi; obtain ⟨bx8, bx9, br5⟩ := Kd.s7 E2.out; subst br5; obtain ⟨bI7, bb9, bS3⟩ := Kd.s7 y8.out; subst bS3; have cd4 := D3.out; have cd5 := D1.out; have eD4 := S3.out; have eD5 := ah2.out; have br0 := cz9 j7.out; have br1 := fz9 j7.out))
    refine bodyPost_ret (results_cell_row rfl _ _ o7 37 #[.int .i64 1, .int .i64 0, .string (⟨#[]⟩ : ByteArray), .string (⟨#[]⟩ : ByteArray), .int .i64 t114, .string t105, .string t106, .slice bI7 t107.length bb9, .slice bx8 t110.length bx9] (0, 0) _ rfl (kQ j7) Tryz.underlying37 rfl z2_) rfl ?_
    exact ⟨_, _, zr, fM y8 j7 (fun _ hk => trivial), fM E2 j7 (fun _ hk => trivial), zI, zB, zK⟩
   ·replace H := S2 H; obtain ⟨⟨t116, t117, t118, t119⟩, A25, H⟩ := H
    dsimp only at H
    replace H := S2 H; obtain ⟨⟨t121, t122⟩, A26, H⟩ := H
    dsimp only at H
    replace H := a45 H; rcases H with ⟨bV0, bV1, H⟩ | ⟨c27, bV0, bV1, H⟩
    ·simp only [Option.some.injEq, Prod.mk.injEq] at H
     obtain ⟨rfl, rfl, rfl, rfl, rfl, rfl, rfl, rfl, rfl, rfl⟩ := H
     have dM4 := D1.out
     have dM5 := D3.out
     have bB4 := J1.out
     have bB5 := a50.out
     have cq0 := cz2 j5.out
     have cq1 := fz2 j5.out
     go_wp2_with (first | ((with_reducible refine j6 (f := 93) rfl ?_); refine b35 (some 24) rfl rfl Tryz.func93 z2_ rfl #[.pointer (some ⟨g, 0, none⟩), .agg #[.int .i64 R8, .slice br7 a36.length b46]] rfl zm ?_; (with_reducible refine (Y7.calls kj2 g L6 am9 R8 _ _ a36 t116 t117 t118 t119 w0 _ ?a92 ?ad2 ?aN8 ?aN9 A25.out).mono ?_); (case a92 => repeat (first | (with_reducible first | exact HI0.out | apply l5.alloc | apply l5.drewN | apply l5.drew | apply l5.af6 | refine l5.far ?_ a50.out _ | refine l5.far ?_ ah2.out _) | exact HI0.out)); (case ad2 => repeat (first | (with_reducible first | exact HB.out | apply P2 | apply J9 | apply E9 | refine I5 ?_ (l5.ge HI0.out) | refine I5 ?_ J7.out | refine I5 ?_ al6.out) | exact HB.out)); (case aN8 => exact Kd.be0 cj4.out zK); (case aN9 => exact cK9.out); rintro e w31 ⟨rfl, hi, hb, hk⟩; refine ⟨_, rfl, ?_⟩; replace j5 := KB hk j5 J1; replace j7 := KB hk j7 S3; replace HK := KS HK hk; replace HI0 := j4.mk (hi); replace HB := j4.mk (hb); clear hb hk hi) | ((with_reducible refine l9 (N := 6) rfl ?_); refine bx (cs := #[.string ⟨#[]⟩, .string ⟨#[]⟩]) (t := 32) ?_; intro cS5 hg w32 o8 hb; have az8 := j4.mk (o8); have e09 := GK HK hg; have do2 := GT HK hg HW0; have bd6 := nS hg j5; have bd7 := nG hg j5; replace j5 := kS j5 hb; have aZ2 := nS hg j7; have aZ3 := nG hg j7; replace j7 := kS j7 hb; have bm1 := IL HI0 hg; have aZ4 := IG HI0 hg; replace HI0 := IS HI0 hb; replace HK := KT HK hb; replace HB := bF HB hb; clear hb o8 hg; have di5 := bd7.out; have di6 := bd6.out; have eD6 := aZ3.out; have eD7 := aZ2.out; have dT7 := aZ4.out; have dT8 := bm1.out; have cP0 := cz2 az8.out; have cP1 := fz2 az8.out) | ((with_reducible refine j6 (f := 51) rfl ?_); refine gl 28 Tryz.func51 #[.pointer (some ⟨g, 0, none⟩), .int .i64 2] ((l6.calls (w := _) (w0 := w0) (hI := zI) (hB := zB) (h := A26.out)).mono ?_); rintro e w37 ⟨rfl, hi, hb, hk⟩; refine ⟨_, rfl, ?_⟩; replace j5 := KB hk j5 J1; replace j7 := KB hk j7 S3; replace az8 := KP (.cells #[.string t117, .string t118] 32 (0, 0)) hk az8 aZ4; replace HK := KS HK hk; replace HI0 := j4.mk (hi); replace HB := j4.mk (hb); clear hb hk hi; have cJ1 := cz2 az8.out; have cJ2 := fz2 az8.out; have cG7 := S3.out; have cG8 := ah2.out; have bP9 := cz9 j7.out; have bQ0 := fz9 j7.out))
     refine bodyPost_ret (results_cell_row rfl _ _ o7 37 #[.int .i64 2, .int .i64 t116, .string t117, .string t118, .int .i64 0, .string (⟨#[]⟩ : ByteArray), .string (⟨#[]⟩ : ByteArray), .slice none 0 0, .slice none 0 0] (0, 0) _ rfl (kQ j7) Tryz.underlying37 rfl z2_) rfl ?_
     exact ⟨_, _, zr, zn, zn, zI, zB, zK⟩
    ·replace H := S2 H; obtain ⟨⟨t123, t124⟩, A41, H⟩ := H
     dsimp only at H
     simp only [Option.some.injEq, Prod.mk.injEq] at H
     obtain ⟨rfl, rfl, rfl, rfl, rfl, rfl, rfl, rfl, rfl, rfl⟩ := H
     have bP3 := D1.out
     have bP4 := D3.out
     have de2 := J1.out
     have de3 := a50.out
     have cK4 := cz2 j5.out
     have cK5 := fz2 j5.out
     try go_wp2_with (first | ((with_reducible refine j6 (f := 93) rfl ?_); refine b35 (some 24) rfl rfl Tryz.func93 z2_ rfl #[.pointer (some ⟨g, 0, none⟩), .agg #[.int .i64 R8, .slice br7 a36.length b46]] rfl zm ?_; (with_reducible refine (Y7.calls kj2 g L6 am9 R8 _ _ a36 t116 t117 t118 t119 w0 _ ?a92 ?ad2 ?aN8 ?aN9 A25.out).mono ?_); (case a92 => repeat (first | (with_reducible first | exact HI0.out | apply l5.alloc | apply l5.drewN | apply l5.drew | apply l5.af6 | refine l5.far ?_ a50.out _ | refine l5.far ?_ ah2.out _) | exact HI0.out)); (case ad2 => repeat (first | (with_reducible first | exact HB.out | apply P2 | apply J9 | apply E9 | refine I5 ?_ (l5.ge HI0.out) | refine I5 ?_ J7.out | refine I5 ?_ al6.out) | exact HB.out)); (case aN8 => exact Kd.be0 cj4.out zK); (case aN9 => exact cK9.out); rintro e w45 ⟨rfl, hi, hb, hk⟩; refine ⟨_, rfl, ?_⟩; replace j5 := KB hk j5 J1; replace j7 := KB hk j7 S3; replace HK := KS HK hk; replace HI0 := j4.mk (hi); replace HB := j4.mk (hb); clear hb hk hi) | ((with_reducible refine l9 (N := 6) rfl ?_); refine bx (cs := #[.string ⟨#[]⟩, .string ⟨#[]⟩]) (t := 32) ?_; intro cS5 hg w46 o8 hb; have az8 := j4.mk (o8); have e09 := GK HK hg; have do2 := GT HK hg HW0; have bd6 := nS hg j5; have bd7 := nG hg j5; replace j5 := kS j5 hb; have aZ2 := nS hg j7; have aZ3 := nG hg j7; replace j7 := kS j7 hb; have bm1 := IL HI0 hg; have aZ4 := IG HI0 hg; replace HI0 := IS HI0 hb; replace HK := KT HK hb; replace HB := bF HB hb; clear hb o8 hg; have dH0 := bd7.out; have dH1 := bd6.out; have dH2 := aZ3.out; have dH3 := aZ2.out; have eD8 := aZ4.out; have eD9 := bm1.out; have dY1 := cz2 az8.out; have dY2 := fz2 az8.out) | ((with_reducible refine j6 (f := 51) rfl ?_); refine gl 28 Tryz.func51 #[.pointer (some ⟨g, 0, none⟩), .int .i64 2] ((l6.calls (w := _) (w0 := w0) (hI := zI) (hB := zB) (h := A26.out)).mono ?_); rintro e w51 ⟨rfl, hi, hb, hk⟩; refine ⟨_, rfl, ?_⟩; replace j5 := KB hk j5 J1; replace j7 := KB hk j7 S3; replace az8 := KP (.cells #[.string t117, .string t118] 32 (0, 0)) hk az8 aZ4; replace HK := KS HK hk; replace HI0 := j4.mk (hi); replace HB := j4.mk (hb); clear hb hk hi))
     replace j5 := j4.mk (I7 j5.out)
     replace j7 := j4.mk (I7 j7.out)
     replace az8 := j4.mk (I7 az8.out)
     replace HI0 := j4.mk (l5.drew HI0.out)
     replace HK := j4.mk (ae9 HK.out)
     replace HB := j4.mk (E9 HB.out)
     refine ah3 (n := 6) (S := fun w' => w'.cell? ⟨cS5, 0, none⟩ = some (.string t117) ∧ w'.cell? ⟨cS5, 1, none⟩ = some (.string t118)) (ds := []) #[false, false, false, false, false, false] z2_ rfl rfl ⟨(l7 az8.out 0).trans rfl, (l7 az8.out 1).trans rfl⟩ (fun hHeld => ?_)
     generalize w51.drew = w52 at j5 j7 az8 HI0 HK HB hHeld ⊢
     refine pu 0 33 ?_
     refine pu 2 35 ?_
     refine ta 1 34 ?_
     refine on 3 (some 36) (fun K hK => ?_)
     refine ar2 Tryz.func51 z2_ rfl #[.pointer (some ⟨g, 0, none⟩), .int .i64 50] (by rfl) rfl rfl zm ?_
     with_reducible refine (l6.calls kj2 g L6 t122 50 t123 t124 w0 _ ?a92 ?ad2 A41.out).mono ?_
     (case a92 => repeat (first | (with_reducible first | exact HI0.out | apply l5.alloc | apply l5.drewN | apply l5.drew | apply l5.af6 | refine l5.far ?_ a50.out _ | refine l5.far ?_ ah2.out _ | refine l5.far ?_ bm1.out _) | exact HI0.out))
     (case ad2 => repeat (first | (with_reducible first | exact HB.out | apply P2 | apply J9 | apply E9 | refine I5 ?_ (l5.ge HI0.out) | refine I5 ?_ J7.out | refine I5 ?_ al6.out | refine I5 ?_ do2.out) | exact HB.out))
     rintro e w53 ⟨rfl, hi, hb, hk⟩
     refine ⟨_, rfl, ?_⟩
     replace j5 := KB hk j5 J1
     replace j7 := KB hk j7 S3
     replace az8 := KB hk az8 aZ4
     replace HK := KS HK hk
     replace HB := j4.mk (hb)
     replace HI0 := j4.mk (hi)
     (try clear hb)
     (try clear hb2)
     (try clear hk)
     (try clear hi)
     refine kO 36 hK (fun hHeld => ?_)
     clear hK K
     refine pu 4 37 ?_
     refine on 5 none (fun K hK => ?_)
     have e68 := cz9 j7.out
     have e69 := fz9 j7.out
     have e13 := D1.out
     have e14 := aZ3.out
     have e15 := D3.out
     have e16 := aZ2.out
     refine sk ?_
     refine hK.out _ _ zF (fun hHeld => ?_)
     clear hK K
     refine au9 z2_ ?_
     try go_wp2
     refine bodyPost_ret (results_cell_row rfl _ _ o7 37 #[.int .i64 3, .int .i64 t116, .string t117, .string t118, .int .i64 t123, .string (⟨#[]⟩ : ByteArray), .string (⟨#[]⟩ : ByteArray), .slice none 0 0, .slice none 0 0] (0, 0) _ rfl (kQ j7) Tryz.underlying37 rfl z2_) rfl ?_
     exact ⟨_, _, zr, zn, zn, zI, zB, zK⟩
end Go.Proofs.YtbncnjgflhoneaaGreatDoor.F
namespace Go.Proofs.YtbncnjgflhoneaaGreatDoor.Hand
open Go.RowKit Go.Proofs.YtbncnjgflhoneaaGreatDoor.F Go.Proofs.YtbncnjgflhoneaaGreatDoorW.l8 Go.Proofs.YtbncnjgflhoneaaGreatDoorW.s9 Go.Proofs.YtbncnjgflhoneaaGreatDoorW.y9
structure bF2 (au ad u d : ByteArray) (ts : List G6) (body : List ByteArray) : Prop where
 au : Sm au
 ad : Sm ad
 u : Sm u
 d : Sm d
 t4 : ts.length ≤ 4
 ts : ∀ a ∈ ts, Sa a
 body : Few body
theorem bF2.small {au ad u d : ByteArray} {ts : List G6} {body : List ByteArray} (h : bF2 au ad u d ts body) : bv2 au ad u d ts body := by
 have s : ∀ x : ByteArray, Sm x → x.size ≤ 1073741824 := fun x hx => Nat.le_trans hx (by decide)
 have := h.t4
 have := h.body.1
 exact ⟨⟨s _ h.u, s _ h.d, fun a ha => ⟨s _ (h.ts a ha).1, s _ (h.ts a ha).2⟩, fun x hx => s _ (h.body.2 x hx), by omega, by omega⟩, s _ h.au, s _ h.ad⟩
theorem bm2 : Sm (⟨#[]⟩ : ByteArray) := show (⟨#[]⟩ : ByteArray).size ≤ 40 by decide
theorem da4 (l : List Int) (hl : ∀ x ∈ l, 0 ≤ x ∧ x ≤ 255) : ∃ s, af7.f l = some (s, 0) ∧ Byt s := by
 unfold af7.f
 by_cases c : (l.length : Int) > 2000
 ·rw [if_pos c, if_pos (by omega)]
  exact ⟨_, rfl, by rw [List.length_take]; omega, fun x hx => hl x (List.mem_of_mem_take hx)⟩
 ·rw [if_neg c]
  exact ⟨_, rfl, by omega, hl⟩
theorem da5 {s : List Int} (hs : Byt s) {p : Int} (h0 : 0 ≤ p) (h1 : p ≤ 400) (a : Int) {l : List G9} (hl : OkS l) : ∃ kind id au ad now u d ts body q, Ev (fun k => Q7.f k s p a l) (kind, id, au, ad, now, u, d, ts, body, q) ∧ bF2 au ad u d ts body ∧ 0 ≤ q ∧ q ≤ 600 := by
 have add : ∀ p', p ≤ p' → p' ≤ p + 1 → ∃ kind id au ad now u d ts body q, Ev (fun k => Q7.j0 k true s p' a l) (kind, id, au, ad, now, u, d, ts, body, q) ∧ bF2 au ad u d ts body ∧ 0 ≤ q ∧ q ≤ 600 := fun p' l0 l1 => by
  obtain ⟨u, d, ts, body, q, hq, hm, q0, q1⟩ := cf6 hs (p := p') (by omega) (by omega)
  obtain ⟨v, hv, _⟩ := a68 hs (p := q) (by omega) (by omega) (n := 50) (by omega)
  exact ⟨1, 0, (⟨#[]⟩ : ByteArray), (⟨#[]⟩ : ByteArray), v, u, d, ts, body, q + 1, Ev.step (f := fun k => (C4.f k s p').bind fun x => (l6.f k s x.2.2.2.2 50).bind fun y => some (1, 0, (⟨#[]⟩ : ByteArray), (⟨#[]⟩ : ByteArray), y.1, x.1, x.2.1, x.2.2.1, x.2.2.2.1, y.2)) (fun k => by rw [Q7.j0, if_pos rfl]) (Ev.bind hq (Ev.bind hv (Ev.now _))), ⟨bm2, bm2, hm.u, hm.d, hm.t4, hm.ts, hm.body⟩, by omega, by omega⟩
 have oth : ∃ kind id au ad now u d ts body q, Ev (fun k => Q7.j0 k false s (p + 1) a l) (kind, id, au, ad, now, u, d, ts, body, q) ∧ bF2 au ad u d ts body ∧ 0 ≤ q ∧ q ≤ 600 := by
  obtain ⟨id, u, d, q, hq, su, sd, q0, q1⟩ := cL3 hs (p := p + 1) (by omega) (by omega) a hl
  obtain ⟨v, hv, _⟩ := a68 hs (p := q) (by omega) (by omega) (n := 2) (by omega)
  obtain ⟨w, hw, _⟩ := a68 hs (p := q + 1) (by omega) (by omega) (n := 50) (by omega)
  have dr : bF2 u d (⟨#[]⟩ : ByteArray) (⟨#[]⟩ : ByteArray) [] [] := ⟨su, sd, bm2, bm2, by simp, (fun _ h => by cases h), by simp, (fun _ h => by cases h)⟩
  have e : ∀ k, Q7.j0 (k + 1) false s (p + 1) a l = (Y7.f k s (p + 1) a l).bind fun x => (l6.f k s x.2.2.2 2).bind fun y => if y.1 = 0 then some (2, x.1, x.2.1, x.2.2.1, 0, (⟨#[]⟩ : ByteArray), (⟨#[]⟩ : ByteArray), [], [], y.2) else (l6.f k s y.2 50).bind fun z => some (3, x.1, x.2.1, x.2.2.1, z.1, (⟨#[]⟩ : ByteArray), (⟨#[]⟩ : ByteArray), [], [], z.2) := fun k => by rw [Q7.j0, if_neg (by decide)]
  by_cases c : v = 0
  ·exact ⟨2, id, u, d, 0, (⟨#[]⟩ : ByteArray), (⟨#[]⟩ : ByteArray), [], [], q + 1, Ev.step e (Ev.bind hq (Ev.bind hv (Ev.congr (fun k => if_pos c) (Ev.now _)))), dr, by omega, by omega⟩
  ·exact ⟨3, id, u, d, w, (⟨#[]⟩ : ByteArray), (⟨#[]⟩ : ByteArray), [], [], q + 1 + 1, Ev.step e (Ev.bind hq (Ev.bind hv (Ev.congr (fun k => if_neg c) (Ev.bind hw (Ev.now _))))), dr, by omega, by omega⟩
 unfold Q7.f
 by_cases e : (l.length : Int) = 0
 ·simp only [if_pos e]
  exact add p (by omega) (by omega)
 ·simp only [if_neg e]
  obtain ⟨v, hv, v0, v1⟩ := a68 hs h0 (by omega) (n := 3) (by omega)
  by_cases c : v = 0
  ·obtain ⟨kind, id, au, ad, now, u, d, ts, body, q, h, r⟩ := add (p + 1) (by omega) (by omega)
   exact ⟨kind, id, au, ad, now, u, d, ts, body, q, Ev.bind hv (Ev.congr (fun k => by dsimp only; rw [beq_iff_eq.2 c]) h), r⟩
  ·obtain ⟨kind, id, au, ad, now, u, d, ts, body, q, h, r⟩ := oth
   exact ⟨kind, id, au, ad, now, u, d, ts, body, q, Ev.bind hv (Ev.congr (fun k => by dsimp only; rw [beq_eq_false_iff_ne.2 c]) h), r⟩
end Go.Proofs.YtbncnjgflhoneaaGreatDoor.Hand
namespace Go.Proofs.YtbncnjgflhoneaaGreatDoor.Hand
open Go.RowKit Go.Proofs.YtbncnjgflhoneaaGreatDoor.F Go.Proofs.YtbncnjgflhoneaaGreatDoorW.l8 Go.Proofs.YtbncnjgflhoneaaGreatDoorW.s9 Go.Proofs.YtbncnjgflhoneaaGreatDoorW.y9
theorem ba7 (c : UInt8) (m : Nat) (l : List UInt8) (h : c ∉ l) : ab3 c m l = [l] := by
 have e := aX3 c l h
 rw [(au4 c l m).1 (by rw [e]; simp), e]
theorem ap9 (c : UInt8) (m : Nat) (b : List UInt8) : ∀ a : List UInt8, c ∉ a → ab3 c (m + 1) (a ++ c :: b) = a :: ab3 c m b
 | [], _ => by rw [List.nil_append, ab3, if_pos rfl]
 | x :: a, h => by
  rw [List.mem_cons, not_or] at h
  rw [List.cons_append, ab3, if_neg (fun e => h.1 e.symm), ap9 c m b a h.2]
  rfl
theorem cy7 (s : ByteArray) (hs : s.size ≤ 536870912) {kind id : Int} {au ad : ByteArray} {now : Int} {u d : ByteArray} {ts : List G6} {body : List ByteArray} (h : ap4 kind id au ad now u d ts body = true) (ht : s.data.toList = aj8 kind id au ad now u d ts body) :
  Ev (fun k => D6.f k s) (kind, id, au, ad, now, u, d, ts, body) := by
 rcases au5 h with ⟨rfl, hm, n0, n9, rfl, hn⟩ | ⟨rfl, hb, i1, i9, ha, rfl⟩ | ⟨rfl, hb, i1, i9, ha, n0, n9⟩
 ·obtain ⟨rfl, rfl⟩ := ap6 hn
  have sg := ap7 now n0 n9
  have e : s.data.toList = ([97, 100, 100, 32] ++ Lib.itoa now) ++ 10 :: aa1 u d ts body := by
   rw [ht]
   unfold aj8
   rw [if_pos rfl]
   simp
  have n10 : (10 : UInt8) ∉ [97, 100, 100, 32] ++ Lib.itoa now := by
   rw [List.mem_append, not_or]
   exact ⟨by decide, al8 sg (by decide)⟩
  have hh : ab3 10 1 s.data.toList = ([97, 100, 100, 32] ++ Lib.itoa now) :: [aa1 u d ts body] := by rw [e, ap9 10 0 _ _ n10, bc1]
  have hw : ab3 32 4 ([97, 100, 100, 32] ++ Lib.itoa now) = [97, 100, 100] :: [Lib.itoa now] := by
   rw [show [97, 100, 100, 32] ++ Lib.itoa now = [97, 100, 100] ++ 32 :: Lib.itoa now from rfl, ap9 32 3 _ _ (by decide), ba7 32 3 _ (al8 sg (by decide))]
  have hj := bW8 ([97, 100, 100, 32] ++ Lib.itoa now) (aa1 u d ts body) [97, 100, 100] (Lib.itoa now) (aZ0 now n0 n9)
  rw [c78 hm (aX5 hm)] at hj
  exact bm0 s hs _ _ _ _ hh hw hj
 ·obtain ⟨rfl, rfl, rfl, rfl⟩ := au6 hb
  have sg := ap7 id (by omega) (by omega)
  have e : s.data.toList = [100, 111, 110, 101] ++ 32 :: (Lib.itoa id ++ 32 :: J3 au ad) := ht
  have n10 : (10 : UInt8) ∉ s.data.toList := by
   rw [e]
   simp only [List.mem_append, List.mem_cons, not_or]
   exact ⟨by decide, by decide, al8 sg (by decide), by decide, aP5 ha (by decide)⟩
  have hh := ba7 10 1 _ n10
  have hw : ab3 32 4 s.data.toList = [100, 111, 110, 101] :: [Lib.itoa id, J3 au ad] := by
   rw [e, ap9 32 3 _ _ (by decide), ap9 32 2 _ _ (al8 sg (by decide)), ba7 32 2 _ (aP5 ha (by decide))]
  have hal : (J3 au ad).length ≤ 536870912 := by have := av9 (u := au) (d := ad) (by rw [ha, Bool.or_true]); omega
  have hj := bW7 [100, 111, 110, 101] (Lib.itoa id) (J3 au ad) hal (aZ0 id (by omega) (by omega))
  rw [aT2 (by rw [ha, Bool.or_true])] at hj
  exact bm0 s hs _ _ _ _ hh hw (bd5 _ _ _ hj)
 ·obtain ⟨rfl, rfl, rfl, rfl⟩ := au6 hb
  have sg := ap7 id (by omega) (by omega)
  have sg2 := ap7 now n0 n9
  have e : s.data.toList = [108, 97, 116, 101, 114] ++ 32 :: (Lib.itoa id ++ 32 :: (J3 au ad ++ 32 :: Lib.itoa now)) := ht
  have n10 : (10 : UInt8) ∉ s.data.toList := by
   rw [e]
   simp only [List.mem_append, List.mem_cons, not_or]
   exact ⟨by decide, by decide, al8 sg (by decide), by decide, aP5 ha (by decide), by decide, al8 sg2 (by decide)⟩
  have hh := ba7 10 1 _ n10
  have hw : ab3 32 4 s.data.toList = [108, 97, 116, 101, 114] :: [Lib.itoa id, J3 au ad, Lib.itoa now] := by
   rw [e, ap9 32 3 _ _ (by decide), ap9 32 2 _ _ (al8 sg (by decide)), ap9 32 1 _ _ (aP5 ha (by decide)), ba7 32 1 _ (al8 sg2 (by decide))]
  have hal : (J3 au ad).length ≤ 536870912 := by have := av9 (u := au) (d := ad) (by rw [ha, Bool.or_true]); omega
  have hj := bW6 [108, 97, 116, 101, 114] (Lib.itoa id) (J3 au ad) (Lib.itoa now) hal (aZ0 id (by omega) (by omega)) (aZ0 now n0 n9)
  rw [aT2 (by rw [ha, Bool.or_true])] at hj
  exact bm0 s hs _ _ _ _ hh hw (bd5 _ _ _ (bF0 _ _ hj))
theorem ca8 (s : ByteArray) (h8 : s.size ≤ 820) (q : aK4) (hq : Ev (fun k => D6.f k s) q) (hs : bd4 q) : Ev (fun k => a88.f k s) (c98 s.data.toList q) := by
 have hl := E3 s
 obtain ⟨kind, id, au, ad, now, u, d, ts, body⟩ := q
 obtain ⟨hsh, hau, had⟩ := hs
 have hn := bf6 kind id au ad now u d ts body hsh hau had
 show Ev _ (by9 s.data.toList kind id au ad now u d ts body)
 unfold by9 okC
 refine Ev.congr (f := fun k => (D6.f k s).bind fun D9 => ((S6.f k D9.1 D9.2.1 D9.2.2.1 D9.2.2.2.1 D9.2.2.2.2.1 D9.2.2.2.2.2.1 D9.2.2.2.2.2.2.1 D9.2.2.2.2.2.2.2.1 D9.2.2.2.2.2.2.2.2).bind fun t116 => (if t116 = true then ((E4.f k D9.1 D9.2.1 D9.2.2.1 D9.2.2.2.1 D9.2.2.2.2.1 D9.2.2.2.2.2.1 D9.2.2.2.2.2.2.1 D9.2.2.2.2.2.2.2.1 D9.2.2.2.2.2.2.2.2).bind fun t117 => (if t117.toList = s.toList then (some (D9.1, D9.2.1, D9.2.2.1, D9.2.2.2.1, D9.2.2.2.2.1, D9.2.2.2.2.2.1, D9.2.2.2.2.2.2.1, D9.2.2.2.2.2.2.2.1, D9.2.2.2.2.2.2.2.2, true)) else (some az0))) else (some az0)))) (fun k => by
  unfold a88.f
  rw [if_neg (by omega)]
  rfl) ?_
 refine Ev.bind hq ?_
 cases hb : ap4 kind id au ad now u d ts body
 ·rw [hb] at hn
  exact Ev.call hn (h := fun _ => some az0) (fun k => if_neg (by decide)) (Ev.now _)
 ·rw [hb] at hn
  refine Ev.call hn (fun k => if_pos rfl) (Ev.call (b96 kind id au ad now u d ts body hsh hau had hb) (h := fun _ => some (if (true && decide (aj8 kind id au ad now u d ts body = s.data.toList)) = true then (kind, id, au, ad, now, u, d, ts, body, true) else az0)) (fun k => ?_) (Ev.now _))
  rw [ab7, toL, Bool.true_and]
  by_cases hq : aj8 kind id au ad now u d ts body = s.data.toList
  ·rw [if_pos hq, if_pos (decide_eq_true hq)]
  ·rw [if_neg hq, if_neg (by simpa using hq)]
def da6 (r : bW3) : Prop := r.2.2.2.2.2.2.2.1.length ≤ 4 ∧ r.2.2.2.2.2.2.2.2.1.length ≤ 12
theorem bX5 : da6 az0 := ⟨by decide, by decide⟩
theorem da7 (l : List UInt8) (q : aK4) : da6 (c98 l q) := by
 obtain ⟨kind, id, au, ad, now, u, d, ts, body⟩ := q
 show da6 (by9 l kind id au ad now u d ts body)
 unfold by9
 split
 ·rename_i h
  unfold okC at h
  rw [Bool.and_eq_true] at h
  rcases au5 h.1 with ⟨_, hm, _⟩ | ⟨_, hb, _⟩ | ⟨_, hb, _⟩
  ·obtain ⟨_, h2, _, _, h5⟩ := al3 hm
   exact ⟨h2.2, (ag6 h5).1⟩
  ·obtain ⟨_, _, rfl, rfl⟩ := au6 hb
   exact ⟨Nat.zero_le _, Nat.zero_le _⟩
  ·obtain ⟨_, _, rfl, rfl⟩ := au6 hb
   exact ⟨Nat.zero_le _, Nat.zero_le _⟩
 ·exact bX5
theorem cS6 (l : List UInt8) (q : aK4) (h : okN l q = false) : c98 l q = az0 := by
 show (if okN l q = true then _ else az0) = az0
 rw [if_neg (by rw [h]; decide)]
theorem bv5 {l : List UInt8} {kind id : Int} {au ad : ByteArray} {now : Int} {u d : ByteArray} {ts : List G6} {body : List ByteArray} (h : okN l (kind, id, au, ad, now, u, d, ts, body) = true) : ap4 kind id au ad now u d ts body = true ∧ aj8 kind id au ad now u d ts body = l := by
 have h' : (ap4 kind id au ad now u d ts body && decide (aj8 kind id au ad now u d ts body = l)) = true := h
 rw [Bool.and_eq_true] at h'
 exact ⟨h'.1, of_decide_eq_true h'.2⟩
theorem cS7 (s : ByteArray) (hs : s.size ≤ 536870912) : ∃ r : bW3, Ev (fun k => C3.f k s) r ∧ Ev (fun k => a88.f k s) r ∧ da6 r := by
 have hl := E3 s
 have hi := bg4 s
 by_cases h8 : s.size > 820
 ·rw [if_pos (by omega)] at hi
  refine ⟨az0, hi, Ev.congr (f := fun _ => some az0) (fun k => ?_) (Ev.now _), bX5⟩
  unfold a88.f
  rw [if_pos (by omega)]
  rfl
 ·rw [if_neg (by omega)] at hi
  obtain ⟨q, hq, hq'⟩ := ca1 s (by omega)
  have hf := ca8 s (by omega) q hq hq'
  refine ⟨_, hi, ?_, da7 _ _⟩
  have e : c98 s.data.toList (b29 s.data.toList) = c98 s.data.toList q := by
   cases h1 : okN s.data.toList (b29 s.data.toList)
   ·cases h2 : okN s.data.toList q
    ·rw [cS6 _ _ h1, cS6 _ _ h2]
    ·obtain ⟨kind, id, au, ad, now, u, d, ts, body⟩ := q
     obtain ⟨hb, ht⟩ := bv5 h2
     have := ca0 hb
     rw [ht] at this
     rw [this]
   ·generalize b29 s.data.toList = p at h1 ⊢
    obtain ⟨kind, id, au, ad, now, u, d, ts, body⟩ := p
    obtain ⟨hb, ht⟩ := bv5 h1
    have := Ev.one hq (cy7 s hs hb ht.symm)
    rw [this]
  rw [e]
  exact hf
end Go.Proofs.YtbncnjgflhoneaaGreatDoor.Hand
namespace Go.Proofs.YtbncnjgflhoneaaGreatDoor.F
open Go.RowKit Go.Proofs.YtbncnjgflhoneaaGreatDoor.Hand Go.Proofs.YtbncnjgflhoneaaGreatDoorW.l8 Go.Proofs.YtbncnjgflhoneaaGreatDoorW.s9 Go.Proofs.YtbncnjgflhoneaaGreatDoorW.y9
def V3.f (k : Nat) (L6 : List Int) (a03 : Int) (a1 : ByteArray) : Option (ByteArray × Int) := (l6.f k L6 a03 (wrap64 ((a1.size : Int) + 1))).bind fun Y6 => ((l6.f k L6 Y6.2 5).bind fun aa9 => (if aa9.1 = 0 then (if Y6.1 < (a1.size : Int) then (if 0 ≤ Y6.1 then (if Y6.1 ≤ (a1.size : Int) then ((Q9.f k L6 aa9.2 (([(⟨#[46]⟩ : ByteArray), (⟨#[13]⟩ : ByteArray), (⟨#[10]⟩ : ByteArray), (⟨#[60]⟩ : ByteArray), (⟨#[62]⟩ : ByteArray), (⟨#[48]⟩ : ByteArray), (⟨#[32]⟩ : ByteArray), (⟨#[64]⟩ : ByteArray)] : List ByteArray))).bind fun aJ7 => (if (a1.extract 0 (Y6.1 : Int).toNat).size + aJ7.1.size ≤ 9223372036854775807 then (if 0 ≤ (wrap64 (Y6.1 + 1)) then (if (wrap64 (Y6.1 + 1)) ≤ (a1.size : Int) then (if ((a1.extract 0 (Y6.1 : Int).toNat) ++ aJ7.1).size + (a1.extract ((wrap64 (Y6.1 + 1)) : Int).toNat a1.size).size ≤ 9223372036854775807 then (some (((a1.extract 0 (Y6.1 : Int).toNat) ++ aJ7.1) ++ (a1.extract ((wrap64 (Y6.1 + 1)) : Int).toNat a1.size), aJ7.2)) else (none)) else (none)) else (none)) else (none))) else (none)) else (none)) else (some (a1, aa9.2))) else (if aa9.1 = 1 then (if 0 ≤ Y6.1 then (if Y6.1 ≤ (a1.size : Int) then (some (a1.extract 0 (Y6.1 : Int).toNat, aa9.2)) else (none)) else (none)) else (if aa9.1 = 2 then ((Q9.f k L6 aa9.2 (([(⟨#[46]⟩ : ByteArray), (⟨#[13, 10]⟩ : ByteArray), (⟨#[32]⟩ : ByteArray), (⟨#[46, 13, 10]⟩ : ByteArray)] : List ByteArray))).bind fun aK3 => (if a1.size + aK3.1.size ≤ 9223372036854775807 then (some (a1 ++ aK3.1, aK3.2)) else (none))) else (some (a1, aa9.2))))))
def V3.T5 : Bool × List (List Nat × List Nat) := (true, [([], []), ([], []), ([0, 1], [0, 1]), ([], []), ([], []), ([3, 4], [3, 4]), ([2, 5], [2, 5]), ([], []), ([], []), ([8], [8]), ([7, 9], [7, 9]), ([6, 10], [6, 10]), ([11, 5, 0, 1, 2, 3, 4, 5, 6, 7, 8, 9, 10, 11], [11])])
def V3.B5 : List Nat := [0, 0, 3, 0, 0, 24, 63, 0, 0, 256, 896, 2047, 4095]
theorem V3.c00 : aq1 .any (opsOf Tryz.f52 5) = V3.T5 := by kernel_rfl
theorem V3.bp9 : af3 V3.T5.2 V3.B5 = true := by kernel_rfl
set_option maxHeartbeats 8000000 in
set_option maxRecDepth 100000 in
theorem V3.calls (k : Nat) (g : Nat) (L6 : List Int) (a03 : Int) (a1 : ByteArray) (r1 : ByteArray) (r2 : Int) (w0 w : World) (hI : l5 w0 w g L6 a03) (hB : Below w0.heap.size w0 w) (h : V3.f k L6 a03 a1 = some (r1, r2)) :
  Calls Tryz.prog 52 #[.pointer (some ⟨g, 0, none⟩), .string a1] w fun e w' => e = .returned (.string r1) ∧ l5 w0 w' g L6 r2 ∧ Below w0.heap.size w0 w' ∧ y5 w w' g none := by
 have HI0 := j4.mk hI
 have bp3 := j4.mk (l5.ge HI0.out)
 have HK := j4.mk (y5.refl w g none)
 have HL := j4.mk hB.size
 clear hI
 have HW0 := j4.mk hB.size
 have HB := j4.mk hB
 clear hB
 have H := h
 clear h
 unfold V3.f at H
 replace H := S2 H; obtain ⟨⟨t101, t102⟩, A3, H⟩ := H
 dsimp only at H
 replace H := S2 H; obtain ⟨⟨t103, t104⟩, A4, H⟩ := H
 dsimp only at H
 replace H := a45 H; rcases H with ⟨ap1, bc3, H⟩ | ⟨c5, ap1, bc3, H⟩
 ·replace H := K2 H; rcases H with ⟨am1, H⟩ | ⟨am1, H⟩
  ·replace H := Q5 H; obtain ⟨ak6, b77, H⟩ := H
   replace H := Q5 H; obtain ⟨aN6, bQ9, H⟩ := H
   first | (with_reducible replace H := bne (([(⟨#[46]⟩ : ByteArray), (⟨#[13]⟩ : ByteArray), (⟨#[10]⟩ : ByteArray), (⟨#[60]⟩ : ByteArray), (⟨#[62]⟩ : ByteArray), (⟨#[48]⟩ : ByteArray), (⟨#[32]⟩ : ByteArray), (⟨#[64]⟩ : ByteArray)] : List ByteArray) : List ByteArray) H; obtain ⟨bH7, aJ8, H⟩ := H) | (generalize V5 : (([(⟨#[46]⟩ : ByteArray), (⟨#[13]⟩ : ByteArray), (⟨#[10]⟩ : ByteArray), (⟨#[60]⟩ : ByteArray), (⟨#[62]⟩ : ByteArray), (⟨#[48]⟩ : ByteArray), (⟨#[32]⟩ : ByteArray), (⟨#[64]⟩ : ByteArray)] : List ByteArray) : List ByteArray) = bH7 at H; have aJ8 := j4.mk V5.symm; clear V5)
   replace H := S2 H; obtain ⟨⟨t108, t109⟩, A9, H⟩ := H
   dsimp only at H
   replace H := O5 H; obtain ⟨c10, aF1, b92, cq2, H⟩ := H
   obtain ⟨bt2, aU0⟩ : ∃ j_ : Int, (wrap64 (t101 + 1)) = j_ := ⟨_, rfl⟩
   first | rw [aU0] at H | simp only [aU0] at H
   (try rw [aU0] at A3)
   (try rw [aU0] at A4)
   (try rw [aU0] at A9)
   have dy7 : (IntKind.i64.wrap (t101 + 1)) = bt2 := (Z1 _).trans aU0
   replace H := Q5 H; obtain ⟨ax7, b78, H⟩ := H
   replace H := Q5 H; obtain ⟨al5, aV3, H⟩ := H
   replace H := O5 H; obtain ⟨c14, aL5, b24, cL9, H⟩ := H
   have cM0 : (9223372036854775807 < (a1.extract 0 (t101 : Int).toNat).size + t108.size + (a1.extract ((bt2) : Int).toNat a1.size).size) = False := eq_false (by have z_ := c14; simp only [ByteArray.size_append] at z_; exact Nat.not_lt.2 z_)
   have e1_ : (a1.extract 0 (t101 : Int).toNat).size = (t101 : Int).toNat := by rw [ByteArray.size_extract]; have := of_decide_eq_true bQ9; omega
   have e2_ : (a1.extract (bt2 : Int).toNat a1.size).size = a1.size - (bt2 : Int).toNat := by rw [ByteArray.size_extract]; omega
   have eE0 : (9223372036854775807 < (t101 : Int).toNat + t108.size) = False := eq_false (by have := of_eq_false cq2; omega)
   have eE1 : (9223372036854775807 < (t101 : Int).toNat + t108.size + (a1.size - (bt2 : Int).toNat)) = False := eq_false (by have := of_eq_false cM0; omega)
   clear e1_ e2_
   simp only [Option.some.injEq, Prod.mk.injEq] at H
   obtain ⟨rfl, rfl⟩ := H
   go_enter Tryz.func52, Tryz.ntmps52
   try go_wp2_with (first | ((with_reducible refine j6 (f := 51) rfl ?_); refine gl 10 Tryz.func51 #[.pointer (some ⟨g, 0, none⟩), .int .i64 (wrap64 ((a1.size : Int) + 1))] ((l6.calls (w := _) (w0 := w0) (hI := zI) (hB := zB) (h := A3.out)).mono ?_); rintro e w15 ⟨rfl, hi, hb, hk⟩; refine ⟨_, rfl, ?_⟩; replace HK := KS HK hk; replace HI0 := j4.mk (hi); replace HB := j4.mk (hb); clear hb hk hi) | ((with_reducible refine j6 (f := 51) rfl ?_); refine gl 12 Tryz.func51 #[.pointer (some ⟨g, 0, none⟩), .int .i64 5] ((l6.calls (w := _) (w0 := w0) (hI := zI) (hB := zB) (h := A4.out)).mono ?_); rintro e w16 ⟨rfl, hi, hb, hk⟩; refine ⟨_, rfl, ?_⟩; replace HK := KS HK hk; replace HI0 := j4.mk (hi); replace HB := j4.mk (hb); clear hb hk hi))
   replace HI0 := j4.mk (l5.drew HI0.out)
   replace HK := j4.mk (ae9 HK.out)
   replace HB := j4.mk (E9 HB.out)
   refine ah3 (n := 13) (S := fun w' => True) (ds := []) #[false, false, false, false, false, false, false, false, false, false, false, false, false] z2_ rfl rfl trivial (fun hHeld => ?_); refine a60 V3.c00 V3.bp9 (fun HT_ HW_ => ?_)
   generalize w16.drew = w17 at HI0 HK HB hHeld ⊢
   refine pu 0 19 ?_
   refine pu 1 20 ?_
   refine pu 2 21 ?_
   refine pu 3 22 ?_
   refine pu 7 26 ?_
   refine pu 8 27 ?_
   refine pu 9 28 ?_
   refine pu 10 29 ?_
   refine on 4 (some 23) (fun K hK => ?_)
   refine Kd.az9 Kd.string _ 9 ?hg (N := 23) ?hd (xs := ([(⟨#[46]⟩ : ByteArray), (⟨#[13]⟩ : ByteArray), (⟨#[10]⟩ : ByteArray), (⟨#[60]⟩ : ByteArray), (⟨#[62]⟩ : ByteArray), (⟨#[48]⟩ : ByteArray), (⟨#[32]⟩ : ByteArray), (⟨#[64]⟩ : ByteArray)] : List ByteArray)) (inner := [.string (⟨#[46]⟩ : ByteArray), .string (⟨#[13]⟩ : ByteArray), .string (⟨#[10]⟩ : ByteArray), .string (⟨#[60]⟩ : ByteArray), .string (⟨#[62]⟩ : ByteArray), .string (⟨#[48]⟩ : ByteArray), .string (⟨#[32]⟩ : ByteArray), .string (⟨#[64]⟩ : ByteArray)]) (ok := fun _ => True) (okp := fun _ => True) ?hr ?hp (fun _ hk => hk) trivial (Below.refl _ _) (Nat.le_refl _) (by simp) ?_; (case hd => rfl); (case hg => rfl); (case hr => first | (go_simp; done) | (go_simp; rfl)); (case hp => exact (M4.one (show Kd.M Kd.string _ _ _ (⟨#[46]⟩ : ByteArray) [.string (⟨#[46]⟩ : ByteArray)] from rfl) (M4.one (show Kd.M Kd.string _ _ _ (⟨#[13]⟩ : ByteArray) [.string (⟨#[13]⟩ : ByteArray)] from rfl) (M4.one (show Kd.M Kd.string _ _ _ (⟨#[10]⟩ : ByteArray) [.string (⟨#[10]⟩ : ByteArray)] from rfl) (M4.one (show Kd.M Kd.string _ _ _ (⟨#[60]⟩ : ByteArray) [.string (⟨#[60]⟩ : ByteArray)] from rfl) (M4.one (show Kd.M Kd.string _ _ _ (⟨#[62]⟩ : ByteArray) [.string (⟨#[62]⟩ : ByteArray)] from rfl) (M4.one (show Kd.M Kd.string _ _ _ (⟨#[48]⟩ : ByteArray) [.string (⟨#[48]⟩ : ByteArray)] from rfl) (M4.one (show Kd.M Kd.string _ _ _ (⟨#[32]⟩ : ByteArray) [.string (⟨#[32]⟩ : ByteArray)] from rfl) (M4.one (show Kd.M Kd.string _ _ _ (⟨#[64]⟩ : ByteArray) [.string (⟨#[64]⟩ : ByteArray)] from rfl) (M4.none _ _))))))))))
   intro ct8 w18 cS8 hb hg_ X3
   clear hg_ X3
   (first | rw [← aJ8.out] at cS8 | (simp only [Int.reduceToNat] at cS8; rw [← aJ8.out] at cS8))
   have O6 := lK HK cS8
   replace HI0 := IS HI0 hb
   replace HK := KT HK hb
   replace HB := bF HB hb
   clear hb cS8
   obtain ⟨bx8, bx9, br5⟩ := Kd.s7 O6.out
   (first | subst br5 | (injection br5 with f1_ f2_ f3_; have f4_ := f1_.symm; have f5_ := f3_.symm; clear f1_ f2_ f3_; subst f4_; subst f5_))
   refine kO 23 hK (fun hHeld => ?_) trivial
   clear hK K
   refine on 5 (some 24) (fun K hK => ?_)
   refine ar2 Tryz.func99 z2_ rfl #[.pointer (some ⟨g, 0, none⟩), .slice bx8 bH7.length bx9] (by rfl) rfl rfl zm ?_
   with_reducible refine (Q9.calls k g L6 t104 _ _ bH7 t108 t109 w0 _ ?a92 ?ad2 ?aN8 ?aN9 ?bO8 A9.out).mono ?_
   (case a92 => repeat (first | (with_reducible first | exact HI0.out | apply l5.alloc | apply l5.drewN | apply l5.drew | apply l5.af6) | exact HI0.out))
   (case ad2 => repeat (first | (with_reducible first | exact HB.out | apply P2 | apply J9 | apply E9 | refine I5 ?_ (l5.ge HI0.out)) | exact HB.out))
   (case aN8 => repeat (first | exact (Kd.y7 O6.out).2.2 | (with_reducible refine Kd.K4 ?_ _) | (with_reducible refine Kd.K5 ?_ _) | (with_reducible refine Kd.Q1 ?_)))
   (case aN9 => exact (Kd.y7 O6.out).2.1)
   (case bO8 => exact au8 (l5.aw4 HI0.out O6.out I1))
   rintro e w21 ⟨rfl, hi, hb, hk⟩
   refine ⟨_, rfl, ?_⟩
   replace O6 := RK hk O6 HI0
   replace HK := KS HK hk
   replace HB := j4.mk (hb)
   replace HI0 := j4.mk (hi)
   (try clear hb)
   (try clear hb2)
   (try clear hk)
   (try clear hi)
   refine kO 24 hK (fun hHeld => ?_) trivial
   clear hK K
   refine pu 6 25 ?_
   refine pu 11 30 ?_
   refine pu 12 4 ?_
   refine au9 (ah0 HT_.out z2_) ?_
   try go_wp2
   go_ret
   exact ⟨by first | rfl | (simp [W6, W7] <;> rfl) | (simp only [← aU0]; first | rfl | (simp [W6, W7] <;> rfl)) | (simp [*, W6, W7] <;> rfl), zI, zB, zK⟩
  ·simp only [Option.some.injEq, Prod.mk.injEq] at H
   obtain ⟨rfl, rfl⟩ := H
   go_enter Tryz.func52, Tryz.ntmps52
   go_wp2_with (first | ((with_reducible refine j6 (f := 51) rfl ?_); refine gl 10 Tryz.func51 #[.pointer (some ⟨g, 0, none⟩), .int .i64 (wrap64 ((a1.size : Int) + 1))] ((l6.calls (w := _) (w0 := w0) (hI := zI) (hB := zB) (h := A3.out)).mono ?_); rintro e w22 ⟨rfl, hi, hb, hk⟩; refine ⟨_, rfl, ?_⟩; replace HK := KS HK hk; replace HI0 := j4.mk (hi); replace HB := j4.mk (hb); clear hb hk hi) | ((with_reducible refine j6 (f := 51) rfl ?_); refine gl 12 Tryz.func51 #[.pointer (some ⟨g, 0, none⟩), .int .i64 5] ((l6.calls (w := _) (w0 := w0) (hI := zI) (hB := zB) (h := A4.out)).mono ?_); rintro e w23 ⟨rfl, hi, hb, hk⟩; refine ⟨_, rfl, ?_⟩; replace HK := KS HK hk; replace HI0 := j4.mk (hi); replace HB := j4.mk (hb); clear hb hk hi))
   go_ret
   exact ⟨zr, zI, zB, zK⟩
 ·replace H := a45 H; rcases H with ⟨cN8, cN9, H⟩ | ⟨c24, cN8, cN9, H⟩
  ·replace H := Q5 H; obtain ⟨ci0, dm7, H⟩ := H
   replace H := Q5 H; obtain ⟨cd6, dm8, H⟩ := H
   simp only [Option.some.injEq, Prod.mk.injEq] at H
   obtain ⟨rfl, rfl⟩ := H
   go_enter Tryz.func52, Tryz.ntmps52
   go_wp2_with (first | ((with_reducible refine j6 (f := 51) rfl ?_); refine gl 10 Tryz.func51 #[.pointer (some ⟨g, 0, none⟩), .int .i64 (wrap64 ((a1.size : Int) + 1))] ((l6.calls (w := _) (w0 := w0) (hI := zI) (hB := zB) (h := A3.out)).mono ?_); rintro e w27 ⟨rfl, hi, hb, hk⟩; refine ⟨_, rfl, ?_⟩; replace HK := KS HK hk; replace HI0 := j4.mk (hi); replace HB := j4.mk (hb); clear hb hk hi) | ((with_reducible refine j6 (f := 51) rfl ?_); refine gl 12 Tryz.func51 #[.pointer (some ⟨g, 0, none⟩), .int .i64 5] ((l6.calls (w := _) (w0 := w0) (hI := zI) (hB := zB) (h := A4.out)).mono ?_); rintro e w28 ⟨rfl, hi, hb, hk⟩; refine ⟨_, rfl, ?_⟩; replace HK := KS HK hk; replace HI0 := j4.mk (hi); replace HB := j4.mk (hb); clear hb hk hi))
   go_ret
   exact ⟨zr, zI, zB, zK⟩
  ·replace H := a45 H; rcases H with ⟨dm9, dn0, H⟩ | ⟨c29, dm9, dn0, H⟩
   ·first | (with_reducible replace H := bne (([(⟨#[46]⟩ : ByteArray), (⟨#[13, 10]⟩ : ByteArray), (⟨#[32]⟩ : ByteArray), (⟨#[46, 13, 10]⟩ : ByteArray)] : List ByteArray) : List ByteArray) H; obtain ⟨e19, cS9, H⟩ := H) | (generalize V5 : (([(⟨#[46]⟩ : ByteArray), (⟨#[13, 10]⟩ : ByteArray), (⟨#[32]⟩ : ByteArray), (⟨#[46, 13, 10]⟩ : ByteArray)] : List ByteArray) : List ByteArray) = e19 at H; have cS9 := j4.mk V5.symm; clear V5)
    replace H := S2 H; obtain ⟨⟨t113, t114⟩, A30, H⟩ := H
    dsimp only at H
    replace H := O5 H; obtain ⟨c31, cN3, cN4, cN5, H⟩ := H
    simp only [Option.some.injEq, Prod.mk.injEq] at H
    obtain ⟨rfl, rfl⟩ := H
    go_enter Tryz.func52, Tryz.ntmps52
    go_wp2_with (first | ((with_reducible refine j6 (f := 51) rfl ?_); refine gl 10 Tryz.func51 #[.pointer (some ⟨g, 0, none⟩), .int .i64 (wrap64 ((a1.size : Int) + 1))] ((l6.calls (w := _) (w0 := w0) (hI := zI) (hB := zB) (h := A3.out)).mono ?_); rintro e w32 ⟨rfl, hi, hb, hk⟩; refine ⟨_, rfl, ?_⟩; replace HK := KS HK hk; replace HI0 := j4.mk (hi); replace HB := j4.mk (hb); clear hb hk hi) | ((with_reducible refine j6 (f := 51) rfl ?_); refine gl 12 Tryz.func51 #[.pointer (some ⟨g, 0, none⟩), .int .i64 5] ((l6.calls (w := _) (w0 := w0) (hI := zI) (hB := zB) (h := A4.out)).mono ?_); rintro e w33 ⟨rfl, hi, hb, hk⟩; refine ⟨_, rfl, ?_⟩; replace HK := KS HK hk; replace HI0 := j4.mk (hi); replace HB := j4.mk (hb); clear hb hk hi) | ((with_reducible refine l9 (N := 40) rfl ?_); refine Kd.aI8 Kd.string _ 9 ?hg (N := 40) ?hd (xs := ([(⟨#[46]⟩ : ByteArray), (⟨#[13, 10]⟩ : ByteArray), (⟨#[32]⟩ : ByteArray), (⟨#[46, 13, 10]⟩ : ByteArray)] : List ByteArray)) (inner := [.string (⟨#[46]⟩ : ByteArray), .string (⟨#[13, 10]⟩ : ByteArray), .string (⟨#[32]⟩ : ByteArray), .string (⟨#[46, 13, 10]⟩ : ByteArray)]) (ok := fun _ => True) (okp := fun _ => True) ?hr ?hp (fun _ hk => hk) trivial (Below.refl _ _) (Nat.le_refl _) (by simp) ?_; (case hd => rfl); (case hg => rfl); (case hr => first | (go_simp; done) | (go_simp; rfl)); (case hp => exact (M4.one (show Kd.M Kd.string _ _ _ (⟨#[46]⟩ : ByteArray) [.string (⟨#[46]⟩ : ByteArray)] from rfl) (M4.one (show Kd.M Kd.string _ _ _ (⟨#[13, 10]⟩ : ByteArray) [.string (⟨#[13, 10]⟩ : ByteArray)] from rfl) (M4.one (show Kd.M Kd.string _ _ _ (⟨#[32]⟩ : ByteArray) [.string (⟨#[32]⟩ : ByteArray)] from rfl) (M4.one (show Kd.M Kd.string _ _ _ (⟨#[46, 13, 10]⟩ : ByteArray) [.string (⟨#[46, 13, 10]⟩ : ByteArray)] from rfl) (M4.none _ _)))))); intro bH8 w34 cT0 hb hg_ X3; clear hg_ X3; (first | rw [← cS9.out] at cT0 | (simp only [Int.reduceToNat] at cT0; rw [← cS9.out] at cT0)); have E2 := lK HK cT0; replace HI0 := IS HI0 hb; replace HK := KT HK hb; replace HB := bF HB hb; clear hb cT0; obtain ⟨bx6, bx7, cu7⟩ := Kd.s7 E2.out; subst cu7) | ((with_reducible refine j6 (f := 99) rfl ?_); refine gl 41 Tryz.func99 #[.pointer (some ⟨g, 0, none⟩), .slice bx6 e19.length bx7] ((Q9.calls (w := _) (w0 := w0) (hI := zI) (hB := zB) (hr1 := rC E2) (hc1 := cL E2) (hf1 := au8 (l5.aw4 HI0.out E2.out I1)) (h := A30.out)).mono ?_); rintro e w37 ⟨rfl, hi, hb, hk⟩; refine ⟨_, rfl, ?_⟩; replace E2 := RK hk E2 HI0; replace HK := KS HK hk; replace HI0 := j4.mk (hi); replace HB := j4.mk (hb); clear hb hk hi))
    go_ret
    exact ⟨zr, zI, zB, zK⟩
   ·simp only [Option.some.injEq, Prod.mk.injEq] at H
    obtain ⟨rfl, rfl⟩ := H
    go_enter Tryz.func52, Tryz.ntmps52
    go_wp2_with (first | ((with_reducible refine j6 (f := 51) rfl ?_); refine gl 10 Tryz.func51 #[.pointer (some ⟨g, 0, none⟩), .int .i64 (wrap64 ((a1.size : Int) + 1))] ((l6.calls (w := _) (w0 := w0) (hI := zI) (hB := zB) (h := A3.out)).mono ?_); rintro e w38 ⟨rfl, hi, hb, hk⟩; refine ⟨_, rfl, ?_⟩; replace HK := KS HK hk; replace HI0 := j4.mk (hi); replace HB := j4.mk (hb); clear hb hk hi) | ((with_reducible refine j6 (f := 51) rfl ?_); refine gl 12 Tryz.func51 #[.pointer (some ⟨g, 0, none⟩), .int .i64 5] ((l6.calls (w := _) (w0 := w0) (hI := zI) (hB := zB) (h := A4.out)).mono ?_); rintro e w39 ⟨rfl, hi, hb, hk⟩; refine ⟨_, rfl, ?_⟩; replace HK := KS HK hk; replace HI0 := j4.mk (hi); replace HB := j4.mk (hb); clear hb hk hi))
    go_ret
    exact ⟨zr, zI, zB, zK⟩
def a77.f (k : Nat) (l0 : List Int) : Option (ByteArray) := (af7.f l0).bind fun Y6 => ((B0.f k Y6.1 Y6.2).bind fun aa6 => ((Q7.f k Y6.1 aa6.2.2 aa6.1 aa6.2.1).bind fun ay4 => ((al2.f k ay4.1 ay4.2.1 ay4.2.2.1 ay4.2.2.2.1 ay4.2.2.2.2.1 ay4.2.2.2.2.2.1 ay4.2.2.2.2.2.2.1 ay4.2.2.2.2.2.2.2.1 ay4.2.2.2.2.2.2.2.2.1).bind fun t123 => ((l6.f k Y6.1 ay4.2.2.2.2.2.2.2.2.2 2).bind fun aU1 => (if aU1.1 = 0 then (some t123) else ((V3.f k Y6.1 aU1.2 t123).bind fun e20 => (some e20.1)))))))
set_option maxHeartbeats 2000000 in
set_option maxRecDepth 100000 in
theorem a77.calls (k : Nat) (A0 : Option Addr) (c0 : Nat) (l0 : List Int) (r : ByteArray) (w : World) (hr0 : Kd.C (Kd.int .u8) w A0 l0.length l0) (hc0 : l0.length ≤ c0) (h : a77.f k l0 = some r) :
  Calls Tryz.prog 20 #[.slice A0 l0.length c0] w fun e w' => e = .returned (.string r) ∧ Below w.heap.size w w' := by
 have HR0 := j4.mk hr0
 have HC0 := j4.mk hc0
 clear hr0 hc0
 have HB := j4.mk (Below.refl w.heap.size w)
 have H := h
 clear h
 unfold a77.f at H
 replace H := S2 H; obtain ⟨⟨t101, t102⟩, A2, H⟩ := H
 dsimp only at H
 replace H := S2 H; obtain ⟨⟨t104, t105, t108⟩, A3, H⟩ := H
 dsimp only at H
 replace H := S2 H; obtain ⟨⟨t109, t110, t111, t112, t113, t114, t115, t116, t119, t122⟩, A4, H⟩ := H
 dsimp only at H
 replace H := S2 H; obtain ⟨t123, A5, H⟩ := H
 replace H := S2 H; obtain ⟨⟨t124, t125⟩, A6, H⟩ := H
 dsimp only at H
 replace H := a45 H; rcases H with ⟨ak6, b77, H⟩ | ⟨c7, ak6, b77, H⟩
 ·obtain rfl := Option.some.inj H
  go_enter Tryz.func20, Tryz.ntmps20
  go_wp2_with (first | ((with_reducible refine j6 (f := 48) rfl ?_); refine gl 6 Tryz.func48 #[.slice A0 l0.length c0] ((af7.calls (w := _) (w0 := w) (hB := zB) (hr0 := HR0.out) (hc0 := HC0.out) (h := A2.out)).mono ?_); rintro e w8 ⟨aw2, rfl, hi, hb, hb2⟩; refine ⟨_, rfl, ?_⟩; have a05 := j4.mk (hi); replace HB := j4.mk (hb); clear hb hb2 hi) | ((with_reducible refine j6 (f := 50) rfl ?_); refine gl 9 Tryz.func50 #[.pointer (some ⟨aw2, 0, none⟩)] ((B0.calls (w := _) (w0 := w) (hI := by repeat (first | (with_reducible first | exact a05.out | apply l5.alloc | apply l5.drewN | apply l5.drew | apply l5.af6) | exact a05.out)) (hB := zB) (h := A3.out)).mono ?_); rintro e w9 ⟨ct8, rfl, ho0, hi, hb, hk⟩; refine ⟨_, rfl, ?_⟩; have O6 := j4.mk (Kd.aq2 (Kd.ad1 (ok' := fun k_ => k_ ≠ aw2) ho0 (fun k_ hk_ => (l5.fresh (by repeat (first | (with_reducible first | exact a05.out | apply l5.alloc | apply l5.drewN | apply l5.drew | apply l5.af6) | exact a05.out)) k_ hk_))) (bZ)); replace a05 := j4.mk (hi); replace HB := j4.mk (hb); clear hb hk hi ho0; obtain ⟨cL6, cv7, cL7⟩ := Kd.ax1 O6.out; subst cL7) | ((with_reducible refine j6 (f := 49) rfl ?_); refine gl 10 Tryz.func49 #[.pointer (some ⟨aw2, 0, none⟩), .agg #[.int .i64 t104, .slice cL6 t105.length cv7]] ((Q7.calls (w := _) (w0 := w) (hI := by repeat (first | (with_reducible first | exact a05.out | apply l5.alloc | apply l5.drewN | apply l5.drew | apply l5.af6) | exact a05.out)) (hB := zB) (br8 := Kd.be1 (base := 0) (Kd.N_V (Kd.ad1 (ok := fun k_ => k_ ≠ aw2) (nO O6) (fun k_ hk_ => (⟨hk_, hk_⟩ : _ ∧ k_ ≠ aw2)))) (fun _ h_ => h_.2)) (br9 := (Kd.aN5 O6.out).2.1) (h := A4.out)).mono ?_); rintro e w11 ⟨v117, dx5, rfl, ho0, ho1, hi, hb, hk⟩; refine ⟨_, rfl, ?_⟩; replace O6 := j4.mk (Kd.ad1 (Kd.bG8 (Kd.bG8 (Kd.cB9 (Kd.ad1 (ok := fun k_ => k_ ≠ aw2) (nO O6) (fun k_ hk_ => (⟨hk_, hk_⟩ : _ ∧ k_ ≠ aw2))) hk) (Kd.J6 ho0)) (Kd.J6 ho1)) (fun _ h_ => h_.1)); have a95 := lS ho0; have P0 := lS ho1; replace a05 := j4.mk (hi); replace HB := j4.mk (hb); clear hb hk hi ho0; (try clear ho1); obtain ⟨bb6, b72, bx0⟩ := Kd.s7 a95.out; subst bx0; obtain ⟨c01, c02, bI3⟩ := Kd.s7 P0.out; subst bI3) | ((with_reducible refine j6 (f := 8) rfl ?_); refine gv 11 Tryz.func8 #[.agg #[.int .i64 t109, .int .i64 t110, .string t111, .string t112, .int .i64 t113, .string t114, .string t115, .slice bb6 t116.length b72, .slice c01 t119.length c02]] (al2.calls (w := _) (a17 := rC a95) (a18 := cL a95) (a19 := rC P0) (a22 := cL P0) (h := A5.out)) ?_; intro w14 hb; replace O6 := j4.mk (Kd.bG6 (nO O6) hb); replace a95 := rS a95 hb; replace P0 := rS P0 hb; replace a05 := j4.mk (l5.below (by repeat (first | (with_reducible first | exact a05.out | apply l5.alloc | apply l5.drewN | apply l5.drew | apply l5.af6) | exact a05.out)) hb); replace HB := bS hb; clear hb) | ((with_reducible refine j6 (f := 51) rfl ?_); refine gl 13 Tryz.func51 #[.pointer (some ⟨aw2, 0, none⟩), .int .i64 2] ((l6.calls (w := _) (w0 := w) (hI := by repeat (first | (with_reducible first | exact a05.out | apply l5.alloc | apply l5.drewN | apply l5.drew | apply l5.af6) | exact a05.out)) (hB := zB) (h := A6.out)).mono ?_); rintro e w15 ⟨rfl, hi, hb, hk⟩; refine ⟨_, rfl, ?_⟩; replace O6 := j4.mk (Kd.ad1 (Kd.bG7 (Kd.ad1 (ok := fun k_ => ((k_ ≠ aw2 ∧ some k_ ≠ (.slice bb6 t116.length b72 : Value).ownBlock) ∧ some k_ ≠ (.slice c01 t119.length c02 : Value).ownBlock)) (nO O6) (fun k_ hk_ => (⟨hk_, hk_.1.1⟩ : _ ∧ k_ ≠ aw2))) hk (fun _ h => h.2)) (fun _ h => h.1)); replace a95 := j4.mk (Kd.E0 (Kd.aU7 (l5.apart (show l5 w _ aw2 t101 t122 from by repeat (first | (with_reducible first | exact a05.out | apply l5.alloc | apply l5.drewN | apply l5.drew | apply l5.af6) | exact a05.out)) (rO a95) I1) hk (fun _ h => h.2)) (fun _ h => h.1)); replace P0 := j4.mk (Kd.E0 (Kd.aU7 (l5.apart (show l5 w _ aw2 t101 t122 from by repeat (first | (with_reducible first | exact a05.out | apply l5.alloc | apply l5.drewN | apply l5.drew | apply l5.af6) | exact a05.out)) (rO P0) I1) hk (fun _ h => h.2)) (fun _ h => h.1)); replace a05 := j4.mk (hi); replace HB := j4.mk (hb); clear hb hk hi))
  go_ret
  exact ⟨zr, zB⟩
 ·replace H := S2 H; obtain ⟨⟨t126, t127⟩, A16, H⟩ := H
  dsimp only at H
  obtain rfl := Option.some.inj H
  go_enter Tryz.func20, Tryz.ntmps20
  go_wp2_with (first | ((with_reducible refine j6 (f := 48) rfl ?_); refine gl 6 Tryz.func48 #[.slice A0 l0.length c0] ((af7.calls (w := _) (w0 := w) (hB := zB) (hr0 := HR0.out) (hc0 := HC0.out) (h := A2.out)).mono ?_); rintro e w17 ⟨aw2, rfl, hi, hb, hb2⟩; refine ⟨_, rfl, ?_⟩; have a05 := j4.mk (hi); replace HB := j4.mk (hb); clear hb hb2 hi) | ((with_reducible refine j6 (f := 50) rfl ?_); refine gl 9 Tryz.func50 #[.pointer (some ⟨aw2, 0, none⟩)] ((B0.calls (w := _) (w0 := w) (hI := by repeat (first | (with_reducible first | exact a05.out | apply l5.alloc | apply l5.drewN | apply l5.drew | apply l5.af6) | exact a05.out)) (hB := zB) (h := A3.out)).mono ?_); rintro e w18 ⟨ct8, rfl, ho0, hi, hb, hk⟩; refine ⟨_, rfl, ?_⟩; have O6 := j4.mk (Kd.aq2 (Kd.ad1 (ok' := fun k_ => k_ ≠ aw2) ho0 (fun k_ hk_ => (l5.fresh (by repeat (first | (with_reducible first | exact a05.out | apply l5.alloc | apply l5.drewN | apply l5.drew | apply l5.af6) | exact a05.out)) k_ hk_))) (bZ)); replace a05 := j4.mk (hi); replace HB := j4.mk (hb); clear hb hk hi ho0; obtain ⟨d03, cP8, cP9⟩ := Kd.ax1 O6.out; subst cP9) | ((with_reducible refine j6 (f := 49) rfl ?_); refine gl 10 Tryz.func49 #[.pointer (some ⟨aw2, 0, none⟩), .agg #[.int .i64 t104, .slice d03 t105.length cP8]] ((Q7.calls (w := _) (w0 := w) (hI := by repeat (first | (with_reducible first | exact a05.out | apply l5.alloc | apply l5.drewN | apply l5.drew | apply l5.af6) | exact a05.out)) (hB := zB) (br8 := Kd.be1 (base := 0) (Kd.N_V (Kd.ad1 (ok := fun k_ => k_ ≠ aw2) (nO O6) (fun k_ hk_ => (⟨hk_, hk_⟩ : _ ∧ k_ ≠ aw2)))) (fun _ h_ => h_.2)) (br9 := (Kd.aN5 O6.out).2.1) (h := A4.out)).mono ?_); rintro e w20 ⟨v117, dx5, rfl, ho0, ho1, hi, hb, hk⟩; refine ⟨_, rfl, ?_⟩; replace O6 := j4.mk (Kd.ad1 (Kd.bG8 (Kd.bG8 (Kd.cB9 (Kd.ad1 (ok := fun k_ => k_ ≠ aw2) (nO O6) (fun k_ hk_ => (⟨hk_, hk_⟩ : _ ∧ k_ ≠ aw2))) hk) (Kd.J6 ho0)) (Kd.J6 ho1)) (fun _ h_ => h_.1)); have a95 := lS ho0; have P0 := lS ho1; replace a05 := j4.mk (hi); replace HB := j4.mk (hb); clear hb hk hi ho0; (try clear ho1); obtain ⟨bI7, bb9, bS3⟩ := Kd.s7 a95.out; subst bS3; obtain ⟨b44, aZ7, bh3⟩ := Kd.s7 P0.out; subst bh3) | ((with_reducible refine j6 (f := 8) rfl ?_); refine gv 11 Tryz.func8 #[.agg #[.int .i64 t109, .int .i64 t110, .string t111, .string t112, .int .i64 t113, .string t114, .string t115, .slice bI7 t116.length bb9, .slice b44 t119.length aZ7]] (al2.calls (w := _) (a17 := rC a95) (a18 := cL a95) (a19 := rC P0) (a22 := cL P0) (h := A5.out)) ?_; intro w23 hb; replace O6 := j4.mk (Kd.bG6 (nO O6) hb); replace a95 := rS a95 hb; replace P0 := rS P0 hb; replace a05 := j4.mk (l5.below (by repeat (first | (with_reducible first | exact a05.out | apply l5.alloc | apply l5.drewN | apply l5.drew | apply l5.af6) | exact a05.out)) hb); replace HB := bS hb; clear hb) | ((with_reducible refine j6 (f := 51) rfl ?_); refine gl 13 Tryz.func51 #[.pointer (some ⟨aw2, 0, none⟩), .int .i64 2] ((l6.calls (w := _) (w0 := w) (hI := by repeat (first | (with_reducible first | exact a05.out | apply l5.alloc | apply l5.drewN | apply l5.drew | apply l5.af6) | exact a05.out)) (hB := zB) (h := A6.out)).mono ?_); rintro e w24 ⟨rfl, hi, hb, hk⟩; refine ⟨_, rfl, ?_⟩; replace O6 := j4.mk (Kd.ad1 (Kd.bG7 (Kd.ad1 (ok := fun k_ => ((k_ ≠ aw2 ∧ some k_ ≠ (.slice bI7 t116.length bb9 : Value).ownBlock) ∧ some k_ ≠ (.slice b44 t119.length aZ7 : Value).ownBlock)) (nO O6) (fun k_ hk_ => (⟨hk_, hk_.1.1⟩ : _ ∧ k_ ≠ aw2))) hk (fun _ h => h.2)) (fun _ h => h.1)); replace a95 := j4.mk (Kd.E0 (Kd.aU7 (l5.apart (show l5 w _ aw2 t101 t122 from by repeat (first | (with_reducible first | exact a05.out | apply l5.alloc | apply l5.drewN | apply l5.drew | apply l5.af6) | exact a05.out)) (rO a95) I1) hk (fun _ h => h.2)) (fun _ h => h.1)); replace P0 := j4.mk (Kd.E0 (Kd.aU7 (l5.apart (show l5 w _ aw2 t101 t122 from by repeat (first | (with_reducible first | exact a05.out | apply l5.alloc | apply l5.drewN | apply l5.drew | apply l5.af6) | exact a05.out)) (rO P0) I1) hk (fun _ h => h.2)) (fun _ h => h.1)); replace a05 := j4.mk (hi); replace HB := j4.mk (hb); clear hb hk hi) | ((with_reducible refine j6 (f := 52) rfl ?_); refine gl 18 Tryz.func52 #[.pointer (some ⟨aw2, 0, none⟩), .string t123] ((V3.calls (w := _) (w0 := w) (hI := by repeat (first | (with_reducible first | exact a05.out | apply l5.alloc | apply l5.drewN | apply l5.drew | apply l5.af6) | exact a05.out)) (hB := zB) (h := A16.out)).mono ?_); rintro e w25 ⟨rfl, hi, hb, hk⟩; refine ⟨_, rfl, ?_⟩; replace O6 := j4.mk (Kd.ad1 (Kd.bG7 (Kd.ad1 (ok := fun k_ => ((k_ ≠ aw2 ∧ some k_ ≠ (.slice bI7 t116.length bb9 : Value).ownBlock) ∧ some k_ ≠ (.slice b44 t119.length aZ7 : Value).ownBlock)) (nO O6) (fun k_ hk_ => (⟨hk_, hk_.1.1⟩ : _ ∧ k_ ≠ aw2))) hk (fun _ h => h.2)) (fun _ h => h.1)); replace a95 := j4.mk (Kd.E0 (Kd.aU7 (l5.apart (show l5 w _ aw2 t101 t125 from by repeat (first | (with_reducible first | exact a05.out | apply l5.alloc | apply l5.drewN | apply l5.drew | apply l5.af6) | exact a05.out)) (rO a95) I1) hk (fun _ h => h.2)) (fun _ h => h.1)); replace P0 := j4.mk (Kd.E0 (Kd.aU7 (l5.apart (show l5 w _ aw2 t101 t125 from by repeat (first | (with_reducible first | exact a05.out | apply l5.alloc | apply l5.drewN | apply l5.drew | apply l5.af6) | exact a05.out)) (rO P0) I1) hk (fun _ h => h.2)) (fun _ h => h.1)); replace a05 := j4.mk (hi); replace HB := j4.mk (hb); clear hb hk hi))
  go_ret
  exact ⟨zr, zB⟩
end Go.Proofs.YtbncnjgflhoneaaGreatDoor.F
namespace Go.Proofs.YtbncnjgflhoneaaGreatDoor.F
open Go.RowKit Go.Proofs.YtbncnjgflhoneaaGreatDoor.Hand Go.Proofs.YtbncnjgflhoneaaGreatDoorW.l8 Go.Proofs.YtbncnjgflhoneaaGreatDoorW.s9 Go.Proofs.YtbncnjgflhoneaaGreatDoorW.y9
def S9.j0 : Nat → ByteArray → Bool → Bool → Bool → Int → Int → ByteArray → ByteArray → Int → ByteArray → ByteArray → List (G6) → List ByteArray → Int → Int → ByteArray → ByteArray → Int → ByteArray → ByteArray → List (G6) → List ByteArray → Option (Bool)
 | 0, _, _, _, _, _, _, _, _, _, _, _, _, _, _, _, _, _, _, _, _, _, _ => none
 | k + 1, x3, x5, x7, x35, bM2, bM3, bM4, bM5, bM6, bM7, bM8, bM9, bN0, da8, da9, db0, db1, db2, db3, db4, db5, db6 => if x35 = true then (if (x5 == x7) = true then ((aa2.f k bM2 bM3 bM4 bM5 bM6 bM7 bM8 bM9 bN0 da8 da9 db0 db1 db2 db3 db4 db5 db6).bind fun t133 => (some t133)) else (some false)) else ((M6.f k bM2 bM3 bM4 bM5 bM6 bM7 bM8 bM9 bN0).bind fun t134 => (if t134.toList = x3.toList then ((K8.f k bM2 bM3 bM4 bM5 bM6 bM7 bM8 bM9 bN0).bind fun t135 => (some t135)) else (some false)))
def S9.f (k : Nat) (l0 : List Int) : Option (Bool) := if (l0.length : Int) > 1048576 then (some true) else ((a77.f k l0).bind fun t101 => ((C3.f k t101).bind fun D9 => ((a88.f k t101).bind fun a11 => (if (D9.2.2.2.2.2.2.2.2.2 != a11.2.2.2.2.2.2.2.2.2) = true then (S9.j0 k t101 D9.2.2.2.2.2.2.2.2.2 a11.2.2.2.2.2.2.2.2.2 true D9.1 D9.2.1 D9.2.2.1 D9.2.2.2.1 D9.2.2.2.2.1 D9.2.2.2.2.2.1 D9.2.2.2.2.2.2.1 D9.2.2.2.2.2.2.2.1 D9.2.2.2.2.2.2.2.2.1 a11.1 a11.2.1 a11.2.2.1 a11.2.2.2.1 a11.2.2.2.2.1 a11.2.2.2.2.2.1 a11.2.2.2.2.2.2.1 a11.2.2.2.2.2.2.2.1 a11.2.2.2.2.2.2.2.2.1) else ((aa2.f k D9.1 D9.2.1 D9.2.2.1 D9.2.2.2.1 D9.2.2.2.2.1 D9.2.2.2.2.2.1 D9.2.2.2.2.2.2.1 D9.2.2.2.2.2.2.2.1 D9.2.2.2.2.2.2.2.2.1 a11.1 a11.2.1 a11.2.2.1 a11.2.2.2.1 a11.2.2.2.2.1 a11.2.2.2.2.2.1 a11.2.2.2.2.2.2.1 a11.2.2.2.2.2.2.2.1 a11.2.2.2.2.2.2.2.2.1).bind fun t132 => (if t132 = true then (S9.j0 k t101 D9.2.2.2.2.2.2.2.2.2 a11.2.2.2.2.2.2.2.2.2 (!D9.2.2.2.2.2.2.2.2.2) D9.1 D9.2.1 D9.2.2.1 D9.2.2.2.1 D9.2.2.2.2.1 D9.2.2.2.2.2.1 D9.2.2.2.2.2.2.1 D9.2.2.2.2.2.2.2.1 D9.2.2.2.2.2.2.2.2.1 a11.1 a11.2.1 a11.2.2.1 a11.2.2.2.1 a11.2.2.2.2.1 a11.2.2.2.2.2.1 a11.2.2.2.2.2.2.1 a11.2.2.2.2.2.2.2.1 a11.2.2.2.2.2.2.2.2.1) else (S9.j0 k t101 D9.2.2.2.2.2.2.2.2.2 a11.2.2.2.2.2.2.2.2.2 true D9.1 D9.2.1 D9.2.2.1 D9.2.2.2.1 D9.2.2.2.2.1 D9.2.2.2.2.2.1 D9.2.2.2.2.2.2.1 D9.2.2.2.2.2.2.2.1 D9.2.2.2.2.2.2.2.2.1 a11.1 a11.2.1 a11.2.2.1 a11.2.2.2.1 a11.2.2.2.2.1 a11.2.2.2.2.2.1 a11.2.2.2.2.2.2.1 a11.2.2.2.2.2.2.2.1 a11.2.2.2.2.2.2.2.2.1)))))))
set_option maxHeartbeats 8000000 in
set_option maxRecDepth 100000 in
theorem S9.calls (k : Nat) (A0 : Option Addr) (c0 : Nat) (l0 : List Int) (r : Bool) (w : World) (hG : Laid w) (hr0 : Kd.C (Kd.int .u8) w A0 l0.length l0) (hc0 : l0.length ≤ c0) (h : S9.f k l0 = some r) :
  Calls Tryz.prog 6 #[.slice A0 l0.length c0] w fun e w' => e = .returned (.bool r) ∧ Below w.heap.size w w' := by
 have by1 := Tryz.underlying37
 have HG := j4.mk hG
 clear hG
 have HR0 := j4.mk hr0
 have HC0 := j4.mk hc0
 clear hr0 hc0
 have HB := j4.mk (Below.refl w.heap.size w)
 have H := h
 clear h
 unfold S9.f at H
 replace H := a29 H; rcases H with ⟨c2, ak5, H⟩ | ⟨c2, ak5, H⟩
 ·have aJ6 : decide (1048576 < l0.length) = true := decide_eq_true (by omega)
  clear c2
  obtain rfl := Option.some.inj H
  go_enter Tryz.func6, Tryz.ntmps6
  go_wp2
  go_ret
  exact ⟨zr, zB⟩
 ·have aJ6 : decide (1048576 < l0.length) = false := decide_eq_false (by omega)
  clear c2
  replace H := S2 H; obtain ⟨t101, A3, H⟩ := H
  replace H := S2 H; obtain ⟨⟨t102, t103, t104, t105, t106, t107, t108, t109, t112, t115⟩, A4, H⟩ := H
  dsimp only at H
  replace H := S2 H; obtain ⟨⟨t117, t118, t119, t120, t121, t122, t123, t124, t127, t130⟩, A5, H⟩ := H
  dsimp only at H
  have HC6 := j4.mk H
  clear H
  go_enter Tryz.func6, Tryz.ntmps6
  go_upto_region 6 with (first | ((with_reducible refine j6 (f := 20) rfl ?_); refine gv 12 Tryz.func20 #[.slice A0 l0.length c0] (a77.calls (w := _) (hr0 := by repeat (first | exact HR0.out | (with_reducible refine Kd.K4 ?_ _) | (with_reducible refine Kd.K5 ?_ _) | (with_reducible refine Kd.Q1 ?_))) (hc0 := HC0.out) (h := A3.out)) ?_; intro w7 hb; replace HB := bS hb; clear hb) | ((with_reducible refine j6 (f := 15) rfl ?_); refine gl 15 Tryz.func15 _ ((C3.calls (w := _) (hG := gB) (h := A4.out)).mono ?_); rintro e w8 ⟨bb7, cu2, rfl, ho0, ho1, hb⟩; refine ⟨_, rfl, ?_⟩; have O9 := lS ho0; have R2 := lS ho1; replace HB := bS hb; clear hb ho0; (try clear ho1)) | ((with_reducible refine l9 (N := 4) rfl ?_); refine bx (cs := #[.int .i64 0, .int .i64 0, .string ⟨#[]⟩, .string ⟨#[]⟩, .int .i64 0, .string ⟨#[]⟩, .string ⟨#[]⟩, .slice none 0 0, .slice none 0 0]) (t := 37) ?_; intro av6 hg w9 o8 hb; replace O9 := rS O9 hb; replace R2 := rS R2 hb; have V6 := j4.mk (o8); have cQ3 := gS hg; have cQ4 := gS hg; replace HB := bS hb; clear hb o8 hg; have cp6 := cz9 V6.out; have cp7 := fz9 V6.out; obtain ⟨b70, aK6, bp5⟩ := Kd.s7 O9.out; subst bp5; obtain ⟨bb6, b72, bx0⟩ := Kd.s7 R2.out; subst bx0) | ((with_reducible refine j6 (f := 17) rfl ?_); refine gl 20 Tryz.func17 _ ((a88.calls (w := _) (h := A5.out)).mono ?_); rintro e w13 ⟨aE5, e99, rfl, ho0, ho1, hb⟩; refine ⟨_, rfl, ?_⟩; have a04 := j4.mk (Kd.T9 (Kd.as0 ho0 (Kd.aa3 (fO O9 V6))) (bZ)); replace O9 := j4.mk (Kd.ab6 (fO O9 V6) (Kd.J6 ho0) hb); have S5 := j4.mk (Kd.T9 (Kd.as0 ho1 (Kd.aa3 (fO R2 V6))) (bZ)); replace R2 := j4.mk (Kd.ab6 (fO R2 V6) (Kd.J6 ho1) hb); replace V6 := kP (.cells #[.int .i64 t102, .int .i64 t103, .string t104, .string t105, .int .i64 t106, .string t107, .string t108, .slice b70 t109.length aK6, .slice bb6 t112.length b72] 37 (0, 0)) V6 hb; replace HB := bS hb; clear hb ho0; (try clear ho1)) | ((with_reducible refine l9 (N := 6) rfl ?_); refine bx (cs := #[.int .i64 0, .int .i64 0, .string ⟨#[]⟩, .string ⟨#[]⟩, .int .i64 0, .string ⟨#[]⟩, .string ⟨#[]⟩, .slice none 0 0, .slice none 0 0]) (t := 37) ?_; intro do0 hg w14 o8 hb; replace O9 := rS O9 hb; replace R2 := rS R2 hb; replace a04 := rS a04 hb; replace S5 := rS S5 hb; have Y9 := j4.mk (o8); have dZ8 := gS hg; have dZ9 := gS hg; have aI5 := nS hg V6; have aI6 := nG hg V6; replace V6 := kS V6 hb; replace HB := bS hb; clear hb o8 hg; have dk4 := aI6.out; have dk5 := aI5.out; have br3 := cz9 Y9.out; have br4 := fz9 Y9.out; obtain ⟨br6, bc0, c32⟩ := Kd.s7 a04.out; subst c32; obtain ⟨cx3, cx4, dC1⟩ := Kd.s7 S5.out; subst dC1))
  (try simp only [Act.put, List.setIfInBounds_toArray, List.set_cons_zero, List.set_cons_succ])
  go_cut [35] (fun v35 wc => ∃ (kq : Nat) (cT1 : Bool), v35 = .bool cT1 ∧ j4 (S9.j0 kq t101 t115 t130 cT1 t102 t103 t104 t105 t106 t107 t108 t109 t112 t117 t118 t119 t120 t121 t122 t123 t124 t127 = some r) ∧ j4 (kq ≤ k) ∧ j4 (Kd.R k32 32 wc w.heap.size (fun k_ => some k_ ≠ ((.slice br6 t124.length bc0) : Value).ownBlock) (.slice b70 t109.length aK6) t109) ∧ j4 (Kd.R Kd.string 9 wc w.heap.size (fun k_ => some k_ ≠ ((.slice cx3 t127.length cx4) : Value).ownBlock) (.slice bb6 t112.length b72) t112) ∧ j4 (Kd.R k32 32 wc w.heap.size (fun k_ => some k_ ≠ ((.slice b70 t109.length aK6) : Value).ownBlock) (.slice br6 t124.length bc0) t124) ∧ j4 (Kd.R Kd.string 9 wc w.heap.size (fun k_ => some k_ ≠ ((.slice bb6 t112.length b72) : Value).ownBlock) (.slice cx3 t127.length cx4) t127) ∧ j4 (wc.heap[av6]? = some (.cells #[.int .i64 t102, .int .i64 t103, .string t104, .string t105, .int .i64 t106, .string t107, .string t108, (.slice b70 t109.length aK6), (.slice bb6 t112.length b72)] 37 (0, 0))) ∧ j4 (wc.heap[do0]? = some (.cells #[.int .i64 t117, .int .i64 t118, .string t119, .string t120, .int .i64 t121, .string t122, .string t123, (.slice br6 t124.length bc0), (.slice cx3 t127.length cx4)] 37 (0, 0))) ∧ j4 (Below w.heap.size w wc))
  case first =>
   have H := HC6.out
   clear HC6
   replace H := aY5 H; rcases H with ⟨c19, H⟩ | ⟨c19, H⟩
   ·have aD4 : (t115 != t130) = true := c19
    (try (have bf3 : decide (t115 = t130) = false := by simpa using c19))
    (try (have dn1 : (t115 == t130) = false := by simpa using c19))
    (try (have dT1 : ¬ (t115 = t130) := by simpa using c19))
    clear c19
    (first | rw [aD4] | (simp only [Z1, aa5]; rw [aD4]) | skip)
    have H' := j4.mk H
    clear H
    go_wp2
    go_meet
    case rel => exact ⟨_, (true), zs, H', ⟨by first | omega | exact Nat.le_refl _⟩, ⟨fM O9 Y9 (fun _ hk => hk.1.2)⟩, ⟨fM R2 Y9 (fun _ hk => hk.1.2)⟩, ⟨fM a04 Y9 (fun _ hk => hk.1.2)⟩, ⟨fM S5 Y9 (fun _ hk => hk.1.2)⟩, ⟨kQ V6⟩, ⟨kQ Y9⟩, ⟨zB⟩⟩
   ·have aD4 : (t115 != t130) = false := by simpa using c19
    (try (have bf3 : decide (t115 = t130) = true := by simpa using c19))
    (try (have dn1 : (t115 == t130) = true := by simpa using c19))
    clear c19
    (first | rw [aD4] | (simp only [Z1, aa5]; rw [aD4]) | skip)
    replace H := S2 H; obtain ⟨t132, A20, H⟩ := H
    replace H := itb H; rcases H with ⟨rfl, H⟩ | ⟨rfl, H⟩
    ·have H' := j4.mk H
     clear H
     have cd4 := aI5.out
     have cd5 := aI6.out
     have bO9 := cz9 V6.out
     have bP0 := fz9 V6.out
     have br0 := cz9 Y9.out
     have br1 := fz9 Y9.out
     go_wp2_with (first | (go_at_call 16; refine (aa2.calls (w := _) (a17 := by refine (Kd.y7 (e := 32) (base := w.heap.size) (ok := fun k_ => (True ∧ some k_ ≠ (.slice br6 t124.length bc0 : Value).ownBlock)) (n := t109.length) (c := aK6) ?_).2.2; exact (fO O9 Y9)) (a18 := cL O9) (a19 := (Kd.y7 (fO R2 Y9)).2.2) (a22 := cL R2) (bW9 := by refine (Kd.y7 (e := 32) (base := w.heap.size) (ok := fun k_ => (True ∧ some k_ ≠ (.slice b70 t109.length aK6 : Value).ownBlock)) (n := t124.length) (c := bc0) ?_).2.2; exact (fO a04 Y9)) (bX0 := cL a04) (bX1 := (Kd.y7 (fO S5 Y9)).2.2) (bX2 := cL S5) (h := A20.out)).mono ?_; rintro e w25 ⟨rfl, hb⟩; replace O9 := fS O9 Y9 hb; replace R2 := fS R2 Y9 hb; replace a04 := fS a04 Y9 hb; replace S5 := fS S5 Y9 hb; replace V6 := kS V6 hb; replace Y9 := kP (.cells #[.int .i64 t117, .int .i64 t118, .string t119, .string t120, .int .i64 t121, .string t122, .string t123, .slice br6 t124.length bc0, .slice cx3 t127.length cx4] 37 (0, 0)) Y9 hb; replace HB := bS hb; clear hb))
     go_meet
     case rel => exact ⟨_, (!t115), zs, H', ⟨by first | omega | exact Nat.le_refl _⟩, ⟨by (with_reducible repeat (first | apply Kd.N9 | apply Kd.M8 | apply Kd.O0)); exact Kd.E0 O9.out (fun _ hk => hk.2)⟩, ⟨by (with_reducible repeat (first | apply Kd.N9 | apply Kd.M8 | apply Kd.O0)); exact Kd.E0 R2.out (fun _ hk => hk.2)⟩, ⟨by (with_reducible repeat (first | apply Kd.N9 | apply Kd.M8 | apply Kd.O0)); exact Kd.E0 a04.out (fun _ hk => hk.2)⟩, ⟨by (with_reducible repeat (first | apply Kd.N9 | apply Kd.M8 | apply Kd.O0)); exact Kd.E0 S5.out (fun _ hk => hk.2)⟩, ⟨kQ V6⟩, ⟨kQ Y9⟩, ⟨zB⟩⟩
    ·have H' := j4.mk H
     clear H
     have cG4 := aI5.out
     have cG5 := aI6.out
     have bq2 := cz9 V6.out
     have bq3 := fz9 V6.out
     have cK0 := cz9 Y9.out
     have cK1 := fz9 Y9.out
     go_wp2_with (first | (go_at_call 16; refine (aa2.calls (w := _) (a17 := by refine (Kd.y7 (e := 32) (base := w.heap.size) (ok := fun k_ => (True ∧ some k_ ≠ (.slice br6 t124.length bc0 : Value).ownBlock)) (n := t109.length) (c := aK6) ?_).2.2; exact (fO O9 Y9)) (a18 := cL O9) (a19 := (Kd.y7 (fO R2 Y9)).2.2) (a22 := cL R2) (bW9 := by refine (Kd.y7 (e := 32) (base := w.heap.size) (ok := fun k_ => (True ∧ some k_ ≠ (.slice b70 t109.length aK6 : Value).ownBlock)) (n := t124.length) (c := bc0) ?_).2.2; exact (fO a04 Y9)) (bX0 := cL a04) (bX1 := (Kd.y7 (fO S5 Y9)).2.2) (bX2 := cL S5) (h := A20.out)).mono ?_; rintro e w29 ⟨rfl, hb⟩; replace O9 := fS O9 Y9 hb; replace R2 := fS R2 Y9 hb; replace a04 := fS a04 Y9 hb; replace S5 := fS S5 Y9 hb; replace V6 := kS V6 hb; replace Y9 := kP (.cells #[.int .i64 t117, .int .i64 t118, .string t119, .string t120, .int .i64 t121, .string t122, .string t123, .slice br6 t124.length bc0, .slice cx3 t127.length cx4] 37 (0, 0)) Y9 hb; replace HB := bS hb; clear hb))
     go_meet
     case rel => exact ⟨_, (true), zs, H', ⟨by first | omega | exact Nat.le_refl _⟩, ⟨by (with_reducible repeat (first | apply Kd.N9 | apply Kd.M8 | apply Kd.O0)); exact Kd.E0 O9.out (fun _ hk => hk.2)⟩, ⟨by (with_reducible repeat (first | apply Kd.N9 | apply Kd.M8 | apply Kd.O0)); exact Kd.E0 R2.out (fun _ hk => hk.2)⟩, ⟨by (with_reducible repeat (first | apply Kd.N9 | apply Kd.M8 | apply Kd.O0)); exact Kd.E0 a04.out (fun _ hk => hk.2)⟩, ⟨by (with_reducible repeat (first | apply Kd.N9 | apply Kd.M8 | apply Kd.O0)); exact Kd.E0 S5.out (fun _ hk => hk.2)⟩, ⟨kQ V6⟩, ⟨kQ Y9⟩, ⟨zB⟩⟩
  case rest =>
   clear HC6
   obtain ⟨kq, cT1, rfl, HA, HJ5, a62, a63, al9, am0, V6, Y9, HB⟩ := hcut
   cases kq with
   | zero => exact absurd HA.out (by simp [S9.j0])
   | succ kj5 =>
    have H := HA.out
    clear HA
    simp only [S9.j0] at H
    replace H := itb H; rcases H with ⟨rfl, H⟩ | ⟨rfl, H⟩
    ·replace H := aY5 H; rcases H with ⟨c31, H⟩ | ⟨c31, H⟩
     ·have cN3 : (t115 == t130) = true := c31
      (try (have cN4 : decide (t115 = t130) = true := by simpa using c31))
      (try (have cN5 : (t115 == t130) = true := by simpa using c31))
      clear c31
      replace H := S2 H; obtain ⟨t133, A32, H⟩ := H
      obtain rfl := Option.some.inj H
      have di5 := aI5.out
      have di6 := aI6.out
      have ci1 := cz9 V6.out
      have ci2 := fz9 V6.out
      have cM1 := cz9 Y9.out
      have cM2 := fz9 Y9.out
      go_wp2_with (first | (go_at_call 16; refine (aa2.calls (w := _) (a17 := rC a62) (a18 := cL a62) (a19 := rC a63) (a22 := cL a63) (bW9 := rC al9) (bX0 := cL al9) (bX1 := rC am0) (bX2 := cL am0) (h := A32.out)).mono ?_; rintro e w36 ⟨rfl, hb⟩; replace a62 := rS a62 hb; replace a63 := rS a63 hb; replace al9 := rS al9 hb; replace am0 := rS am0 hb; replace V6 := kS V6 hb; replace Y9 := kS Y9 hb; replace HB := bS hb; clear hb))
      go_ret
      exact ⟨zr, zB⟩
     ·have cN3 : (t115 == t130) = false := by simpa using c31
      (try (have cN4 : decide (t115 = t130) = false := by simpa using c31))
      (try (have cN5 : (t115 == t130) = false := by simpa using c31))
      (try (have dS8 : ¬ (t115 = t130) := by simpa using c31))
      clear c31
      obtain rfl := Option.some.inj H
      go_wp2
      go_ret
      exact ⟨zr, zB⟩
    ·replace H := S2 H; obtain ⟨t134, A37, H⟩ := H
     replace H := a45 H; rcases H with ⟨cS2, cS3, H⟩ | ⟨c38, cS2, cS3, H⟩
     ·replace H := S2 H; obtain ⟨t135, A39, H⟩ := H
      obtain rfl := Option.some.inj H
      have dV5 := aI5.out
      have dV6 := aI6.out
      have cq6 := cz9 V6.out
      have cq7 := fz9 V6.out
      go_wp2_with (first | ((with_reducible refine j6 (f := 10) rfl ?_); refine gv 45 Tryz.func10 #[.agg #[.int .i64 t102, .int .i64 t103, .string t104, .string t105, .int .i64 t106, .string t107, .string t108, .slice b70 t109.length aK6, .slice bb6 t112.length b72]] (M6.calls (w := _) (hG := gB) (a17 := rC a62) (a18 := cL a62) (a19 := rC a63) (a22 := cL a63) (h := A37.out)) ?_; intro w42 hb; replace a62 := rS a62 hb; replace a63 := rS a63 hb; replace al9 := rS al9 hb; replace am0 := rS am0 hb; replace V6 := kS V6 hb; replace Y9 := kS Y9 hb; replace HB := bS hb; clear hb; have bQ1 := cz9 V6.out; have bQ2 := fz9 V6.out) | (go_at_call 13; refine (K8.calls (w := _) (hG := gB) (a17 := rC a62) (a18 := cL a62) (a19 := rC a63) (a22 := cL a63) (h := A39.out)).mono ?_; rintro e w44 ⟨rfl, hb⟩; replace a62 := rS a62 hb; replace a63 := rS a63 hb; replace al9 := rS al9 hb; replace am0 := rS am0 hb; replace V6 := kS V6 hb; replace Y9 := kS Y9 hb; replace HB := bS hb; clear hb))
      go_ret
      exact ⟨zr, zB⟩
     ·obtain rfl := Option.some.inj H
      have eE2 := aI5.out
      have eE3 := aI6.out
      have dg3 := cz9 V6.out
      have dg4 := fz9 V6.out
      go_wp2_with (first | ((with_reducible refine j6 (f := 10) rfl ?_); refine gv 45 Tryz.func10 #[.agg #[.int .i64 t102, .int .i64 t103, .string t104, .string t105, .int .i64 t106, .string t107, .string t108, .slice b70 t109.length aK6, .slice bb6 t112.length b72]] (M6.calls (w := _) (hG := gB) (a17 := rC a62) (a18 := cL a62) (a19 := rC a63) (a22 := cL a63) (h := A37.out)) ?_; intro w47 hb; replace a62 := rS a62 hb; replace a63 := rS a63 hb; replace al9 := rS al9 hb; replace am0 := rS am0 hb; replace V6 := kS V6 hb; replace Y9 := kS Y9 hb; replace HB := bS hb; clear hb))
      go_ret
      exact ⟨zr, zB⟩
end Go.Proofs.YtbncnjgflhoneaaGreatDoor.F
namespace Go.Proofs.YtbncnjgflhoneaaGreatDoor.Hand
open Go.RowKit Go.Proofs.YtbncnjgflhoneaaGreatDoor.F Go.Proofs.YtbncnjgflhoneaaGreatDoorW.l8 Go.Proofs.YtbncnjgflhoneaaGreatDoorW.s9 Go.Proofs.YtbncnjgflhoneaaGreatDoorW.y9
theorem db7 {s : List Int} (hs : Byt s) {p : Int} (h0 : 0 ≤ p) (h1 : p ≤ 1000) (t : ByteArray) (ht : t.size ≤ 30000) : ∃ r q, Ev (fun k => V3.f k s p t) (r, q) ∧ r.size ≤ 70000 := by
 have w : wrap64 ((t.size : Int) + 1) = (t.size : Int) + 1 := by unfold wrap64; omega
 obtain ⟨x, hx, x0, x1⟩ := a68 hs h0 (by omega) (n := (t.size : Int) + 1) (by omega)
 obtain ⟨i, rfl⟩ := Int.eq_ofNat_of_zero_le x0
 obtain ⟨c, hc, _⟩ := a68 hs (p := p + 1) (by omega) (by omega) (n := 5) (by omega)
 have w2 : wrap64 ((i : Int) + 1) = ((i + 1 : Nat) : Int) := by unfold wrap64; omega
 have cut : ∀ a b, (t.extract a b).size ≤ 30000 := fun a b => by rw [ByteArray.size_extract]; omega
 unfold V3.f
 simp only [w]
 by_cases c0 : c = 0
 ·by_cases q : (i : Int) < (t.size : Int)
  ·obtain ⟨v, hv, mv⟩ := bP5 hs (p := p + 1 + 1) (by omega) (by omega) [(⟨#[46]⟩ : ByteArray), (⟨#[13]⟩ : ByteArray), (⟨#[10]⟩ : ByteArray), (⟨#[60]⟩ : ByteArray), (⟨#[62]⟩ : ByteArray), (⟨#[48]⟩ : ByteArray), (⟨#[32]⟩ : ByteArray), (⟨#[64]⟩ : ByteArray)] (by decide)
   have sv : v.size ≤ 40 := aV7 mv (by decide)
   have e1 := cut 0 (i : Int).toNat
   have e2 := cut ((i + 1 : Nat) : Int).toNat t.size
   refine ⟨_, _, Ev.bind hx (Ev.bind hc (Ev.congr (f := fun k => (Q9.f k s (p + 1 + 1) [(⟨#[46]⟩ : ByteArray), (⟨#[13]⟩ : ByteArray), (⟨#[10]⟩ : ByteArray), (⟨#[60]⟩ : ByteArray), (⟨#[62]⟩ : ByteArray), (⟨#[48]⟩ : ByteArray), (⟨#[32]⟩ : ByteArray), (⟨#[64]⟩ : ByteArray)]).bind fun b => if (t.extract 0 (i : Int).toNat).size + b.1.size ≤ 9223372036854775807 then if 0 ≤ ((i + 1 : Nat) : Int) then if ((i + 1 : Nat) : Int) ≤ (t.size : Int) then if ((t.extract 0 (i : Int).toNat) ++ b.1).size + (t.extract ((i + 1 : Nat) : Int).toNat t.size).size ≤ 9223372036854775807 then some (((t.extract 0 (i : Int).toNat) ++ b.1) ++ (t.extract ((i + 1 : Nat) : Int).toNat t.size), b.2) else none else none else none else none) (fun k => by dsimp only; rw [if_pos c0, if_pos q, if_pos x0, if_pos (by omega), w2]) (Ev.bind hv (Ev.congr (fun k => by dsimp only; rw [if_pos (by omega), if_pos (by omega), if_pos (by omega), if_pos (by rw [ByteArray.size_append]; omega)]) (Ev.now _))))), ?_⟩
   rw [ByteArray.size_append, ByteArray.size_append]
   omega
  ·exact ⟨t, p + 1 + 1, Ev.bind hx (Ev.bind hc (Ev.congr (f := fun _ => some (t, p + 1 + 1)) (fun k => by dsimp only; rw [if_pos c0, if_neg q]) (Ev.now _))), by omega⟩
 by_cases c1 : c = 1
 ·exact ⟨t.extract 0 (i : Int).toNat, p + 1 + 1, Ev.bind hx (Ev.bind hc (Ev.congr (f := fun _ => some (t.extract 0 (i : Int).toNat, p + 1 + 1)) (fun k => by dsimp only; rw [if_neg c0, if_pos c1, if_pos x0, if_pos (by omega)]) (Ev.now _))), by have := cut 0 (i : Int).toNat; omega⟩
 by_cases c2 : c = 2
 ·obtain ⟨v, hv, mv⟩ := bP5 hs (p := p + 1 + 1) (by omega) (by omega) [(⟨#[46]⟩ : ByteArray), (⟨#[13, 10]⟩ : ByteArray), (⟨#[32]⟩ : ByteArray), (⟨#[46, 13, 10]⟩ : ByteArray)] (by decide)
  have sv : v.size ≤ 40 := aV7 mv (by decide)
  refine ⟨_, _, Ev.bind hx (Ev.bind hc (Ev.congr (f := fun k => (Q9.f k s (p + 1 + 1) [(⟨#[46]⟩ : ByteArray), (⟨#[13, 10]⟩ : ByteArray), (⟨#[32]⟩ : ByteArray), (⟨#[46, 13, 10]⟩ : ByteArray)]).bind fun b => if t.size + b.1.size ≤ 9223372036854775807 then some (t ++ b.1, b.2) else none) (fun k => by dsimp only; rw [if_neg c0, if_neg c1, if_pos c2]) (Ev.bind hv (Ev.congr (fun k => by dsimp only; rw [if_pos (by omega)]) (Ev.now _))))), ?_⟩
  rw [ByteArray.size_append]
  omega
 ·exact ⟨t, p + 1 + 1, Ev.bind hx (Ev.bind hc (Ev.congr (f := fun _ => some (t, p + 1 + 1)) (fun k => by dsimp only; rw [if_neg c0, if_neg c1, if_neg c2]) (Ev.now _))), by omega⟩
theorem db8 (l : List Int) (hl : ∀ x ∈ l, 0 ≤ x ∧ x ≤ 255) : ∃ t, Ev (fun k => a77.f k l) t ∧ t.size ≤ 70000 := by
 obtain ⟨s, ho, hs⟩ := da4 l hl
 obtain ⟨a, sp, q, hsp, ok, q0, q1⟩ := cL2 hs
 obtain ⟨kind, id, au, ad, now, u, d, ts, body, q', hn, hd, z0, z1⟩ := da5 hs q0 q1 a ok
 obtain ⟨sh, sau, sad⟩ := hd.small
 have hp := bt1 kind id au ad now u d ts body sh sau sad
 have hps := ca7 kind id au ad now u d ts body
 generalize bK3 kind id au ad now u d ts body = t at hp hps
 obtain ⟨v, hv, _⟩ := a68 hs (p := q') (by omega) (by omega) (n := 2) (by omega)
 unfold a77.f
 simp only [ho, Option.bind_some]
 by_cases c : v = 0
 ·exact ⟨t, Ev.bind hsp (Ev.bind hn (Ev.bind hp (Ev.bind hv (Ev.congr (f := fun _ => some t) (fun k => if_pos c) (Ev.now _))))), by omega⟩
 ·obtain ⟨r, q2, hr, hrs⟩ := db7 hs (p := q' + 1) (by omega) (by omega) t hps
  exact ⟨r, Ev.bind hsp (Ev.bind hn (Ev.bind hp (Ev.bind hv (Ev.congr (fun k => if_neg c) (Ev.bind hr (Ev.now _)))))), hrs⟩
theorem dD8 (s : ByteArray) (hs : s.size ≤ 536870912) : ∃ kind id au ad now u d ts body ok, Ev (fun k => C3.f k s) (kind, id, au, ad, now, u, d, ts, body, ok) ∧ Ev (fun k => a88.f k s) (kind, id, au, ad, now, u, d, ts, body, ok) ∧ ts.length ≤ 4 ∧ body.length ≤ 12 ∧ (ok = true → ap4 kind id au ad now u d ts body = true ∧ B (aj8 kind id au ad now u d ts body) = s) := by
 obtain ⟨r, hi, hsp, e21⟩ := cS7 s hs
 have e := Ev.one hi (bg4 s)
 obtain ⟨kind, id, au, ad, now, u, d, ts, body, ok⟩ := r
 refine ⟨kind, id, au, ad, now, u, d, ts, body, ok, hi, hsp, e21.1, e21.2, fun hok => ?_⟩
 subst hok
 split at e
 ·simp [az0] at e
 ·generalize b29 s.data.toList = n at e
  obtain ⟨kind', id', au', ad', now', u', d', ts', body'⟩ := n
  have e' : (kind, id, au, ad, now, u, d, ts, body, true) = by9 s.data.toList kind' id' au' ad' now' u' d' ts' body' := e
  unfold by9 at e'
  split at e'
  ·rename_i ho
   simp only [Prod.mk.injEq] at e'
   obtain ⟨rfl, rfl, rfl, rfl, rfl, rfl, rfl, rfl, rfl, _⟩ := e'
   obtain ⟨hb, ht⟩ := bv5 (l := s.data.toList) ho
   exact ⟨hb, by rw [ht, aW5]⟩
  ·simp [az0] at e'
theorem db9 (l : List Int) (hl : ∀ x ∈ l, 0 ≤ x ∧ x ≤ 255) : Ev (fun k => S9.f k l) true := by
 by_cases h8 : (l.length : Int) > 1048576
 ·exact Ev.congr (f := fun _ => some true) (fun k => if_pos h8) (Ev.now _)
 obtain ⟨t, ht, hts⟩ := db8 l hl
 obtain ⟨kind, id, au, ad, now, u, d, ts, body, ok, hi, hsp, h4, h12, hok⟩ := dD8 t (by omega)
 have hsa := bX3 kind id au ad now u d ts body (by omega) (by omega)
 refine Ev.congr (fun k => if_neg h8) (Ev.bind ht (Ev.bind hi (Ev.bind hsp ?_)))
 refine Ev.congr (fun k => if_neg (by simp)) (Ev.call hsa (fun k => if_pos rfl) ?_)
 cases ok with
 | false =>
  exact Ev.step (f := fun k => (aa2.f k kind id au ad now u d ts body kind id au ad now u d ts body).bind fun t => some t) (fun k => by rw [S9.j0]; exact (if_pos rfl).trans (if_pos rfl)) (Ev.bind hsa (Ev.now _))
 | true =>
  obtain ⟨hb, hT⟩ := hok rfl
  obtain ⟨⟨sh, sau, sad⟩, _⟩ := ca6 hb
  have hp := aX0 kind id au ad now u d ts body sh sau sad
  have hn := aW7 kind id au ad now u d ts body sh sad
  unfold bK3 at hp
  rw [if_pos hb, hT] at hp
  rw [hb] at hn
  refine Ev.step (f := fun k => (M6.f k kind id au ad now u d ts body).bind fun x => if x.toList = t.toList then (K8.f k kind id au ad now u d ts body).bind fun y => some y else some false) (fun k => by rw [S9.j0]; exact if_neg (by simp)) ?_
  exact Ev.call hp (fun k => if_pos rfl) (Ev.bind hn (Ev.now _))
end Go.Proofs.YtbncnjgflhoneaaGreatDoor.Hand
