/- Of this claim, merged by program: F41, Q9, F127. -/
import Derived.Test.YtbncnjgflhoneaaGreatDoorN02
import Derived.Test.YtbncnjgflhoneaaGreatDoorN03
import Derived.Test.YtbncnjgflhoneaaGreatDoorN14
import Derived.Test.YtbncnjgflhoneaaGreatDoorN15
import Derived.Test.YtbncnjgflhoneaaGreatDoorN16
set_option linter.unusedVariables false
set_option linter.unusedSimpArgs false
namespace Go.Proofs.YtbncnjgflhoneaaGreatDoor.F
open Go.RowKit Go.Proofs.YtbncnjgflhoneaaGreatDoor.Hand Go.Proofs.YtbncnjgflhoneaaGreatDoorW.l8 Go.Proofs.YtbncnjgflhoneaaGreatDoorW.s9 Go.Proofs.YtbncnjgflhoneaaGreatDoorW.y9
def L5.l0 : Nat → ByteArray → ByteArray → List ByteArray → Int → Int → ByteArray → ByteArray → List (G6) → Option (ByteArray × ByteArray × (List (G6)) × List ByteArray × Bool)
 | 0, _, _, _, _, _, _, _, _ => none
 | k + 1, x0, x5, x29, x30, x31, bK9, bL0, ba0 => if x31 < x30 then (if 0 ≤ x31 then (if x31 < (x29.length : Int) then ((strings_Cut.f (H9 ByteArray.empty x29 x31) (⟨#[32]⟩ : ByteArray)).bind fun bO5 => ((S8.f k bO5.2.1).bind fun aK3 => (if aK3.2.2 = true then (if x31 = 0 then (L5.l0 k x0 x5 x29 x30 (wrap64 (x31 + 1)) aK3.1 aK3.2.1 ba0) else (if ba0.length < 4398046511104 then (L5.l0 k x0 x5 x29 x30 (wrap64 (x31 + 1)) bK9 bL0 (ba0 ++ [(⟨aK3.1, aK3.2.1⟩ : G6)])) else (none))) else (some ((⟨#[]⟩ : ByteArray), (⟨#[]⟩ : ByteArray), ([] : List (G6)), ([] : List ByteArray), false))))) else (none)) else (none)) else ((O3.f k x5).bind fun bu2 => (if bu2.2 = true then ((L0.f k bK9 bL0 ba0 bu2.1).bind fun t124 => (if t124.toList = x0.toList then (some (bK9, bL0, ba0, bu2.1, true)) else (some ((⟨#[]⟩ : ByteArray), (⟨#[]⟩ : ByteArray), ([] : List (G6)), ([] : List ByteArray), false)))) else (some ((⟨#[]⟩ : ByteArray), (⟨#[]⟩ : ByteArray), ([] : List (G6)), ([] : List ByteArray), false))))
def L5.f (k : Nat) (a0 : ByteArray) : Option (ByteArray × ByteArray × (List (G6)) × List ByteArray × Bool) := if (a0.size : Int) > 800 then (some ((⟨#[]⟩ : ByteArray), (⟨#[]⟩ : ByteArray), ([] : List (G6)), ([] : List ByteArray), false)) else ((strings_Cut.f a0 (⟨#[13, 10, 13, 10]⟩ : ByteArray)).bind fun D9 => (if D9.2.2 = true then ((strings_Split.f D9.1 (⟨#[13, 10]⟩ : ByteArray)).bind fun t106 => (L5.l0 k a0 D9.2.1 t106 (t106.length : Int) 0 (⟨#[]⟩ : ByteArray) (⟨#[]⟩ : ByteArray) ([] : List (G6)))) else (some ((⟨#[]⟩ : ByteArray), (⟨#[]⟩ : ByteArray), ([] : List (G6)), ([] : List ByteArray), false))))
set_option maxHeartbeats 8000000 in
set_option maxRecDepth 100000 in
theorem L5.calls (k : Nat) (a0 : ByteArray) (r1 : ByteArray) (r2 : ByteArray) (r3 : List (G6)) (r4 : List ByteArray) (r5 : Bool) (w : World) (hG : Laid w) (h : L5.f k a0 = some (r1, r2, r3, r4, r5)) :
  Calls Tryz.prog 41 #[.string a0] w fun e w' => ∃ v2_ v3_ : Value, e = .returned (.tuple #[.agg #[.string r1, .string r2, v2_, v3_], .bool r5]) ∧ Kd.R k32 32 w' w.heap.size (fun _ => True) v2_ r3 ∧ Kd.R Kd.string 9 w' w.heap.size (fun _ => True) v3_ r4 ∧ Below w.heap.size w w' := by
 have aV0 := Tryz.underlying35
 have as2 := Tryz.underlying32
 have HG := j4.mk hG
 clear hG
 have HB := j4.mk (Below.refl w.heap.size w)
 have H := h
 clear h
 unfold L5.f at H
 replace H := a29 H; rcases H with ⟨c2, ak5, H⟩ | ⟨c2, ak5, H⟩
 ·have aJ6 : decide (800 < a0.size) = true := decide_eq_true (by omega)
  clear c2
  simp only [Option.some.injEq, Prod.mk.injEq] at H
  obtain ⟨rfl, rfl, rfl, rfl, rfl⟩ := H
  go_enter Tryz.func41, Tryz.ntmps41
  go_wp2_with (first | ((with_reducible refine l9 (N := 2) rfl ?_); refine bx (cs := #[.string ⟨#[]⟩, .string ⟨#[]⟩, .slice none 0 0, .slice none 0 0]) (t := 35) ?_; intro j8 hg w3 o8 hb; have j5 := j4.mk (o8); have L8 := gS hg; have J7 := gS hg; replace HB := bS hb; clear hb o8 hg; have bY8 := cz4 j5.out; have bY9 := fz4 j5.out))
  refine bodyPost_ret (I2 rfl _ _ j8 35 #[.string (⟨#[]⟩ : ByteArray), .string (⟨#[]⟩ : ByteArray), .slice none 0 0, .slice none 0 0] (0, 0) _ rfl (kQ j5) Tryz.underlying35 rfl z2_) rfl ?_
  exact ⟨_, _, zr, zn, zn, zB⟩
 ·have aJ6 : decide (800 < a0.size) = false := decide_eq_false (by omega)
  clear c2
  replace H := S2 H; obtain ⟨⟨t102, t103, t104⟩, A5, H⟩ := H
  dsimp only at H
  replace H := itb H; rcases H with ⟨rfl, H⟩ | ⟨rfl, H⟩
  ·replace H := S2 H; obtain ⟨t106, A7, H⟩ := H
   have H' := j4.mk H
   clear H
   go_enter Tryz.func41, Tryz.ntmps41
   go_wp2_with (first | ((with_reducible refine l9 (N := 2) rfl ?_); refine bx (cs := #[.string ⟨#[]⟩, .string ⟨#[]⟩, .slice none 0 0, .slice none 0 0]) (t := 35) ?_; intro j8 hg w8 o8 hb; have j5 := j4.mk (o8); have L8 := gS hg; have J7 := gS hg; replace HB := bS hb; clear hb o8 hg) | ((with_reducible refine j6 (f := 39) rfl ?_); refine gv 21 Tryz.func39 _ (strings_Cut.calls (w := _) (hG := gB) (h := A5.out)) ?_; rintro w' ⟨nd, rfl⟩) | ((with_reducible refine l9 (N := 7) rfl ?_); refine bx (cs := #[.string ⟨#[]⟩, .string ⟨#[]⟩, .slice none 0 0, .slice none 0 0]) (t := 35) ?_; intro b26 hg w9 o8 hb; have M0 := j4.mk (o8); have dT2 := gS hg; have dT3 := gS hg; have av4 := nS hg j5; have av5 := nG hg j5; replace j5 := kS j5 hb; replace HB := bS hb; clear hb o8 hg) | ((with_reducible refine j6 (f := 42) rfl ?_); refine gl 29 Tryz.func42 _ ((strings_Split.calls (w := _) (hG := gB) (h := A7.out)).mono ?_); rintro e w10 ⟨v107, rfl, ho0, hb⟩; refine ⟨_, rfl, ?_⟩; have P7 := lS ho0; replace j5 := kS j5 hb; replace M0 := kS M0 hb; replace HB := bS hb; clear hb ho0; obtain ⟨b70, aK6, bp5⟩ := Kd.s7 P7.out; subst bp5))
   go_loopg [31] k (fun kq v31 w' => ∃ (aM0 : Int) (a38 : ByteArray) (a39 : ByteArray) (ai9 : ByteArray) (aj0 : ByteArray) (ab1 : List (G6)) (at5 : Value), v31 = .int .i64 aM0 ∧ j4 (L5.l0 kq a0 t103 t106 (t106.length : Int) aM0 ai9 aj0 ab1 = some (r1, r2, r3, r4, r5)) ∧ j4 (kq ≤ k) ∧ j4 (Kd.R Kd.string 9 w' w.heap.size (fun _ => True) (.slice b70 t106.length aK6) t106) ∧ j4 (Kd.R k32 32 w' w.heap.size (fun _ => True) at5 ab1) ∧ j4 (w'.heap[j8]? = some (.cells #[.string a38, .string a39, (.slice none 0 0), (.slice none 0 0)] 35 (0, 0))) ∧ j4 (w'.heap[b26]? = some (.cells #[.string ai9, .string aj0, at5, (.slice none 0 0)] 35 (0, 0))) ∧ j4 (Below w.heap.size w w'))
   case atStart => exact ⟨(0), ((⟨#[]⟩ : ByteArray)), ((⟨#[]⟩ : ByteArray)), ((⟨#[]⟩ : ByteArray)), ((⟨#[]⟩ : ByteArray)), (([] : List (G6))), (.slice none 0 0), zs, H', ⟨Nat.le_refl _⟩, ⟨rO P7⟩, ⟨zn⟩, ⟨kQ j5⟩, ⟨kQ M0⟩, ⟨zB⟩⟩
   case round =>
    clear H'
    obtain ⟨aM0, a38, a39, ai9, aj0, ab1, at5, rfl, HA, HK1, a23, G7, j5, M0, HB⟩ := hrel
    cases gk with
    | zero => exact absurd HA.out (by simp [L5.l0])
    | succ k1 =>
     have H := HA.out
     clear HA
     simp only [L5.l0] at H
     replace H := K2 H; rcases H with ⟨ax7, H⟩ | ⟨ax7, H⟩
     ·replace H := S1 H; obtain ⟨al5, H⟩ := H
      replace H := S1 H; obtain ⟨aL5, H⟩ := H
      replace H := S2 H; obtain ⟨⟨t110, t111, t112⟩, A15, H⟩ := H
      dsimp only at H
      replace H := S2 H; obtain ⟨⟨t113, t114, t115⟩, A16, H⟩ := H
      dsimp only at H
      replace H := itb H; rcases H with ⟨rfl, H⟩ | ⟨rfl, H⟩
      ·replace H := F6 H; rcases H with ⟨be7, bs7, H⟩ | ⟨be7, bs7, H⟩
       ·have H' := j4.mk H
        clear H
        have bu3 : 0 ≤ (aM0 : Int) := of_decide_eq_true za
        have bu4 : aM0 < (t106.length : Int) := of_decide_eq_true za
        obtain ⟨bV3, cQ2, cr0⟩ := Kd.E5 (Kd.y7 a23.out).2.2 aM0 bu3 bu4
        cases cQ2
        replace bu3 := eq_true bu3
        replace bu4 := eq_true bu4
        go_wp2_with (first | ((with_reducible refine j6 (f := 39) rfl ?_); refine gv 38 Tryz.func39 _ (strings_Cut.calls (w := _) (hG := gB) (h := A15.out)) ?_; rintro w' ⟨nd, rfl⟩; (try (rw [X9 wr]; generalize hq_ : World.drewN wr _ = wr; have P5 : j4 (Kd.R k32 32 wr w.heap.size (fun _ => True) at5 ab1) := ⟨by rw [← hq_]; exact (rO G7)⟩; have P6 : j4 (Kd.R Kd.string 9 wr w.heap.size (fun _ => True) (.slice (some bV3) t106.length aK6) t106) := ⟨by rw [← hq_]; exact (rO a23)⟩; have n2_ : j4 (wr.heap[j8]? = some (.cells #[.string a38, .string a39, .slice none 0 0, .slice none 0 0] 35 (0, 0))) := ⟨by rw [← hq_]; exact (kQ j5)⟩; have n3_ : j4 (wr.heap[b26]? = some (.cells #[.string ai9, .string aj0, at5, .slice none 0 0] 35 (0, 0))) := ⟨by rw [← hq_]; exact (kQ M0)⟩; have n4_ : j4 (Below w.heap.size w wr) := ⟨by rw [← hq_]; exact zB⟩; clear G7 a23 j5 M0 HB hq_; have G7 := P5; have a23 := P6; have j5 := n2_; have M0 := n3_; have HB := n4_; clear P5 P6 n2_ n3_ n4_))) | ((with_reducible refine j6 (f := 43) rfl ?_); refine gv 44 Tryz.func43 _ (S8.calls (w := _) (hG := gB) (h := A16.out)) ?_; intro w19 hb; replace a23 := rS a23 hb; replace G7 := rS G7 hb; replace j5 := kS j5 hb; replace M0 := kS M0 hb; replace HB := bS hb; clear hb) | ((with_reducible refine l9 (N := 13) rfl ?_); refine bx (cs := #[.string ⟨#[]⟩, .string ⟨#[]⟩]) (t := 32) ?_; intro av6 hg w20 o8 hb; replace a23 := rS a23 hb; replace G7 := j4.mk (Kd.am5 (Kd.as4 (rO G7) av6 (Nat.le_of_eq hg.symm)) hb); have V6 := j4.mk (o8); have cQ3 := gS hg; have cQ4 := gS hg; have aO8 := nS hg j5; have aO9 := nG hg j5; replace j5 := kS j5 hb; have aP0 := nS hg M0; have aP1 := nG hg M0; replace M0 := kS M0 hb; replace HB := bS hb; clear hb o8 hg; have cd2 := aO9.out; have cd3 := aO8.out; have cd4 := aP1.out; have cd5 := aP0.out; have bO9 := cz2 V6.out; have bP0 := fz2 V6.out; have cG0 := av5.out; have cG1 := av4.out; have dm1 := cz4 M0.out; have dm2 := fz4 M0.out))
        go_roundg k1
        case measure => have := HK1.out; omega
        case rel => exact ⟨(wrap64 (aM0 + 1)), (a38), (a39), (t113), (t114), (ab1), (at5), zs, H', ⟨by have := HK1.out; omega⟩, ⟨by (with_reducible repeat (first | apply Kd.N9 | apply Kd.M8 | apply Kd.O0)); exact Kd.E0 (Kd.M9 (p := ⟨b26, 1, none⟩) (Kd.M9 (p := ⟨b26, 0, none⟩) (Kd.M9 (p := ⟨av6, 1, none⟩) (Kd.M9 (p := ⟨av6, 0, none⟩) (Kd.z8 (Kd.z8 a23.out V6.out I1) M0.out I1) (fun _ hk => hk.1.2) (.string t113)) (fun _ hk => hk.1.2) (.string t114)) (fun _ hk => hk.2) (.string t113)) (fun _ hk => hk.2) (.string t114)) (fun _ hk => trivial)⟩, ⟨by (with_reducible repeat (first | apply Kd.N9 | apply Kd.M8 | apply Kd.O0)); exact Kd.E0 (Kd.M9 (p := ⟨b26, 1, none⟩) (Kd.M9 (p := ⟨b26, 0, none⟩) (Kd.M9 (p := ⟨av6, 1, none⟩) (Kd.M9 (p := ⟨av6, 0, none⟩) (Kd.z8 (Kd.E0 G7.out (fun k_ hk => (⟨hk, hk.2⟩ : _ ∧ k_ ≠ av6))) M0.out I1) (fun _ hk => hk.1.2) (.string t113)) (fun _ hk => hk.1.2) (.string t114)) (fun _ hk => hk.2) (.string t113)) (fun _ hk => hk.2) (.string t114)) (fun _ hk => trivial)⟩, ⟨kQ j5⟩, ⟨kQ M0⟩, ⟨zB⟩⟩
       ·replace H := aj5 H; obtain ⟨dV4, H⟩ := H
        first | (with_reducible replace H := bns H; obtain ⟨az3, aW3, H⟩ := H) | (generalize V5 : (ab1 ++ [(⟨t113, t114⟩ : G6)] : List (G6)) = az3 at H; have aW3 := j4.mk V5.symm; clear V5)
        have H' := j4.mk H
        clear H
        have bu3 : 0 ≤ (aM0 : Int) := of_decide_eq_true za
        have bu4 : aM0 < (t106.length : Int) := of_decide_eq_true za
        obtain ⟨bV3, cQ2, cr0⟩ := Kd.E5 (Kd.y7 a23.out).2.2 aM0 bu3 bu4
        cases cQ2
        replace bu3 := eq_true bu3
        replace bu4 := eq_true bu4
        go_wp2_with (first | ((with_reducible refine j6 (f := 39) rfl ?_); refine gv 38 Tryz.func39 _ (strings_Cut.calls (w := _) (hG := gB) (h := A15.out)) ?_; rintro w' ⟨nd, rfl⟩; (try (rw [X9 wr]; generalize hq_ : World.drewN wr _ = wr; have P5 : j4 (Kd.R k32 32 wr w.heap.size (fun _ => True) at5 ab1) := ⟨by rw [← hq_]; exact (rO G7)⟩; have P6 : j4 (Kd.R Kd.string 9 wr w.heap.size (fun _ => True) (.slice (some bV3) t106.length aK6) t106) := ⟨by rw [← hq_]; exact (rO a23)⟩; have n2_ : j4 (wr.heap[j8]? = some (.cells #[.string a38, .string a39, .slice none 0 0, .slice none 0 0] 35 (0, 0))) := ⟨by rw [← hq_]; exact (kQ j5)⟩; have n3_ : j4 (wr.heap[b26]? = some (.cells #[.string ai9, .string aj0, at5, .slice none 0 0] 35 (0, 0))) := ⟨by rw [← hq_]; exact (kQ M0)⟩; have n4_ : j4 (Below w.heap.size w wr) := ⟨by rw [← hq_]; exact zB⟩; clear G7 a23 j5 M0 HB hq_; have G7 := P5; have a23 := P6; have j5 := n2_; have M0 := n3_; have HB := n4_; clear P5 P6 n2_ n3_ n4_))) | ((with_reducible refine j6 (f := 43) rfl ?_); refine gv 44 Tryz.func43 _ (S8.calls (w := _) (hG := gB) (h := A16.out)) ?_; intro w27 hb; replace a23 := rS a23 hb; replace G7 := rS G7 hb; replace j5 := kS j5 hb; replace M0 := kS M0 hb; replace HB := bS hb; clear hb) | ((with_reducible refine l9 (N := 13) rfl ?_); refine bx (cs := #[.string ⟨#[]⟩, .string ⟨#[]⟩]) (t := 32) ?_; intro av6 hg w28 o8 hb; replace a23 := rS a23 hb; replace G7 := j4.mk (Kd.am5 (Kd.as4 (rO G7) av6 (Nat.le_of_eq hg.symm)) hb); have V6 := j4.mk (o8); have cQ3 := gS hg; have cQ4 := gS hg; have aO8 := nS hg j5; have aO9 := nG hg j5; replace j5 := kS j5 hb; have aP0 := nS hg M0; have aP1 := nG hg M0; replace M0 := kS M0 hb; replace HB := bS hb; clear hb o8 hg; have bB4 := aO9.out; have bB5 := aO8.out; have bp6 := aP1.out; have bp7 := aP0.out; have bR6 := cz2 V6.out; have bR7 := fz2 V6.out; have bP1 := av5.out; have bP2 := av4.out; have bT7 := cz4 M0.out; have bT8 := fz4 M0.out) | ((with_reducible refine N8 (b := .append) (xs := #[.tmp 48, .tmp 50]) rfl ?_); at_builtin; refine Kd.a89 k32 (w0 := w) w.heap.size rfl (.tmp 48) (.tmp 50) 33 32 (.agg #[(.string ⟨#[]⟩), (.string ⟨#[]⟩)]) 32 rfl Tryz.underlying33 bo4 rfl I1 (by omega) at5 ab1 (⟨t113, t114⟩ : G6) [.string t113, .string t114] (fun k_ => k_ ≠ av6) (fun _ => False) rfl (by first | (go_simp; done) | (go_simp; rfl)) ?aP (fun _ hk => hk.elim) ?aF ?aO ?aB ?aS ?aL ?_; (case aP => exact aQ2 _ _ _ (⟨t113, t114⟩ : G6)); (case aB => exact zB); (case aF => exact (fun k_ hk => (kG V6) k_ hk)); (case aO => exact (by (with_reducible repeat (first | apply Kd.N9 | apply Kd.M8 | apply Kd.O0)); exact Kd.E0 (Kd.M9 (p := ⟨av6, 1, none⟩) (Kd.M9 (p := ⟨av6, 0, none⟩) (Kd.E0 G7.out (fun k_ hk => (⟨hk, hk.2⟩ : _ ∧ k_ ≠ av6))) (fun _ hk => hk.2) (.string t113)) (fun _ hk => hk.2) (.string t114)) (fun _ hk => hk.1.2))); (case aS => exact (bZ)); (case aL => have := dV4.out; omega); intro eK2 w34 ho hb hg hat; rw [← aW3.out] at ho; have P5 := j4.mk (Kd.X4 (fO a23 V6) (Kd.a44 (by (with_reducible repeat (first | apply Kd.N9 | apply Kd.M8 | apply Kd.O0)); exact (Kd.E0 (Kd.M9 (p := ⟨av6, 1, none⟩) (Kd.M9 (p := ⟨av6, 0, none⟩) (Kd.E0 G7.out (fun k_ hk => (⟨hk, hk.2⟩ : _ ∧ k_ ≠ av6))) (fun _ hk => hk.2) (.string t113)) (fun _ hk => hk.2) (.string t114)) (fun _ h_ => h_.1)))) I1 hg); have P6 := j4.mk (I4 (g := j8) (o := .cells #[.string a38, .string a39, .slice none 0 0, .slice none 0 0] 35 (0, 0)) (kQ j5) hg (Kd.U6 G7.out j5.out I1)); have n2_ := j4.mk (I4 (g := b26) (o := .cells #[.string ai9, .string aj0, at5, .slice none 0 0] 35 (0, 0)) (kQ M0) hg (Kd.U6 G7.out M0.out I1)); have n3_ := j4.mk (I4 (g := av6) (o := .cells #[.string t113, .string t114] 32 (0, 0)) (kQ V6) hg (Kd.bm8 G7.out (fun _ hk => hk.2))); have n4_ := j4.mk (hb); have n5_ := j4.mk (ho); clear a23 j5 M0 V6 HB G7; have a23 := P5; have j5 := P6; have M0 := n2_; have V6 := n3_; have HB := n4_; have dn6 := n5_; clear P5 P6 n2_ n3_ n4_ n5_ ho hb hg hat; obtain ⟨dM6, cu6, du7⟩ := Kd.s7 dn6.out; subst du7; have cP0 := cz4 M0.out; have cP1 := fz4 M0.out))
        go_roundg k1
        case measure => have := HK1.out; omega
        case rel => exact ⟨(wrap64 (aM0 + 1)), (a38), (a39), (ai9), (aj0), (az3), (.slice dM6 az3.length cu6), zs, H', ⟨by have := HK1.out; omega⟩, ⟨fM a23 M0 (fun _ hk => trivial)⟩, ⟨fM dn6 M0 (fun _ hk => trivial)⟩, ⟨kQ j5⟩, ⟨kQ M0⟩, ⟨zB⟩⟩
      ·simp only [Option.some.injEq, Prod.mk.injEq] at H
       obtain ⟨rfl, rfl, rfl, rfl, rfl⟩ := H
       have bu3 : 0 ≤ (aM0 : Int) := of_decide_eq_true za
       have bu4 : aM0 < (t106.length : Int) := of_decide_eq_true za
       obtain ⟨bV3, cQ2, cr0⟩ := Kd.E5 (Kd.y7 a23.out).2.2 aM0 bu3 bu4
       cases cQ2
       replace bu3 := eq_true bu3
       replace bu4 := eq_true bu4
       go_wp2_with (first | ((with_reducible refine j6 (f := 39) rfl ?_); refine gv 38 Tryz.func39 _ (strings_Cut.calls (w := _) (hG := gB) (h := A15.out)) ?_; rintro w' ⟨nd, rfl⟩; (try (rw [X9 wr]; generalize hq_ : World.drewN wr _ = wr; have P5 : j4 (Kd.R k32 32 wr w.heap.size (fun _ => True) at5 ab1) := ⟨by rw [← hq_]; exact (rO G7)⟩; have P6 : j4 (Kd.R Kd.string 9 wr w.heap.size (fun _ => True) (.slice (some bV3) t106.length aK6) t106) := ⟨by rw [← hq_]; exact (rO a23)⟩; have n2_ : j4 (wr.heap[j8]? = some (.cells #[.string a38, .string a39, .slice none 0 0, .slice none 0 0] 35 (0, 0))) := ⟨by rw [← hq_]; exact (kQ j5)⟩; have n3_ : j4 (wr.heap[b26]? = some (.cells #[.string ai9, .string aj0, at5, .slice none 0 0] 35 (0, 0))) := ⟨by rw [← hq_]; exact (kQ M0)⟩; have n4_ : j4 (Below w.heap.size w wr) := ⟨by rw [← hq_]; exact zB⟩; clear G7 a23 j5 M0 HB hq_; have G7 := P5; have a23 := P6; have j5 := n2_; have M0 := n3_; have HB := n4_; clear P5 P6 n2_ n3_ n4_))) | ((with_reducible refine j6 (f := 43) rfl ?_); refine gv 44 Tryz.func43 _ (S8.calls (w := _) (hG := gB) (h := A16.out)) ?_; intro w37 hb; replace a23 := rS a23 hb; replace G7 := rS G7 hb; replace j5 := kS j5 hb; replace M0 := kS M0 hb; replace HB := bS hb; clear hb) | ((with_reducible refine l9 (N := 13) rfl ?_); refine bx (cs := #[.string ⟨#[]⟩, .string ⟨#[]⟩]) (t := 32) ?_; intro av6 hg w38 o8 hb; replace a23 := rS a23 hb; replace G7 := j4.mk (Kd.am5 (Kd.as4 (rO G7) av6 (Nat.le_of_eq hg.symm)) hb); have V6 := j4.mk (o8); have cQ3 := gS hg; have cQ4 := gS hg; have aO8 := nS hg j5; have aO9 := nG hg j5; replace j5 := kS j5 hb; have aP0 := nS hg M0; have aP1 := nG hg M0; replace M0 := kS M0 hb; replace HB := bS hb; clear hb o8 hg; have cG7 := aO9.out; have cG8 := aO8.out; have dV5 := aP1.out; have dV6 := aP0.out; have cq6 := cz2 V6.out; have cq7 := fz2 V6.out; have bP3 := av4.out; have bP4 := av5.out; have bQ1 := cz4 j5.out; have bQ2 := fz4 j5.out))
       refine bodyPost_ret (I2 rfl _ _ j8 35 #[.string (⟨#[]⟩ : ByteArray), .string (⟨#[]⟩ : ByteArray), .slice none 0 0, .slice none 0 0] (0, 0) _ rfl (kQ j5) Tryz.underlying35 rfl z2_) rfl ?_
       exact ⟨_, _, zr, zn, zn, zB⟩
     ·replace H := S2 H; obtain ⟨⟨t120, t121⟩, A44, H⟩ := H
      dsimp only at H
      replace H := itb H; rcases H with ⟨rfl, H⟩ | ⟨rfl, H⟩
      ·replace H := S2 H; obtain ⟨t124, A46, H⟩ := H
       replace H := F6 H; rcases H with ⟨cp8, cp9, H⟩ | ⟨cp8, cp9, H⟩
       ·simp only [Option.some.injEq, Prod.mk.injEq] at H
        obtain ⟨rfl, rfl, rfl, rfl, rfl⟩ := H
        go_wp2_with (first | ((with_reducible refine j6 (f := 78) rfl ?_); refine gl 65 Tryz.func78 _ ((O3.calls (w := _) (hG := gB) (h := A44.out)).mono ?_); rintro e w48 ⟨aK0, rfl, ho0, hb⟩; refine ⟨_, rfl, ?_⟩; replace G7 := rS G7 hb; have V8 := j4.mk (Kd.T9 (Kd.as0 ho0 (Kd.aa3 (rO a23))) (bZ)); replace a23 := j4.mk (Kd.ab6 (rO a23) (Kd.J6 ho0) hb); replace j5 := kS j5 hb; replace M0 := kS M0 hb; replace HB := bS hb; clear hb ho0; obtain ⟨aE6, aE7, ds7⟩ := Kd.s7 V8.out; subst ds7; have dM9 := av5.out; have dN0 := av4.out; have dg6 := cz4 M0.out; have dg7 := fz4 M0.out; obtain ⟨dV7, dA3, ei5⟩ := Kd.s7 G7.out; subst ei5) | (go_at_call 28; refine (L0.calls (w := _) (hG := gB) (a90 := by refine (Kd.y7 (e := 32) (base := w.heap.size) (ok := fun k_ => True) (n := ab1.length) (c := dA3) ?_).2.2; exact (fO G7 M0)) (aj7 := cL G7) (a09 := (Kd.y7 (fO V8 M0)).2.2) (a10 := cL V8) (h := A46.out)).mono ?_; rintro e w53 ⟨rfl, hb⟩; replace a23 := fS a23 M0 hb; replace G7 := fS G7 M0 hb; replace V8 := fS V8 M0 hb; replace j5 := kS j5 hb; replace M0 := kP (.cells #[.string ai9, .string aj0, .slice dV7 ab1.length dA3, .slice aE6 t120.length aE7] 35 (0, 0)) M0 hb; replace HB := bS hb; clear hb; have cE6 := cz4 M0.out; have cE7 := fz4 M0.out; have dh1 := cz4 j5.out; have dh2 := fz4 j5.out))
        refine bodyPost_ret (I2 rfl _ _ j8 35 #[.string ai9, .string aj0, .slice dV7 ab1.length dA3, .slice aE6 t120.length aE7] (0, 0) _ rfl (kQ j5) Tryz.underlying35 rfl z2_) rfl ?_
        exact ⟨_, _, zr, fM G7 j5 (fun _ hk => trivial), fM V8 j5 (fun _ hk => trivial), zB⟩
       ·simp only [Option.some.injEq, Prod.mk.injEq] at H
        obtain ⟨rfl, rfl, rfl, rfl, rfl⟩ := H
        go_wp2_with (first | ((with_reducible refine j6 (f := 78) rfl ?_); refine gl 65 Tryz.func78 _ ((O3.calls (w := _) (hG := gB) (h := A44.out)).mono ?_); rintro e w56 ⟨aK0, rfl, ho0, hb⟩; refine ⟨_, rfl, ?_⟩; replace G7 := rS G7 hb; have V8 := j4.mk (Kd.T9 (Kd.as0 ho0 (Kd.aa3 (rO a23))) (bZ)); replace a23 := j4.mk (Kd.ab6 (rO a23) (Kd.J6 ho0) hb); replace j5 := kS j5 hb; replace M0 := kS M0 hb; replace HB := bS hb; clear hb ho0; obtain ⟨cK6, c36, cK7⟩ := Kd.s7 V8.out; subst cK7; have cE9 := av5.out; have cF0 := av4.out; have bQ3 := cz4 M0.out; have bQ4 := fz4 M0.out; obtain ⟨d06, cQ5, cQ6⟩ := Kd.s7 G7.out; subst cQ6) | (go_at_call 28; refine (L0.calls (w := _) (hG := gB) (a90 := by refine (Kd.y7 (e := 32) (base := w.heap.size) (ok := fun k_ => True) (n := ab1.length) (c := cQ5) ?_).2.2; exact (fO G7 M0)) (aj7 := cL G7) (a09 := (Kd.y7 (fO V8 M0)).2.2) (a10 := cL V8) (h := A46.out)).mono ?_; rintro e w61 ⟨rfl, hb⟩; replace a23 := fS a23 M0 hb; replace G7 := fS G7 M0 hb; replace V8 := fS V8 M0 hb; replace j5 := kS j5 hb; replace M0 := kP (.cells #[.string ai9, .string aj0, .slice d06 ab1.length cQ5, .slice cK6 t120.length c36] 35 (0, 0)) M0 hb; replace HB := bS hb; clear hb; have dl1 := cz4 j5.out; have dl2 := fz4 j5.out))
        refine bodyPost_ret (I2 rfl _ _ j8 35 #[.string (⟨#[]⟩ : ByteArray), .string (⟨#[]⟩ : ByteArray), .slice none 0 0, .slice none 0 0] (0, 0) _ rfl (kQ j5) Tryz.underlying35 rfl z2_) rfl ?_
        exact ⟨_, _, zr, zn, zn, zB⟩
      ·simp only [Option.some.injEq, Prod.mk.injEq] at H
       obtain ⟨rfl, rfl, rfl, rfl, rfl⟩ := H
       go_wp2_with (first | ((with_reducible refine j6 (f := 78) rfl ?_); refine gl 65 Tryz.func78 _ ((O3.calls (w := _) (hG := gB) (h := A44.out)).mono ?_); rintro e w63 ⟨aK0, rfl, ho0, hb⟩; refine ⟨_, rfl, ?_⟩; replace G7 := rS G7 hb; have V8 := j4.mk (Kd.T9 (Kd.as0 ho0 (Kd.aa3 (rO a23))) (bZ)); replace a23 := j4.mk (Kd.ab6 (rO a23) (Kd.J6 ho0) hb); replace j5 := kS j5 hb; replace M0 := kS M0 hb; replace HB := bS hb; clear hb ho0; obtain ⟨eK3, eK4, ei6⟩ := Kd.s7 V8.out; subst ei6; have dV8 := av5.out; have dV9 := av4.out; have ew5 := cz4 M0.out; have ew6 := fz4 M0.out; have dj3 := cz4 j5.out; have dj4 := fz4 j5.out))
       refine bodyPost_ret (I2 rfl _ _ j8 35 #[.string (⟨#[]⟩ : ByteArray), .string (⟨#[]⟩ : ByteArray), .slice none 0 0, .slice none 0 0] (0, 0) _ rfl (kQ j5) Tryz.underlying35 rfl z2_) rfl ?_
       exact ⟨_, _, zr, zn, zn, zB⟩
  ·simp only [Option.some.injEq, Prod.mk.injEq] at H
   obtain ⟨rfl, rfl, rfl, rfl, rfl⟩ := H
   go_enter Tryz.func41, Tryz.ntmps41
   go_wp2_with (first | ((with_reducible refine l9 (N := 2) rfl ?_); refine bx (cs := #[.string ⟨#[]⟩, .string ⟨#[]⟩, .slice none 0 0, .slice none 0 0]) (t := 35) ?_; intro j8 hg w68 o8 hb; have j5 := j4.mk (o8); have L8 := gS hg; have J7 := gS hg; replace HB := bS hb; clear hb o8 hg) | ((with_reducible refine j6 (f := 39) rfl ?_); refine gv 21 Tryz.func39 _ (strings_Cut.calls (w := _) (hG := gB) (h := A5.out)) ?_; rintro w' ⟨nd, rfl⟩; (try (rw [X9 w68]; generalize hq_ : World.drewN w68 _ = w68; have P5 : j4 (w68.heap[j8]? = some (.cells #[.string ⟨#[]⟩, .string ⟨#[]⟩, .slice none 0 0, .slice none 0 0] 35 (0, 0))) := ⟨by rw [← hq_]; exact (kQ j5)⟩; have P6 : j4 (Below w.heap.size w w68) := ⟨by rw [← hq_]; exact zB⟩; clear j5 HB hq_; have j5 := P5; have HB := P6; clear P5 P6)); have bS0 := cz4 j5.out; have bS1 := fz4 j5.out))
   refine bodyPost_ret (I2 rfl _ _ j8 35 #[.string (⟨#[]⟩ : ByteArray), .string (⟨#[]⟩ : ByteArray), .slice none 0 0, .slice none 0 0] (0, 0) _ rfl (kQ j5) Tryz.underlying35 rfl z2_) rfl ?_
   exact ⟨_, _, zr, zn, zn, zB⟩
end Go.Proofs.YtbncnjgflhoneaaGreatDoor.F
namespace Go.Proofs.YtbncnjgflhoneaaGreatDoor.Hand
open Go.RowKit Go.Proofs.YtbncnjgflhoneaaGreatDoor.F Go.Proofs.YtbncnjgflhoneaaGreatDoorW.l8 Go.Proofs.YtbncnjgflhoneaaGreatDoorW.s9 Go.Proofs.YtbncnjgflhoneaaGreatDoorW.y9
def pieces (l : List UInt8) : List (List UInt8) := (crlf l).1 ++ [(crlf l).2]
theorem c65 : ∀ (n : Nat) (s : ByteArray), s.size ≤ n → (Lib.splitB (⟨#[13, 10]⟩ : ByteArray) 0 (Lib.countB s (⟨#[13, 10]⟩ : ByteArray)) s).map (·.data.toList) = pieces s.data.toList := by
 intro n
 have h2 : (⟨#[13, 10]⟩ : ByteArray).size = 2 := rfl
 have hd2 : (⟨#[13, 10]⟩ : ByteArray).data.toList = [13, 10] := rfl
 have miss : ∀ s : ByteArray, Lib.indexB s (⟨#[13, 10]⟩ : ByteArray) = -1 → (Lib.splitB (⟨#[13, 10]⟩ : ByteArray) 0 (Lib.countB s (⟨#[13, 10]⟩ : ByteArray)) s).map (·.data.toList) = pieces s.data.toList := fun s h => by
  have hc := (Lib.cutB_miss s _ h).2.2
  rw [hd2] at hc
  rw [Lib.countB_miss _ _ h, Lib.splitB_zero, List.map_singleton]
  unfold pieces
  rw [aX1, if_neg (by rw [hc]; decide)]
  rfl
 induction n with
 | zero =>
  intro s hs
  rcases Lib.indexB_cases s (⟨#[13, 10]⟩ : ByteArray) with h | ⟨i, _, hr⟩
  ·exact miss s h
  ·rw [h2] at hr
   omega
 | succ n ih =>
  intro s hs
  rcases Lib.indexB_cases s (⟨#[13, 10]⟩ : ByteArray) with h | ⟨i, hi, hr⟩
  ·exact miss s h
  ·rw [h2] at hr
   obtain ⟨c1, c2, c3⟩ := Lib.cutB_hit s _ i hi
   rw [hd2] at c1 c2 c3
   have e1 : (s.extract 0 i).data.toList = (Lib.cut s.data.toList [13, 10]).1 := by rw [← c1]
   have e2 : (s.extract (i + 2) s.size).data.toList = (Lib.cut s.data.toList [13, 10]).2.1 := by rw [show i + 2 = i + (⟨#[13, 10]⟩ : ByteArray).size from rfl, ← c2]
   rw [Lib.countB_hit _ _ i (by decide) hi, Nat.add_comm 1, Lib.splitB_hit _ _ _ _ i hi, List.map_cons, h2, ih _ (by simp [ByteArray.size_extract]; omega), Nat.add_zero, e1, e2]
   have e3 : pieces s.data.toList = (Lib.cut s.data.toList [13, 10]).1 :: pieces (Lib.cut s.data.toList [13, 10]).2.1 := by
    unfold pieces
    rw [aX1 s.data.toList, if_pos c3]
    rfl
   rw [e3]
theorem dn7 (L : List ByteArray) (M : List (List UInt8)) (h : L.map (·.data.toList) = M) : L = M.map B := by
 rw [← h, List.map_map]
 have : (B ∘ fun x : ByteArray => x.data.toList) = id := funext fun s => aW5 s
 rw [this, List.map_id]
theorem bL1 (s : ByteArray) (hs : s.size ≤ 1073741824) : strings_Split.f s (⟨#[13, 10]⟩ : ByteArray) = some ((pieces s.data.toList).map B) := by
 unfold strings_Split.f
 rw [if_pos ⟨by omega, by decide⟩, dn7 _ _ (c65 s.size s (Nat.le_refl _))]
theorem bD9 (l : List UInt8) : (pieces l).length ≤ l.length + 1 ∧ ∀ x ∈ pieces l, x.length ≤ l.length := by
 have h := aS9 l
 unfold pieces
 refine ⟨by rw [List.length_append, List.length_singleton]; omega, fun x hx => ?_⟩
 rcases List.mem_append.1 hx with hx | hx
 ·exact h.2.1 x hx
 ·rw [List.mem_singleton] at hx
  subst hx
  exact h.2.2
def Part (n : Nat) (u d : ByteArray) (ts : List G6) : Prop := u.size ≤ 800 ∧ d.size ≤ 800 ∧ ts.length ≤ n ∧ ∀ a ∈ ts, a.f0.size ≤ 800 ∧ a.f1.size ≤ 800
theorem Part.short {n : Nat} {u d : ByteArray} {ts : List G6} (h : Part n u d ts) (hn : n ≤ 1073741824) {body : List ByteArray} (hb : body.length ≤ 1073741824 ∧ ∀ s ∈ body, s.size ≤ 1073741824) : av3 u d ts body :=
 ⟨by have := h.1; omega, by have := h.2.1; omega, fun a ha => by have := h.2.2.2 a ha; exact ⟨by omega, by omega⟩, hb.2, by have := h.2.2.1; omega, hb.1⟩
def aM1 : List (List UInt8) → Nat → ByteArray → ByteArray → List G6 → Option (ByteArray × ByteArray × List G6)
 | [], _, u, d, ts => some (u, d, ts)
 | t :: r, i, u, d, ts =>
  if (an4 (Lib.cut t [32]).2.1).2.2 = true then (if i = 0 then aM1 r (i + 1) (an4 (Lib.cut t [32]).2.1).1 (an4 (Lib.cut t [32]).2.1).2.1 ts else aM1 r (i + 1) u d (ts ++ [⟨(an4 (Lib.cut t [32]).2.1).1, (an4 (Lib.cut t [32]).2.1).2.1⟩]))
  else none
abbrev cx0 : Type := ByteArray × ByteArray × List G6 × List ByteArray × Bool
def ab5 : cx0 := (B [], B [], [], [], false)
def cx1 (u d : ByteArray) (ts : List G6) (body : List ByteArray) : List UInt8 := if am6 u d ts body = true then aa1 u d ts body else []
def by8 (s b : List UInt8) (u d : ByteArray) (ts : List G6) : cx0 := if (aE0 b).2 = true then (if cx1 u d ts (aE0 b).1 = s then (u, d, ts, (aE0 b).1, true) else ab5) else ab5
def dA4 (s b : List UInt8) : Option (ByteArray × ByteArray × List G6) → cx0
 | none => ab5
 | some (u, d, ts) => by8 s b u d ts
theorem bL2 (u d : ByteArray) (ts : List G6) (body : List ByteArray) (hs : av3 u d ts body) : Ev (fun k => L0.f k u d ts body) (B (cx1 u d ts body)) := by
 unfold cx1
 cases hm : am6 u d ts body
 ·refine Ev.congr (f := fun _ => some (B [])) (fun k => ?_) (Ev.now _)
  unfold L0.f
  rw [aW6 u d ts body hs, hm, Option.bind_some]
  rfl
 ·exact bt0 u d ts body hs hm
theorem c67 (s b : ByteArray) (hb : b.size ≤ 800) (L : List (List UInt8)) (hL : L.length ≤ 801) (hLs : ∀ t ∈ L, t.length ≤ 800) : ∀ (e i : Nat) (u d : ByteArray) (ts : List G6), L.length = i + e → Part i u d ts →
  Ev (fun k => L5.l0 k s b (L.map B) ((L.map B).length : Int) (i : Int) u d ts) (dA4 s.data.toList b.data.toList (aM1 (L.drop i) i u d ts)) := by
 have hml : (L.map B).length = L.length := List.length_map ..
 intro e
 induction e with
 | zero =>
  intro i u d ts hi hp
  rw [List.drop_eq_nil_of_le (by omega)]
  refine Ev.step (f := fun k => (O3.f k b).bind fun bu2 => (if bu2.2 = true then ((L0.f k u d ts bu2.1).bind fun t124 => (if t124.toList = s.toList then (some (u, d, ts, bu2.1, true)) else (some ((⟨#[]⟩ : ByteArray), (⟨#[]⟩ : ByteArray), ([] : List (G6)), ([] : List ByteArray), false)))) else (some ((⟨#[]⟩ : ByteArray), (⟨#[]⟩ : ByteArray), ([] : List (G6)), ([] : List ByteArray), false)))) (fun k => by
   rw [L5.l0, if_neg (by omega)]) ?_
  have hd := by6 b (by omega)
  have hsm := aT3 b.data.toList
  refine Ev.bind hd ?_
  show Ev _ (by8 s.data.toList b.data.toList u d ts)
  unfold by8
  by_cases h2 : (aE0 b.data.toList).2 = true
  ·refine Ev.congr (fun k => if_pos h2) ?_
   refine Ev.call (bL2 u d ts _ (hp.short (by omega) hsm)) (h := fun _ => some (if (aE0 b.data.toList).2 = true then (if cx1 u d ts (aE0 b.data.toList).1 = s.data.toList then (u, d, ts, (aE0 b.data.toList).1, true) else ab5) else ab5)) (fun k => ?_) (Ev.now _)
   rw [if_pos h2, ab7, toL]
   by_cases hq : cx1 u d ts (aE0 b.data.toList).1 = s.data.toList
   ·rw [if_pos hq, if_pos hq]
   ·rw [if_neg hq, if_neg hq]
    rfl
  ·rw [if_neg h2]
   exact Ev.congr (fun k => if_neg h2) (Ev.now _)
 | succ e ih =>
  intro i u d ts hi hp
  have hlt : i < L.length := by omega
  have hlt' : i < (L.map B).length := by omega
  have hr : H9 ByteArray.empty (L.map B) (i : Int) = B L[i] := by rw [aI3 _ _ i hlt', List.getElem_map]
  have ht := hLs L[i] (List.getElem_mem hlt)
  have hc := (aS8 [32] L[i]).2
  have ha := bf9 (B (Lib.cut L[i] [32]).2.1) (by rw [D8]; omega)
  have hal := bt6 (Lib.cut L[i] [32]).2.1
  rw [M5] at ha
  rw [List.drop_eq_getElem_cons hlt, aM1]
  refine Ev.step (f := fun k => (S8.f k (B (Lib.cut L[i] [32]).2.1)).bind fun aK3 => (if aK3.2.2 = true then (if (i : Int) = 0 then (L5.l0 k s b (L.map B) ((L.map B).length : Int) ((i + 1 : Nat) : Int) aK3.1 aK3.2.1 ts) else (if ts.length < 4398046511104 then (L5.l0 k s b (L.map B) ((L.map B).length : Int) ((i + 1 : Nat) : Int) u d (ts ++ [(⟨aK3.1, aK3.2.1⟩ : G6)])) else (none))) else (some ((⟨#[]⟩ : ByteArray), (⟨#[]⟩ : ByteArray), ([] : List (G6)), ([] : List ByteArray), false)))) (fun k => by
   rw [L5.l0, if_pos (by omega), if_pos (by omega), if_pos (by omega), hr, ap5 _ _ (by rw [D8]; omega), Option.bind_some, M5, Y5 (x := (i : Int) + 1) (by omega) (by omega), show ((i : Int) + 1) = ((i + 1 : Nat) : Int) by omega]) ?_
  refine Ev.bind ha ?_
  by_cases hok : (an4 (Lib.cut L[i] [32]).2.1).2.2 = true
  ·refine Ev.congr (fun k => if_pos hok) ?_
   rw [if_pos hok]
   by_cases h0 : i = 0
   ·rw [if_pos h0]
    refine Ev.congr (fun k => if_pos (by omega)) (ih (i + 1) _ _ ts (by omega) ⟨by omega, by omega, by have := hp.2.2.1; omega, hp.2.2.2⟩)
   ·rw [if_neg h0]
    have hl3 := hp.2.2.1
    refine Ev.congr (fun k => (if_neg (by omega)).trans (if_pos (by omega))) (ih (i + 1) u d _ (by omega) ⟨hp.1, hp.2.1, by rw [List.length_append, List.length_singleton]; omega, fun a ha => ?_⟩)
    rcases List.mem_append.1 ha with ha | ha
    ·exact hp.2.2.2 a ha
    ·rw [List.mem_singleton] at ha
     subst ha
     exact ⟨by show (an4 _).1.size ≤ 800; omega, by show (an4 _).2.1.size ≤ 800; omega⟩
  ·rw [if_neg hok]
   exact Ev.congr (fun k => if_neg hok) (Ev.now _)
def aM2 (l : List UInt8) : cx0 := if l.length > 800 then ab5 else if (Lib.cut l [13, 10, 13, 10]).2.2 = true then dA4 l (Lib.cut l [13, 10, 13, 10]).2.1 (aM1 (pieces (Lib.cut l [13, 10, 13, 10]).1) 0 (B []) (B []) []) else ab5
theorem bu5 (s : ByteArray) : Ev (fun k => L5.f k s) (aM2 s.data.toList) := by
 have hl := E3 s
 have hc := aS8 [13, 10, 13, 10] s.data.toList
 unfold aM2
 by_cases h8 : s.size > 800
 ·rw [if_pos (by omega)]
  refine Ev.congr (f := fun _ => some ab5) (fun k => ?_) (Ev.now _)
  unfold L5.f
  rw [if_pos (by omega)]
  rfl
 ·rw [if_neg (by omega)]
  have step : ∀ k, L5.f k s = if (Lib.cut s.data.toList [13, 10, 13, 10]).2.2 = true then (L5.l0 k s (B (Lib.cut s.data.toList [13, 10, 13, 10]).2.1) ((pieces (Lib.cut s.data.toList [13, 10, 13, 10]).1).map B) (((pieces (Lib.cut s.data.toList [13, 10, 13, 10]).1).map B).length : Int) ((0 : Nat) : Int) (B []) (B []) []) else some ab5 := fun k => by
   unfold L5.f
   rw [if_neg (by omega), ap5 _ _ (by omega), Option.bind_some]
   show (if (Lib.cut s.data.toList [13, 10, 13, 10]).2.2 = true then (strings_Split.f (B (Lib.cut s.data.toList [13, 10, 13, 10]).1) _).bind _ else _) = _
   rw [bL1 _ (by rw [D8]; omega), Option.bind_some, M5]
   rfl
  refine Ev.congr step ?_
  by_cases hf : (Lib.cut s.data.toList [13, 10, 13, 10]).2.2 = true
  ·rw [if_pos hf]
   refine Ev.congr (fun k => if_pos hf) ?_
   have hp := bD9 (Lib.cut s.data.toList [13, 10, 13, 10]).1
   have h := c67 s (B (Lib.cut s.data.toList [13, 10, 13, 10]).2.1) (by rw [D8]; omega) (pieces (Lib.cut s.data.toList [13, 10, 13, 10]).1) (by omega) (fun t ht => by have := hp.2 t ht; omega) _ 0 (B []) (B []) [] (Nat.zero_add _).symm ⟨by decide, by decide, by decide, fun _ h => by cases h⟩
   rw [List.drop_zero, M5] at h
   exact h
  ·rw [if_neg hf]
   exact Ev.congr (fun k => if_neg hf) (Ev.now _)
theorem a84 : av3 ab5.1 ab5.2.1 ab5.2.2.1 ab5.2.2.2.1 := ⟨by decide, by decide, fun _ h => absurd h (by unfold ab5; simp), fun _ h => absurd h (by unfold ab5; simp), by decide, by decide⟩
theorem b50 : ∀ (L : List (List UInt8)) (i : Nat) (u d : ByteArray) (ts : List G6), (∀ t ∈ L, t.length ≤ 800) → Part i u d ts → ∀ q, aM1 L i u d ts = some q → Part (i + L.length) q.1 q.2.1 q.2.2
 | [], i, u, d, ts, _, hp, q, h => by
  injection h with h
  subst h
  exact hp
 | t :: r, i, u, d, ts, hL, hp, q, h => by
  have ht := hL t (by simp)
  have hr : ∀ t ∈ r, t.length ≤ 800 := fun x hx => hL x (by simp [hx])
  have hc := (aS8 [32] t).2
  have hal := bt6 (Lib.cut t [32]).2.1
  rw [aM1] at h
  rw [List.length_cons, show i + (r.length + 1) = (i + 1) + r.length by omega]
  split at h
  ·split at h
   ·exact b50 r (i + 1) _ _ ts hr ⟨by omega, by omega, by have := hp.2.2.1; omega, hp.2.2.2⟩ q h
   ·refine b50 r (i + 1) u d _ hr ⟨hp.1, hp.2.1, by rw [List.length_append, List.length_singleton]; have := hp.2.2.1; omega, fun a ha => ?_⟩ q h
    rcases List.mem_append.1 ha with ha | ha
    ·exact hp.2.2.2 a ha
    ·rw [List.mem_singleton] at ha
     subst ha
     exact ⟨by show (an4 _).1.size ≤ 800; omega, by show (an4 _).2.1.size ≤ 800; omega⟩
  ·cases h
theorem bV4 (l : List UInt8) : av3 (aM2 l).1 (aM2 l).2.1 (aM2 l).2.2.1 (aM2 l).2.2.2.1 := by
 have hc := aS8 [13, 10, 13, 10] l
 unfold aM2
 split
 ·exact a84
 ·split
  ·rename_i h8 _
   have hp := bD9 (Lib.cut l [13, 10, 13, 10]).1
   cases hq : aM1 (pieces (Lib.cut l [13, 10, 13, 10]).1) 0 (B []) (B []) [] with
   | none => exact a84
   | some q =>
    have hP := b50 _ 0 (B []) (B []) [] (fun t ht => by have := hp.2 t ht; omega) ⟨by decide, by decide, by decide, fun _ h => by cases h⟩ q hq
    obtain ⟨u, d, ts⟩ := q
    show av3 (by8 l _ u d ts).1 (by8 l _ u d ts).2.1 (by8 l _ u d ts).2.2.1 (by8 l _ u d ts).2.2.2.1
    unfold by8
    split
    ·split
     ·exact hP.short (by omega) (aT3 _)
     ·exact a84
    ·exact a84
  ·exact a84
theorem ba1 (x : UInt8) (t s : List UInt8) : ∀ a : List UInt8, x ∉ a → Lib.cut (a ++ s) (x :: t) = if (Lib.cut s (x :: t)).2.2 = true then (a ++ (Lib.cut s (x :: t)).1, (Lib.cut s (x :: t)).2.1, true) else (a ++ s, [], false)
 | [], _ => by
  rw [List.nil_append]
  unfold Lib.cut
  split <;> rfl
 | y :: a, h => by
  rw [List.mem_cons, not_or] at h
  rw [List.cons_append, ay8, if_neg (by simp only [List.isPrefixOf]; simp; exact fun e => absurd e h.1), ba1 x t s a h.2]
  obtain ⟨p, q, f⟩ := Lib.cut s (x :: t)
  cases f <;> rfl
def a57 (L : List (List UInt8)) : List UInt8 := L.flatMap fun x => x ++ [13, 10]
def bg1 : List (List UInt8) → List UInt8
 | [] => []
 | [x] => x
 | x :: y :: r => x ++ 13 :: 10 :: bg1 (y :: r)
def Line (x : List UInt8) : Prop := (13 : UInt8) ∉ x ∧ x ≠ []
theorem cQ7 (b : List UInt8) : Lib.cut (13 :: 10 :: 13 :: 10 :: b) [13, 10, 13, 10] = ([], b, true) := by
 rw [ay8, if_pos (by simp)]
 rfl
theorem cQ8 (c : UInt8) (hc : c ≠ 13) (l : List UInt8) : Lib.cut (13 :: 10 :: c :: l) [13, 10, 13, 10] = if (Lib.cut (c :: l) [13, 10, 13, 10]).2.2 = true then (13 :: 10 :: (Lib.cut (c :: l) [13, 10, 13, 10]).1, (Lib.cut (c :: l) [13, 10, 13, 10]).2.1, true) else (13 :: 10 :: c :: l, [], false) := by
 have e1 := ay8 13 (10 :: c :: l) [13, 10, 13, 10]
 rw [if_neg (by simp only [List.isPrefixOf]; simp; exact fun e => absurd e.symm hc)] at e1
 have e2 := ay8 10 (c :: l) [13, 10, 13, 10]
 rw [if_neg (by simp [List.isPrefixOf])] at e2
 rw [e1, e2]
 obtain ⟨p, q, t⟩ := Lib.cut (c :: l) [13, 10, 13, 10]
 cases t <;> rfl
theorem bV5 (b : List UInt8) : ∀ L : List (List UInt8), L ≠ [] → (∀ x ∈ L, Line x) → Lib.cut (a57 L ++ 13 :: 10 :: b) [13, 10, 13, 10] = (bg1 L, b, true)
 | [], h, _ => absurd rfl h
 | [x], _, h => by
  have e : a57 [x] ++ 13 :: 10 :: b = x ++ 13 :: 10 :: 13 :: 10 :: b := by unfold a57; simp
  rw [e, ba1 13 _ _ x (h x (by simp)).1, cQ7, if_pos rfl, List.append_nil]
  rfl
 | x :: y :: r, _, h => by
  have e : a57 (x :: y :: r) ++ 13 :: 10 :: b = x ++ 13 :: 10 :: (a57 (y :: r) ++ 13 :: 10 :: b) := by unfold a57; simp
  have ih := bV5 b (y :: r) (by simp) (fun z hz => h z (by simp only [List.mem_cons] at hz ⊢; exact .inr hz))
  obtain ⟨hy1, hy2⟩ := h y (by simp)
  cases y with
  | nil => exact absurd rfl hy2
  | cons c y' =>
   have hc : c ≠ 13 := fun e => hy1 (by simp [e])
   have e2 : a57 ((c :: y') :: r) ++ 13 :: 10 :: b = c :: (y' ++ [13, 10] ++ a57 r ++ 13 :: 10 :: b) := by unfold a57; simp
   rw [e, ba1 13 _ _ x (h x (by simp)).1]
   rw [e2] at ih ⊢
   rw [cQ8 c hc, ih, if_pos rfl]
   rfl
theorem bg2 : ∀ L : List (List UInt8), L ≠ [] → (∀ x ∈ L, (13 : UInt8) ∉ x) → pieces (bg1 L) = L
 | [], h, _ => absurd rfl h
 | [x], _, h => by
  have key : ∀ a : List UInt8, (13 : UInt8) ∉ a → crlf a = ([], a) := fun a ha => by
   rw [aX1, if_neg]
   have := ba1 13 [10] [] a ha
   rw [List.append_nil] at this
   rw [this, d01]
   simp
  unfold pieces bg1
  rw [key x (h x (by simp))]
  rfl
 | x :: y :: r, _, h => by
  have ih := bg2 (y :: r) (by simp) (fun z hz => h z (by simp only [List.mem_cons] at hz ⊢; exact .inr hz))
  unfold pieces at ih ⊢
  rw [bg1, aY8 _ _ (h x (by simp))]
  show x :: ((crlf (bg1 (y :: r))).1 ++ [(crlf (bg1 (y :: r))).2]) = _
  rw [ih]
def aE1 (u d : ByteArray) : List UInt8 := [102, 114, 111, 109, 32] ++ J3 u d
def aE9 (a : G6) : List UInt8 := [116, 111, 32] ++ J3 a.f0 a.f1
theorem aX4 (u d : ByteArray) (ts : List G6) (body : List ByteArray) : aa1 u d ts body = a57 (aE1 u d :: ts.map aE9) ++ 13 :: 10 :: Z2 body := by
 have e : a57 (ts.map aE9) = toT ts := by
  unfold a57 toT aE9
  rw [List.flatMap_map]
  exact congrArg (fun f => ts.flatMap f) (funext fun a => by simp)
 have e2 : a57 (aE1 u d :: ts.map aE9) = aE1 u d ++ [13, 10] ++ toT ts := by
  rw [← e]
  unfold a57
  simp
 rw [e2]
 unfold aa1 aE1
 simp
theorem bu6 {u d : ByteArray} {ts : List G6} {body : List ByteArray} (h : am6 u d ts body = true) : ∀ x ∈ aE1 u d :: ts.map aE9, Line x := by
 obtain ⟨h1, _, h3, _, _⟩ := al3 h
 have hf : ∀ a : UInt8, bK6 a = true → a ≠ 13 := fun a ha e => by rw [e] at ha; exact absurd ha (by decide)
 intro x hx
 rcases List.mem_cons.1 hx with rfl | hx
 ·refine ⟨fun h13 => ?_, by unfold aE1; simp⟩
  unfold aE1 at h13
  rcases List.mem_append.1 h13 with h | h
  ·exact absurd h (by decide)
  ·exact hf 13 (b49 h1 13 h) rfl
 ·obtain ⟨a, ha, rfl⟩ := List.mem_map.1 hx
  refine ⟨fun h13 => ?_, by unfold aE9; simp⟩
  unfold aE9 at h13
  rcases List.mem_append.1 h13 with h | h
  ·exact absurd h (by decide)
  ·exact hf 13 (b49 (by rw [h3 a ha, Bool.or_true]) 13 h) rfl
theorem bV6 (u d : ByteArray) : ∀ (ts acc : List G6) (i : Nat), 0 < i → (∀ a ∈ ts, U9 a.f0 a.f1 = true) → aM1 (ts.map aE9) i u d acc = some (u, d, acc ++ ts)
 | [], acc, i, _, _ => by rw [List.append_nil]; rfl
 | a :: ts, acc, i, hi, h => by
  have hc : Lib.cut (aE9 a) [32] = ([116, 111], J3 a.f0 a.f1, true) := aL9 32 _ [116, 111] (by decide)
  have hA := aT0 (u := a.f0) (d := a.f1) (by rw [h a (by simp), Bool.or_true])
  rw [List.map_cons, aM1, hc]
  show (if (an4 (J3 a.f0 a.f1)).2.2 = true then _ else _) = _
  rw [hA, if_pos rfl, if_neg (by omega), bV6 u d ts _ (i + 1) (by omega) (fun x hx => h x (by simp [hx])), List.append_assoc]
  rfl
theorem c68 {u d : ByteArray} {ts : List G6} {body : List ByteArray} (h : am6 u d ts body = true) (hl : (aa1 u d ts body).length ≤ 800) : aM2 (aa1 u d ts body) = (u, d, ts, body, true) := by
 obtain ⟨h1, h2, h3, _, h5⟩ := al3 h
 have hL := bu6 h
 have hc := bV5 (Z2 body) _ (by simp) hL
 rw [← aX4] at hc
 have hp := bg2 _ (by simp) (fun x hx => (hL x hx).1)
 have hcf : Lib.cut (aE1 u d) [32] = ([102, 114, 111, 109], J3 u d, true) := aL9 32 _ [102, 114, 111, 109] (by decide)
 have hh : aM1 (aE1 u d :: ts.map aE9) 0 (B []) (B []) [] = some (u, d, ts) := by
  rw [aM1, hcf]
  show (if (an4 (J3 u d)).2.2 = true then _ else _) = _
  rw [aT0 h1, if_pos rfl, if_pos rfl]
  show aM1 (ts.map aE9) 1 u d [] = _
  rw [bV6 u d ts [] 1 (by decide) h3]
  rfl
 unfold aM2
 rw [if_neg (by omega), hc, if_pos rfl]
 show dA4 _ (Z2 body) (aM1 (pieces (bg1 (aE1 u d :: ts.map aE9))) 0 (B []) (B []) []) = _
 rw [hp, hh]
 show by8 _ (Z2 body) u d ts = _
 unfold by8 cx1
 rw [bD8 h5, if_pos rfl]
 show (if (if am6 u d ts body = true then aa1 u d ts body else []) = aa1 u d ts body then (u, d, ts, body, true) else ab5) = _
 rw [if_pos h, if_pos rfl]
end Go.Proofs.YtbncnjgflhoneaaGreatDoor.Hand
namespace Go.Proofs.YtbncnjgflhoneaaGreatDoor.F
open Go.RowKit Go.Proofs.YtbncnjgflhoneaaGreatDoor.Hand Go.Proofs.YtbncnjgflhoneaaGreatDoorW.l8 Go.Proofs.YtbncnjgflhoneaaGreatDoorW.s9 Go.Proofs.YtbncnjgflhoneaaGreatDoorW.y9
mutual
def C9.l0 : Nat → List ByteArray → Int → Int → ByteArray → ByteArray → List (G6) → Option (ByteArray × ByteArray × (List (G6)) × List ByteArray × Int)
 | 0, _, _, _, _, _, _ => none
 | k + 1, x4, x7, x8, ag0, ag1, ac4 => if x8 < (x4.length : Int) then (if 0 ≤ x8 then (if (H9 ByteArray.empty x4 x8).toList = ([] : List UInt8) then (C9.j1 k x4 (wrap64 ((wrap64 (x7 + ((H9 ByteArray.empty x4 x8).size : Int))) + 2)) x8 (H9 ByteArray.empty x4 x8) (decide (x8 > 1)) ag0 ag1 ac4) else (C9.j1 k x4 (wrap64 ((wrap64 (x7 + ((H9 ByteArray.empty x4 x8).size : Int))) + 2)) x8 (H9 ByteArray.empty x4 x8) false ag0 ag1 ac4)) else (none)) else (some (ag0, ag1, ac4, ([] : List ByteArray), 0))
def C9.j1 : Nat → List ByteArray → Int → Int → ByteArray → Bool → ByteArray → ByteArray → List (G6) → Option (ByteArray × ByteArray × (List (G6)) × List ByteArray × Int)
 | 0, _, _, _, _, _, _, _, _ => none
 | k + 1, x4, x7, x8, x9, x36, ag0, ag1, ac4 => if x36 = true then (some (ag0, ag1, ac4, ([] : List ByteArray), x7)) else (if x8 = 0 then (if (x9.size : Int) > 5 then (if 0 ≤ 5 then (if 5 ≤ (x9.size : Int) then (C9.j2 k x4 x7 x8 x9 ((x9.extract 0 5).toList == ([102, 114, 111, 109, 32] : List UInt8)) ag0 ag1 ac4) else (none)) else (none)) else (C9.j2 k x4 x7 x8 x9 false ag0 ag1 ac4)) else (C9.j2 k x4 x7 x8 x9 false ag0 ag1 ac4))
def C9.j2 : Nat → List ByteArray → Int → Int → ByteArray → Bool → ByteArray → ByteArray → List (G6) → Option (ByteArray × ByteArray × (List (G6)) × List ByteArray × Int)
 | 0, _, _, _, _, _, _, _, _ => none
 | k + 1, x4, x7, x8, x9, x45, ag0, ag1, ac4 => if x45 = true then (if 5 ≤ (x9.size : Int) then ((D0.f k (x9.extract 5 x9.size)).bind fun aJ7 => (if aJ7.2.2 = true then (C9.l0 k x4 x7 (wrap64 (x8 + 1)) aJ7.1 aJ7.2.1 ac4) else (some (ag0, ag1, ac4, ([] : List ByteArray), 0)))) else (none)) else (if x8 > 0 then (if (x9.size : Int) > 3 then (if 0 ≤ 3 then (if 3 ≤ (x9.size : Int) then (C9.j3 k x4 x7 x8 x9 ((x9.extract 0 3).toList == ([116, 111, 32] : List UInt8)) ag0 ag1 ac4) else (none)) else (none)) else (C9.j3 k x4 x7 x8 x9 false ag0 ag1 ac4)) else (C9.j3 k x4 x7 x8 x9 false ag0 ag1 ac4))
def C9.j3 : Nat → List ByteArray → Int → Int → ByteArray → Bool → ByteArray → ByteArray → List (G6) → Option (ByteArray × ByteArray × (List (G6)) × List ByteArray × Int)
 | 0, _, _, _, _, _, _, _, _ => none
 | k + 1, x4, x7, x8, x9, x69, ag0, ag1, ac4 => if x69 = true then (if 3 ≤ (x9.size : Int) then ((D0.f k (x9.extract 3 x9.size)).bind fun ar8 => (if ar8.2.2 = true then (if ac4.length < 4398046511104 then (C9.l0 k x4 x7 (wrap64 (x8 + 1)) ag0 ag1 (ac4 ++ [(⟨ar8.1, ar8.2.1⟩ : G6)])) else (none)) else (some (ag0, ag1, ac4, ([] : List ByteArray), 0)))) else (none)) else (some (ag0, ag1, ac4, ([] : List ByteArray), 0))
end
def C9.f (k : Nat) (a0 : ByteArray) : Option (ByteArray × ByteArray × (List (G6)) × List ByteArray × Int) := (L3.f k a0).bind fun D9 => (C9.l0 k D9.1 0 0 (⟨#[]⟩ : ByteArray) (⟨#[]⟩ : ByteArray) ([] : List (G6)))
set_option maxHeartbeats 8000000 in
set_option maxRecDepth 100000 in
theorem C9.calls (k : Nat) (a0 : ByteArray) (r1 : ByteArray) (r2 : ByteArray) (r3 : List (G6)) (r4 : List ByteArray) (r5 : Int) (w : World) (h : C9.f k a0 = some (r1, r2, r3, r4, r5)) :
  Calls Tryz.prog 127 #[.string a0] w fun e w' => ∃ v2_ v3_ : Value, e = .returned (.tuple #[.agg #[.string r1, .string r2, v2_, v3_], .int .i64 r5]) ∧ Kd.R k32 32 w' w.heap.size (fun _ => True) v2_ r3 ∧ Kd.R Kd.string 9 w' w.heap.size (fun _ => True) v3_ r4 ∧ Below w.heap.size w w' := by
 have aV0 := Tryz.underlying35
 have as2 := Tryz.underlying32
 have HB := j4.mk (Below.refl w.heap.size w)
 have H := h
 clear h
 unfold C9.f at H
 replace H := S2 H; obtain ⟨⟨t102, t103⟩, A2, H⟩ := H
 dsimp only at H
 have H' := j4.mk H
 clear H
 go_enter Tryz.func127, Tryz.ntmps127
 go_wp2_with (first | ((with_reducible refine l9 (N := 2) rfl ?_); (try (refine Q4 (by rfl) ?_; dsimp only)); refine bx (cs := #[.string ⟨#[]⟩, .string ⟨#[]⟩, .slice none 0 0, .slice none 0 0]) (t := 35) ?_; intro j8 hg w3 o8 hb; have j5 := j4.mk (o8); have L8 := gS hg; have J7 := gS hg; replace HB := bS hb; clear hb o8 hg) | ((with_reducible refine j6 (f := 164) rfl ?_); refine gl 16 Tryz.func164 _ ((L3.calls (w := _) (h := A2.out)).mono ?_); rintro e w4 ⟨bx2, rfl, ho0, hb⟩; refine ⟨_, rfl, ?_⟩; have as8 := lS ho0; replace j5 := kS j5 hb; replace HB := bS hb; clear hb ho0) | ((with_reducible refine l9 (N := 6) rfl ?_); (try (refine Q4 (by rfl) ?_; dsimp only)); refine bx (cs := #[.string ⟨#[]⟩, .string ⟨#[]⟩, .slice none 0 0, .slice none 0 0]) (t := 35) ?_; intro ba2 hg w5 o8 hb; replace as8 := rS as8 hb; have Q3 := j4.mk (o8); have ew7 := gS hg; have ew8 := gS hg; have av7 := nS hg j5; have av8 := nG hg j5; replace j5 := kS j5 hb; replace HB := bS hb; clear hb o8 hg; have ef9 := av8.out; have eg0 := av7.out; have dx2 := cz4 Q3.out; have dx3 := fz4 Q3.out))
 go_loopg [7, 8] k (fun kq v7 v8 w' => ∃ (a26 : Int) (a13 : Int) (a38 : ByteArray) (a39 : ByteArray) (a06 : ByteArray) (a07 : ByteArray) (a00 : List (G6)) (at6 : Value), v7 = .int .i64 a26 ∧ v8 = .int .i64 a13 ∧ j4 (C9.l0 kq t102 a26 a13 a06 a07 a00 = some (r1, r2, r3, r4, r5)) ∧ j4 (kq ≤ k) ∧ j4 (Kd.R Kd.string 9 w' w.heap.size (fun _ => True) bx2 t102) ∧ j4 (Kd.R k32 32 w' w.heap.size (fun _ => True) at6 a00) ∧ j4 (w'.heap[j8]? = some (.cells #[.string a38, .string a39, (.slice none 0 0), (.slice none 0 0)] 35 (0, 0))) ∧ j4 (w'.heap[ba2]? = some (.cells #[.string a06, .string a07, at6, (.slice none 0 0)] 35 (0, 0))) ∧ j4 (Below w.heap.size w w'))
 case atStart => exact ⟨(0), (0), ((⟨#[]⟩ : ByteArray)), ((⟨#[]⟩ : ByteArray)), ((⟨#[]⟩ : ByteArray)), ((⟨#[]⟩ : ByteArray)), (([] : List (G6))), (.slice none 0 0), zs, zs, H', ⟨Nat.le_refl _⟩, ⟨fM as8 Q3 (fun _ hk => trivial)⟩, ⟨zn⟩, ⟨kQ j5⟩, ⟨kQ Q3⟩, ⟨zB⟩⟩
 case round =>
  clear H'
  obtain ⟨a26, a13, a38, a39, a06, a07, a00, at6, rfl, rfl, HA, HK1, L9, H7, j5, Q3, HB⟩ := hrel
  cases gk with
  | zero => exact absurd HA.out (by simp [C9.l0])
  | succ k1 =>
   have H := HA.out
   clear HA
   simp only [C9.l0] at H
   replace H := K2 H; rcases H with ⟨aN6, H⟩ | ⟨aN6, H⟩
   ·replace H := S1 H; obtain ⟨aF9, H⟩ := H
    have dA5 := j4.mk H
    clear H
    obtain ⟨b70, aK6, bp5⟩ := Kd.s7 L9.out
    subst bp5
    have dA6 : 0 ≤ (a13 : Int) := of_decide_eq_true za
    have dA7 : a13 < (t102.length : Int) := of_decide_eq_true za
    obtain ⟨cQ9, ei7, e67⟩ := Kd.E5 (Kd.y7 L9.out).2.2 a13 dA6 dA7
    cases ei7
    replace dA6 := eq_true dA6
    replace dA7 := eq_true dA7
    go_upto_region 10 with (fail)
    go_cut [36] (fun v36 wc => ∃ (kq : Nat) (cR0 : Bool), v36 = .bool cR0 ∧ j4 (C9.j1 kq t102 (wrap64 ((wrap64 (a26 + ((H9 ByteArray.empty t102 a13).size : Int))) + 2)) a13 (H9 ByteArray.empty t102 a13) cR0 a06 a07 a00 = some (r1, r2, r3, r4, r5)) ∧ j4 (kq ≤ k1) ∧ j4 (Kd.R Kd.string 9 wc w.heap.size (fun _ => True) (.slice (some cQ9) t102.length aK6) t102) ∧ j4 (Kd.R k32 32 wc w.heap.size (fun _ => True) at6 a00) ∧ j4 (wc.heap[j8]? = some (.cells #[.string a38, .string a39, (.slice none 0 0), (.slice none 0 0)] 35 (0, 0))) ∧ j4 (wc.heap[ba2]? = some (.cells #[.string a06, .string a07, at6, (.slice none 0 0)] 35 (0, 0))) ∧ j4 (Below w.heap.size w wc))
    case first =>
     have H := dA5.out
     clear dA5
     replace H := F6 H; rcases H with ⟨ax7, b78, H⟩ | ⟨ax7, b78, H⟩
     ·(first | rw [ax7] | (simp only [Z1, aa5]; rw [ax7]) | skip)
      have H' := j4.mk H
      clear H
      go_wp2
      go_meet
      case rel => exact ⟨_, (decide (a13 > 1)), zs, H', ⟨by have := HK1.out; first | omega | exact Nat.le_refl _⟩, ⟨rO L9⟩, ⟨rO H7⟩, ⟨kQ j5⟩, ⟨kQ Q3⟩, ⟨zB⟩⟩
     ·(first | rw [ax7] | (simp only [Z1, aa5]; rw [ax7]) | skip)
      have H' := j4.mk H
      clear H
      go_wp2
      go_meet
      case rel => exact ⟨_, (false), zs, H', ⟨by have := HK1.out; first | omega | exact Nat.le_refl _⟩, ⟨rO L9⟩, ⟨rO H7⟩, ⟨kQ j5⟩, ⟨kQ Q3⟩, ⟨zB⟩⟩
    case rest =>
     clear dA5
     obtain ⟨kq, cR0, rfl, HA, HJ9, L9, H7, j5, Q3, HB⟩ := hcut
     cases kq with
     | zero => exact absurd HA.out (by simp [C9.j1])
     | succ kj9 =>
      have H := HA.out
      clear HA
      simp only [C9.j1] at H
      replace H := itb H; rcases H with ⟨rfl, H⟩ | ⟨rfl, H⟩
      ·simp only [Option.some.injEq, Prod.mk.injEq] at H
       obtain ⟨rfl, rfl, rfl, rfl, rfl⟩ := H
       have ch8 := av8.out
       have ch9 := av7.out
       have bB7 := cz4 Q3.out
       have bB8 := fz4 Q3.out
       have br3 := cz4 j5.out
       have br4 := fz4 j5.out
       obtain ⟨br6, bc0, c32⟩ := Kd.s7 H7.out
       subst c32
       go_wp2
       refine bodyPost_ret (I2 rfl _ _ j8 35 #[.string a06, .string a07, .slice br6 a00.length bc0, .slice none 0 0] (0, 0) _ rfl (kQ j5) Tryz.underlying35 rfl z2_) rfl ?_
       exact ⟨_, _, zr, fM H7 j5 (fun _ hk => trivial), zn, zB⟩
      ·have dA8 := j4.mk H
       clear H
       go_upto_region 12 with (fail)
       go_cut [45] (fun v45 wc => ∃ (kq : Nat) (c69 : Bool), v45 = .bool c69 ∧ j4 (C9.j2 kq t102 (wrap64 ((wrap64 (a26 + ((H9 ByteArray.empty t102 a13).size : Int))) + 2)) a13 (H9 ByteArray.empty t102 a13) c69 a06 a07 a00 = some (r1, r2, r3, r4, r5)) ∧ j4 (kq ≤ kj9) ∧ j4 (Kd.R Kd.string 9 wc w.heap.size (fun _ => True) (.slice (some cQ9) t102.length aK6) t102) ∧ j4 (Kd.R k32 32 wc w.heap.size (fun _ => True) at6 a00) ∧ j4 (wc.heap[j8]? = some (.cells #[.string a38, .string a39, (.slice none 0 0), (.slice none 0 0)] 35 (0, 0))) ∧ j4 (wc.heap[ba2]? = some (.cells #[.string a06, .string a07, at6, (.slice none 0 0)] 35 (0, 0))) ∧ j4 (Below w.heap.size w wc))
       case first =>
        have H := dA8.out
        clear dA8
        replace H := F6 H; rcases H with ⟨aD4, bf3, H⟩ | ⟨aD4, bf3, H⟩
        ·(first | rw [aD4] | (simp only [Z1, aa5]; rw [aD4]) | skip)
         replace H := a29 H; rcases H with ⟨c20, aL3, H⟩ | ⟨c20, aL3, H⟩
         ·have b22 : decide (5 < (H9 ByteArray.empty t102 a13).size) = true := decide_eq_true (by omega)
          clear c20
          replace H := Q5 H; obtain ⟨bf1, bB2, H⟩ := H
          replace H := Q5 H; obtain ⟨aT9, bs8, H⟩ := H
          have H' := j4.mk H
          clear H
          go_wp2
          go_meet
          case rel => exact ⟨_, ((((H9 ByteArray.empty t102 a13).extract 0 5).toList == ([102, 114, 111, 109, 32] : List UInt8))), zs, H', ⟨by have := HK1.out; have := HJ9.out; first | omega | exact Nat.le_refl _⟩, ⟨rO L9⟩, ⟨rO H7⟩, ⟨kQ j5⟩, ⟨kQ Q3⟩, ⟨zB⟩⟩
         ·have b22 : decide (5 < (H9 ByteArray.empty t102 a13).size) = false := decide_eq_false (by omega)
          clear c20
          have H' := j4.mk H
          clear H
          go_wp2
          go_meet
          case rel => exact ⟨_, (false), zs, H', ⟨by have := HK1.out; have := HJ9.out; first | omega | exact Nat.le_refl _⟩, ⟨rO L9⟩, ⟨rO H7⟩, ⟨kQ j5⟩, ⟨kQ Q3⟩, ⟨zB⟩⟩
        ·(first | rw [aD4] | (simp only [Z1, aa5]; rw [aD4]) | skip)
         have H' := j4.mk H
         clear H
         go_wp2
         go_meet
         case rel => exact ⟨_, (false), zs, H', ⟨by have := HK1.out; have := HJ9.out; first | omega | exact Nat.le_refl _⟩, ⟨rO L9⟩, ⟨rO H7⟩, ⟨kQ j5⟩, ⟨kQ Q3⟩, ⟨zB⟩⟩
       case rest =>
        clear dA8
        obtain ⟨kq, c69, rfl, HA, c71, L9, H7, j5, Q3, HB⟩ := hcut
        cases kq with
        | zero => exact absurd HA.out (by simp [C9.j2])
        | succ dW0 =>
         have H := HA.out
         clear HA
         simp only [C9.j2] at H
         replace H := itb H; rcases H with ⟨rfl, H⟩ | ⟨rfl, H⟩
         ·replace H := Q5 H; obtain ⟨cN8, cN9, H⟩ := H
          replace H := S2 H; obtain ⟨⟨t108, t109, t110⟩, A25, H⟩ := H
          dsimp only at H
          replace H := itb H; rcases H with ⟨rfl, H⟩ | ⟨rfl, H⟩
          ·have H' := j4.mk H
           clear H
           go_wp2_with (first | ((with_reducible refine j6 (f := 87) rfl ?_); refine gv 61 Tryz.func87 _ (D0.calls (w := _) (h := A25.out)) ?_; intro w27 hb; replace L9 := rS L9 hb; replace H7 := rS H7 hb; replace j5 := kS j5 hb; replace Q3 := kS Q3 hb; replace HB := bS hb; clear hb) | ((with_reducible refine l9 (N := 10) rfl ?_); (try (refine Q4 (by rfl) ?_; dsimp only)); refine bx (cs := #[.string ⟨#[]⟩, .string ⟨#[]⟩]) (t := 32) ?_; intro aF6 hg w28 o8 hb; replace L9 := rS L9 hb; replace H7 := j4.mk (Kd.am5 (Kd.as4 (rO H7) aF6 (Nat.le_of_eq hg.symm)) hb); have M3 := j4.mk (o8); have bE0 := gS hg; have bE1 := gS hg; have ac9 := nS hg j5; have ad0 := nG hg j5; replace j5 := kS j5 hb; have bc6 := nS hg Q3; have bc7 := nG hg Q3; replace Q3 := kS Q3 hb; replace HB := bS hb; clear hb o8 hg; have bB4 := ad0.out; have bB5 := ac9.out; have bp6 := bc7.out; have bp7 := bc6.out; have bR6 := cz2 M3.out; have bR7 := fz2 M3.out; have bP1 := av8.out; have bP2 := av7.out; have bT7 := cz4 Q3.out; have bT8 := fz4 Q3.out))
           go_roundg dW0
           case measure => have := HK1.out; have := HJ9.out; have := c71.out; omega
           case rel => exact ⟨((wrap64 ((wrap64 (a26 + ((H9 ByteArray.empty t102 a13).size : Int))) + 2))), (wrap64 (a13 + 1)), (a38), (a39), (t108), (t109), (a00), (at6), zs, zs, H', ⟨by have := HK1.out; have := HJ9.out; have := c71.out; omega⟩, ⟨by (with_reducible repeat (first | apply Kd.N9 | apply Kd.M8 | apply Kd.O0)); exact Kd.E0 (Kd.M9 (p := ⟨ba2, 1, none⟩) (Kd.M9 (p := ⟨ba2, 0, none⟩) (Kd.M9 (p := ⟨aF6, 1, none⟩) (Kd.M9 (p := ⟨aF6, 0, none⟩) (Kd.z8 (Kd.z8 L9.out M3.out I1) Q3.out I1) (fun _ hk => hk.1.2) (.string t108)) (fun _ hk => hk.1.2) (.string t109)) (fun _ hk => hk.2) (.string t108)) (fun _ hk => hk.2) (.string t109)) (fun _ hk => trivial)⟩, ⟨by (with_reducible repeat (first | apply Kd.N9 | apply Kd.M8 | apply Kd.O0)); exact Kd.E0 (Kd.M9 (p := ⟨ba2, 1, none⟩) (Kd.M9 (p := ⟨ba2, 0, none⟩) (Kd.M9 (p := ⟨aF6, 1, none⟩) (Kd.M9 (p := ⟨aF6, 0, none⟩) (Kd.z8 (Kd.E0 H7.out (fun k_ hk => (⟨hk, hk.2⟩ : _ ∧ k_ ≠ aF6))) Q3.out I1) (fun _ hk => hk.1.2) (.string t108)) (fun _ hk => hk.1.2) (.string t109)) (fun _ hk => hk.2) (.string t108)) (fun _ hk => hk.2) (.string t109)) (fun _ hk => trivial)⟩, ⟨kQ j5⟩, ⟨kQ Q3⟩, ⟨zB⟩⟩
          ·simp only [Option.some.injEq, Prod.mk.injEq] at H
           obtain ⟨rfl, rfl, rfl, rfl, rfl⟩ := H
           go_wp2_with (first | ((with_reducible refine j6 (f := 87) rfl ?_); refine gv 61 Tryz.func87 _ (D0.calls (w := _) (h := A25.out)) ?_; intro w34 hb; replace L9 := rS L9 hb; replace H7 := rS H7 hb; replace j5 := kS j5 hb; replace Q3 := kS Q3 hb; replace HB := bS hb; clear hb) | ((with_reducible refine l9 (N := 10) rfl ?_); (try (refine Q4 (by rfl) ?_; dsimp only)); refine bx (cs := #[.string ⟨#[]⟩, .string ⟨#[]⟩]) (t := 32) ?_; intro aF6 hg w35 o8 hb; replace L9 := rS L9 hb; replace H7 := j4.mk (Kd.am5 (Kd.as4 (rO H7) aF6 (Nat.le_of_eq hg.symm)) hb); have M3 := j4.mk (o8); have bE0 := gS hg; have bE1 := gS hg; have ac9 := nS hg j5; have ad0 := nG hg j5; replace j5 := kS j5 hb; have bc6 := nS hg Q3; have bc7 := nG hg Q3; replace Q3 := kS Q3 hb; replace HB := bS hb; clear hb o8 hg; have cE4 := ad0.out; have cE5 := ac9.out; have de0 := bc7.out; have de1 := bc6.out; have cJ1 := cz2 M3.out; have cJ2 := fz2 M3.out; have cG7 := av8.out; have cG8 := av7.out; have bP9 := cz4 Q3.out; have bQ0 := fz4 Q3.out; have cq6 := cz4 j5.out; have cq7 := fz4 j5.out; obtain ⟨aj3, aj4, cW7⟩ := Kd.s7 H7.out; subst cW7))
           refine bodyPost_ret (I2 rfl _ _ j8 35 #[.string a06, .string a07, .slice aj3 a00.length aj4, .slice none 0 0] (0, 0) _ rfl (kQ j5) Tryz.underlying35 rfl z2_) rfl ?_
           exact ⟨_, _, zr, by (with_reducible repeat (first | apply Kd.N9 | apply Kd.M8 | apply Kd.O0)); exact Kd.E0 (Kd.M9 (p := ⟨j8, 3, none⟩) (Kd.M9 (p := ⟨j8, 2, none⟩) (Kd.M9 (p := ⟨j8, 1, none⟩) (Kd.M9 (p := ⟨j8, 0, none⟩) (Kd.M9 (p := ⟨aF6, 1, none⟩) (Kd.M9 (p := ⟨aF6, 0, none⟩) (Kd.z8 (Kd.E0 H7.out (fun k_ hk => (⟨hk, hk.2⟩ : _ ∧ k_ ≠ aF6))) j5.out I1) (fun _ hk => hk.1.2) (.string t108)) (fun _ hk => hk.1.2) (.string t109)) (fun _ hk => hk.2) (.string a06)) (fun _ hk => hk.2) (.string a07)) (fun _ hk => hk.2) (.slice aj3 a00.length aj4)) (fun _ hk => hk.2) (.slice none 0 0)) (fun _ hk => trivial), zn, zB⟩
         ·have dA9 := j4.mk H
          clear H
          go_upto_region 17 with (fail)
          go_cut [69] (fun v69 wc => ∃ (kq : Nat) (c73 : Bool), v69 = .bool c73 ∧ j4 (C9.j3 kq t102 (wrap64 ((wrap64 (a26 + ((H9 ByteArray.empty t102 a13).size : Int))) + 2)) a13 (H9 ByteArray.empty t102 a13) c73 a06 a07 a00 = some (r1, r2, r3, r4, r5)) ∧ j4 (kq ≤ dW0) ∧ j4 (Kd.R Kd.string 9 wc w.heap.size (fun _ => True) (.slice (some cQ9) t102.length aK6) t102) ∧ j4 (Kd.R k32 32 wc w.heap.size (fun _ => True) at6 a00) ∧ j4 (wc.heap[j8]? = some (.cells #[.string a38, .string a39, (.slice none 0 0), (.slice none 0 0)] 35 (0, 0))) ∧ j4 (wc.heap[ba2]? = some (.cells #[.string a06, .string a07, at6, (.slice none 0 0)] 35 (0, 0))) ∧ j4 (Below w.heap.size w wc))
          case first =>
           have H := dA9.out
           clear dA9
           replace H := K2 H; rcases H with ⟨bE2, H⟩ | ⟨bE2, H⟩
           ·(first | rw [bE2] | (simp only [Z1, aa5]; rw [bE2]) | skip)
            replace H := a29 H; rcases H with ⟨c45, dW1, H⟩ | ⟨c45, dW1, H⟩
            ·have dW2 : decide (3 < (H9 ByteArray.empty t102 a13).size) = true := decide_eq_true (by omega)
             clear c45
             replace H := Q5 H; obtain ⟨ew9, ex0, H⟩ := H
             replace H := Q5 H; obtain ⟨cp8, cp9, H⟩ := H
             have H' := j4.mk H
             clear H
             go_wp2
             go_meet
             case rel => exact ⟨_, ((((H9 ByteArray.empty t102 a13).extract 0 3).toList == ([116, 111, 32] : List UInt8))), zs, H', ⟨by have := HK1.out; have := HJ9.out; have := c71.out; first | omega | exact Nat.le_refl _⟩, ⟨rO L9⟩, ⟨rO H7⟩, ⟨kQ j5⟩, ⟨kQ Q3⟩, ⟨zB⟩⟩
            ·have dW2 : decide (3 < (H9 ByteArray.empty t102 a13).size) = false := decide_eq_false (by omega)
             clear c45
             have H' := j4.mk H
             clear H
             go_wp2
             go_meet
             case rel => exact ⟨_, (false), zs, H', ⟨by have := HK1.out; have := HJ9.out; have := c71.out; first | omega | exact Nat.le_refl _⟩, ⟨rO L9⟩, ⟨rO H7⟩, ⟨kQ j5⟩, ⟨kQ Q3⟩, ⟨zB⟩⟩
           ·(first | rw [bE2] | (simp only [Z1, aa5]; rw [bE2]) | skip)
            have H' := j4.mk H
            clear H
            go_wp2
            go_meet
            case rel => exact ⟨_, (false), zs, H', ⟨by have := HK1.out; have := HJ9.out; have := c71.out; first | omega | exact Nat.le_refl _⟩, ⟨rO L9⟩, ⟨rO H7⟩, ⟨kQ j5⟩, ⟨kQ Q3⟩, ⟨zB⟩⟩
          case rest =>
           clear dA9
           obtain ⟨kq, c73, rfl, HA, dW3, L9, H7, j5, Q3, HB⟩ := hcut
           cases kq with
           | zero => exact absurd HA.out (by simp [C9.j3])
           | succ ei8 =>
            have H := HA.out
            clear HA
            simp only [C9.j3] at H
            replace H := itb H; rcases H with ⟨rfl, H⟩ | ⟨rfl, H⟩
            ·replace H := Q5 H; obtain ⟨dP6, ex1, H⟩ := H
             replace H := S2 H; obtain ⟨⟨t112, t113, t114⟩, A50, H⟩ := H
             dsimp only at H
             replace H := itb H; rcases H with ⟨rfl, H⟩ | ⟨rfl, H⟩
             ·replace H := aj5 H; obtain ⟨dW4, H⟩ := H
              first | (with_reducible replace H := bns H; obtain ⟨aw0, bS4, H⟩ := H) | (generalize V5 : (a00 ++ [(⟨t112, t113⟩ : G6)] : List (G6)) = aw0 at H; have bS4 := j4.mk V5.symm; clear V5)
              have H' := j4.mk H
              clear H
              go_wp2_with (first | ((with_reducible refine j6 (f := 87) rfl ?_); refine gv 85 Tryz.func87 _ (D0.calls (w := _) (h := A50.out)) ?_; intro w53 hb; replace L9 := rS L9 hb; replace H7 := rS H7 hb; replace j5 := kS j5 hb; replace Q3 := kS Q3 hb; replace HB := bS hb; clear hb) | ((with_reducible refine l9 (N := 12) rfl ?_); (try (refine Q4 (by rfl) ?_; dsimp only)); refine bx (cs := #[.string ⟨#[]⟩, .string ⟨#[]⟩]) (t := 32) ?_; intro aE2 hg w54 o8 hb; replace L9 := rS L9 hb; replace H7 := j4.mk (Kd.am5 (Kd.as4 (rO H7) aE2 (Nat.le_of_eq hg.symm)) hb); have Y8 := j4.mk (o8); have cr1 := gS hg; have cr2 := gS hg; have ar0 := nS hg j5; have ar1 := nG hg j5; replace j5 := kS j5 hb; have bc8 := nS hg Q3; have bc9 := nG hg Q3; replace Q3 := kS Q3 hb; replace HB := bS hb; clear hb o8 hg; have dk9 := ar1.out; have dl0 := ar0.out; have ex2 := bc9.out; have ex3 := bc8.out; have df5 := cz2 Y8.out; have df6 := fz2 Y8.out; have cE9 := av8.out; have cF0 := av7.out; have bQ3 := cz4 Q3.out; have bQ4 := fz4 Q3.out) | ((with_reducible refine N8 (b := .append) (xs := #[.tmp 92, .tmp 94]) rfl ?_); (try (refine Q4 (by rfl) ?_; dsimp only)); at_builtin; refine Kd.a89 k32 (w0 := w) w.heap.size rfl (.tmp 92) (.tmp 94) 33 32 (.agg #[(.string ⟨#[]⟩), (.string ⟨#[]⟩)]) 32 rfl Tryz.underlying33 bo4 rfl I1 (by omega) at6 a00 (⟨t112, t113⟩ : G6) [.string t112, .string t113] (fun k_ => k_ ≠ aE2) (fun _ => False) rfl (by first | (go_simp; done) | (go_simp; rfl)) ?aP (fun _ hk => hk.elim) ?aF ?aO ?aB ?aS ?aL ?_; (case aP => exact aQ2 _ _ _ (⟨t112, t113⟩ : G6)); (case aB => exact zB); (case aF => exact (fun k_ hk => (kG Y8) k_ hk)); (case aO => exact (by (with_reducible repeat (first | apply Kd.N9 | apply Kd.M8 | apply Kd.O0)); exact Kd.E0 (Kd.M9 (p := ⟨aE2, 1, none⟩) (Kd.M9 (p := ⟨aE2, 0, none⟩) (Kd.E0 H7.out (fun k_ hk => (⟨hk, hk.2⟩ : _ ∧ k_ ≠ aE2))) (fun _ hk => hk.2) (.string t112)) (fun _ hk => hk.2) (.string t113)) (fun _ hk => hk.1.2))); (case aS => exact (bZ)); (case aL => have := dW4.out; omega); intro v117 w60 ho hb hg hat; rw [← bS4.out] at ho; have P5 := j4.mk (Kd.X4 (fO L9 Y8) (Kd.a44 (by (with_reducible repeat (first | apply Kd.N9 | apply Kd.M8 | apply Kd.O0)); exact (Kd.E0 (Kd.M9 (p := ⟨aE2, 1, none⟩) (Kd.M9 (p := ⟨aE2, 0, none⟩) (Kd.E0 H7.out (fun k_ hk => (⟨hk, hk.2⟩ : _ ∧ k_ ≠ aE2))) (fun _ hk => hk.2) (.string t112)) (fun _ hk => hk.2) (.string t113)) (fun _ h_ => h_.1)))) I1 hg); have P6 := j4.mk (I4 (g := j8) (o := .cells #[.string a38, .string a39, .slice none 0 0, .slice none 0 0] 35 (0, 0)) (kQ j5) hg (Kd.U6 H7.out j5.out I1)); have n2_ := j4.mk (I4 (g := ba2) (o := .cells #[.string a06, .string a07, at6, .slice none 0 0] 35 (0, 0)) (kQ Q3) hg (Kd.U6 H7.out Q3.out I1)); have n3_ := j4.mk (I4 (g := aE2) (o := .cells #[.string t112, .string t113] 32 (0, 0)) (kQ Y8) hg (Kd.bm8 H7.out (fun _ hk => hk.2))); have n4_ := j4.mk (hb); have n5_ := j4.mk (ho); clear L9 j5 Q3 Y8 HB H7; have L9 := P5; have j5 := P6; have Q3 := n2_; have Y8 := n3_; have HB := n4_; have a95 := n5_; clear P5 P6 n2_ n3_ n4_ n5_ ho hb hg hat; obtain ⟨bw7, bw8, cF1⟩ := Kd.s7 a95.out; subst cF1; have dl1 := cz4 Q3.out; have dl2 := fz4 Q3.out))
              go_roundg ei8
              case measure => have := HK1.out; have := HJ9.out; have := c71.out; have := dW3.out; omega
              case rel => exact ⟨((wrap64 ((wrap64 (a26 + ((H9 ByteArray.empty t102 a13).size : Int))) + 2))), (wrap64 (a13 + 1)), (a38), (a39), (a06), (a07), (aw0), (.slice bw7 aw0.length bw8), zs, zs, H', ⟨by have := HK1.out; have := HJ9.out; have := c71.out; have := dW3.out; omega⟩, ⟨fM L9 Q3 (fun _ hk => trivial)⟩, ⟨fM a95 Q3 (fun _ hk => trivial)⟩, ⟨kQ j5⟩, ⟨kQ Q3⟩, ⟨zB⟩⟩
             ·simp only [Option.some.injEq, Prod.mk.injEq] at H
              obtain ⟨rfl, rfl, rfl, rfl, rfl⟩ := H
              go_wp2_with (first | ((with_reducible refine j6 (f := 87) rfl ?_); refine gv 85 Tryz.func87 _ (D0.calls (w := _) (h := A50.out)) ?_; intro w63 hb; replace L9 := rS L9 hb; replace H7 := rS H7 hb; replace j5 := kS j5 hb; replace Q3 := kS Q3 hb; replace HB := bS hb; clear hb) | ((with_reducible refine l9 (N := 12) rfl ?_); (try (refine Q4 (by rfl) ?_; dsimp only)); refine bx (cs := #[.string ⟨#[]⟩, .string ⟨#[]⟩]) (t := 32) ?_; intro aE2 hg w64 o8 hb; replace L9 := rS L9 hb; replace H7 := j4.mk (Kd.am5 (Kd.as4 (rO H7) aE2 (Nat.le_of_eq hg.symm)) hb); have Y8 := j4.mk (o8); have cr1 := gS hg; have cr2 := gS hg; have ar0 := nS hg j5; have ar1 := nG hg j5; replace j5 := kS j5 hb; have bc8 := nS hg Q3; have bc9 := nG hg Q3; replace Q3 := kS Q3 hb; replace HB := bS hb; clear hb o8 hg; have dV8 := ar1.out; have dV9 := ar0.out; have ex4 := bc9.out; have ex5 := bc8.out; have dj3 := cz2 Y8.out; have dj4 := fz2 Y8.out; have cf4 := av8.out; have cf5 := av7.out; have bS0 := cz4 Q3.out; have bS1 := fz4 Q3.out; have df0 := cz4 j5.out; have df1 := fz4 j5.out; obtain ⟨a66, a67, dt8⟩ := Kd.s7 H7.out; subst dt8))
              refine bodyPost_ret (I2 rfl _ _ j8 35 #[.string a06, .string a07, .slice a66 a00.length a67, .slice none 0 0] (0, 0) _ rfl (kQ j5) Tryz.underlying35 rfl z2_) rfl ?_
              exact ⟨_, _, zr, by (with_reducible repeat (first | apply Kd.N9 | apply Kd.M8 | apply Kd.O0)); exact Kd.E0 (Kd.M9 (p := ⟨j8, 3, none⟩) (Kd.M9 (p := ⟨j8, 2, none⟩) (Kd.M9 (p := ⟨j8, 1, none⟩) (Kd.M9 (p := ⟨j8, 0, none⟩) (Kd.M9 (p := ⟨aE2, 1, none⟩) (Kd.M9 (p := ⟨aE2, 0, none⟩) (Kd.z8 (Kd.E0 H7.out (fun k_ hk => (⟨hk, hk.2⟩ : _ ∧ k_ ≠ aE2))) j5.out I1) (fun _ hk => hk.1.2) (.string t112)) (fun _ hk => hk.1.2) (.string t113)) (fun _ hk => hk.2) (.string a06)) (fun _ hk => hk.2) (.string a07)) (fun _ hk => hk.2) (.slice a66 a00.length a67)) (fun _ hk => hk.2) (.slice none 0 0)) (fun _ hk => trivial), zn, zB⟩
            ·simp only [Option.some.injEq, Prod.mk.injEq] at H
             obtain ⟨rfl, rfl, rfl, rfl, rfl⟩ := H
             have ex6 := av8.out
             have ex7 := av7.out
             have dj6 := cz4 Q3.out
             have dj7 := fz4 Q3.out
             have dj8 := cz4 j5.out
             have dj9 := fz4 j5.out
             obtain ⟨ei9, ej0, ej1⟩ := Kd.s7 H7.out
             subst ej1
             go_wp2
             refine bodyPost_ret (I2 rfl _ _ j8 35 #[.string a06, .string a07, .slice ei9 a00.length ej0, .slice none 0 0] (0, 0) _ rfl (kQ j5) Tryz.underlying35 rfl z2_) rfl ?_
             exact ⟨_, _, zr, fM H7 j5 (fun _ hk => trivial), zn, zB⟩
   ·simp only [Option.some.injEq, Prod.mk.injEq] at H
    obtain ⟨rfl, rfl, rfl, rfl, rfl⟩ := H
    obtain ⟨eK5, eK6, ej2⟩ := Kd.s7 L9.out
    subst ej2
    have ex8 := av8.out
    have ex9 := av7.out
    have ey0 := cz4 Q3.out
    have ey1 := fz4 Q3.out
    have dW5 := cz4 j5.out
    have dW6 := fz4 j5.out
    obtain ⟨ai6, ai7, cX2⟩ := Kd.s7 H7.out
    subst cX2
    go_wp2
    refine bodyPost_ret (I2 rfl _ _ j8 35 #[.string a06, .string a07, .slice ai6 a00.length ai7, .slice none 0 0] (0, 0) _ rfl (kQ j5) Tryz.underlying35 rfl z2_) rfl ?_
    exact ⟨_, _, zr, fM H7 j5 (fun _ hk => trivial), zn, zB⟩
end Go.Proofs.YtbncnjgflhoneaaGreatDoor.F
