/- Of this claim, merged by program: F133. -/
import Derived.Test.YtbncnjgflhoneaaGreatDoorN02
set_option linter.unusedVariables false
set_option linter.unusedSimpArgs false
namespace Go.Proofs.YtbncnjgflhoneaaGreatDoor.F
open Go.RowKit Go.Proofs.YtbncnjgflhoneaaGreatDoor.Hand Go.Proofs.YtbncnjgflhoneaaGreatDoorW.l8 Go.Proofs.YtbncnjgflhoneaaGreatDoorW.s9 Go.Proofs.YtbncnjgflhoneaaGreatDoorW.y9
def R6.l0 : Nat → Int → Int → Int → Option (Int)
 | 0, _, _, _ => none
 | k + 1, x0, x3, x4 => if x4 < x0 then (R6.l0 k x0 (wrap64 (x3 * 2)) (wrap64 (x4 + 1))) else (some x3)
def R6.f (k : Nat) (a0 : Int) : Option (Int) := R6.l0 k a0 2 1
set_option maxHeartbeats 8000000 in
set_option maxRecDepth 100000 in
theorem R6.calls (k : Nat) (a0 : Int) (r : Int) (w : World) (h : R6.f k a0 = some r) :
  Calls Tryz.prog 133 #[.int .i64 a0] w fun e w' => e = .returned (.int .i64 r) ∧ O7 w w' := by
 have H := h
 clear h
 unfold R6.f at H
 have H' := j4.mk H
 clear H
 go_enter Tryz.func133, Tryz.ntmps133
 go_wp2
 go_loopg [3, 4] k (fun kq v3 v4 w' => ∃ (E8 : Int) (I3 : Int), v3 = .int .i64 E8 ∧ v4 = .int .i64 I3 ∧ j4 (R6.l0 kq a0 E8 I3 = some r) ∧ j4 (kq ≤ k) ∧ O7 w w')
 case atStart => exact ⟨(2), (1), zs, zs, H', ⟨Nat.le_refl _⟩, zD⟩
 case round =>
  clear H'
  obtain ⟨E8, I3, rfl, rfl, HA, HK1, ⟨m1, rfl⟩⟩ := hrel
  cases gk with
  | zero => exact absurd HA.out (by simp [R6.l0])
  | succ k1 =>
   have H := HA.out
   clear HA
   simp only [R6.l0] at H
   replace H := K2 H; rcases H with ⟨ak5, H⟩ | ⟨ak5, H⟩
   ·have H' := j4.mk H
    clear H
    go_wp2
    go_roundg k1
    case measure => have := HK1.out; omega
    case rel => exact ⟨(wrap64 (E8 * 2)), (wrap64 (I3 + 1)), zs, zs, H', ⟨by have := HK1.out; omega⟩, zD⟩
   ·obtain rfl := Option.some.inj H
    go_wp2
    go_ret
    exact ⟨zs, zD⟩
end Go.Proofs.YtbncnjgflhoneaaGreatDoor.F
