/- Of this claim, merged by program: F48, Z2, F51, F109, F99, F165, F130, F166, F131. -/
import Derived.Test.YtbncnjgflhoneaaGreatDoorN02
set_option linter.unusedVariables false
set_option linter.unusedSimpArgs false
namespace Go.Proofs.YtbncnjgflhoneaaGreatDoor.F
open Go.RowKit Go.Proofs.YtbncnjgflhoneaaGreatDoor.Hand Go.Proofs.YtbncnjgflhoneaaGreatDoorW.l8 Go.Proofs.YtbncnjgflhoneaaGreatDoorW.s9 Go.Proofs.YtbncnjgflhoneaaGreatDoorW.y9
def l5 (w0 W : World) (g : Nat) (f0 : List Int) (f1 : Int) : Prop := ∃ A0 c0, W.heap[g]? = some (.cells #[.slice A0 f0.length c0, .int .i64 f1] 109 (0, 0)) ∧ w0.heap.size ≤ g ∧ Kd.C (Kd.int .u8) w0 A0 f0.length f0
theorem l5.grown {w0 W : World} {g : Nat} {f0 : List Int} {f1 : Int} {W1 : World} {row : Option Nat} (h : l5 w0 W g f0 f1) (hw : W.grownBy W1 row) (hne : some g ≠ row) : l5 w0 W1 g f0 f1 := by
 obtain ⟨A0, c0, hb, hg, hr0⟩ := h
 exact ⟨A0, c0, I4 hb hw hne, hg, hr0⟩
theorem l5.fresh {w0 W : World} {g : Nat} {f0 : List Int} {f1 : Int} (h : l5 w0 W g f0 f1) : ∀ k, W.heap.size ≤ k → k ≠ g := by
 obtain ⟨A0, c0, hb, hg, hr0⟩ := h
 exact Kd.dp1 hb
theorem l5.below {w0 W : World} {g : Nat} {f0 : List Int} {f1 : Int} {W1 : World} (h : l5 w0 W g f0 f1) (hw : Below W.heap.size W W1) : l5 w0 W1 g f0 f1 := h.grown (bm3 hw none) (by simp)
theorem l5.drewN {w0 W : World} {g : Nat} {f0 : List Int} {f1 : Int} (h : l5 w0 W g f0 f1) (m : Nat) : l5 w0 (W.drewN m) g f0 f1 := h
theorem l5.drew {w0 W : World} {g : Nat} {f0 : List Int} {f1 : Int} (h : l5 w0 W g f0 f1) : l5 w0 W.drew g f0 f1 := h
theorem l5.apart {w0 W : World} {g : Nat} {f0 : List Int} {f1 : Int} {α : Type} {d : Kd α} {e : Nat} {base : Nat} {ok : Nat → Prop} {v : Value} {xs : List α} (h : l5 w0 W g f0 f1) (ho : d.R e W base ok v xs) (ht : ∀ q, q ∈ e :: d.E → q ≠ 109) : d.R e W base (fun k => ok k ∧ k ≠ g) v xs := by
 obtain ⟨A0, c0, hb, hg, hr0⟩ := h
 exact Kd.z8 ho hb ht
theorem l5.aw4 {w0 W : World} {g : Nat} {f0 : List Int} {f1 : Int} {α : Type} {d : Kd α} {e : Nat} {base : Nat} {ok : Nat → Prop} {v : Value} {xs : List α} (h : l5 w0 W g f0 f1) (ho : d.R e W base ok v xs) (ht : e ≠ 109) : some g ≠ v.ownBlock := by
 obtain ⟨A0, c0, hb, hg, hr0⟩ := h
 exact Kd.U6 ho hb ht
theorem l5.lt {w0 W : World} {g : Nat} {f0 : List Int} {f1 : Int} (h : l5 w0 W g f0 f1) : g < W.heap.size := by
 obtain ⟨A0, c0, hb, hg, hr0⟩ := h
 exact aP9 hb
theorem l5.ge {w0 W : World} {g : Nat} {f0 : List Int} {f1 : Int} (h : l5 w0 W g f0 f1) : w0.heap.size ≤ g := by
 obtain ⟨A0, c0, hb, hg, hr0⟩ := h
 exact hg
theorem l5.far {w0 W : World} {g : Nat} {f0 : List Int} {f1 : Int} {p : Addr} (h : l5 w0 W g f0 f1) (hne : g ≠ p.block) (u : Value) : l5 w0 (W.setCell p u) g f0 f1 := by
 obtain ⟨A0, c0, hb, hg, hr0⟩ := h
 exact ⟨A0, c0, cT3 hb hne u, hg, hr0⟩
theorem aQ5 {W : World} {g : Nat} {A0 : Option Addr} {c0 : Nat} {f0 : List Int} {f1 : Int} (h : W.heap[g]? = some (.cells #[.slice A0 f0.length c0, .int .i64 f1] 109 (0, 0))) : W.cell? ⟨g, 0, none⟩ = some (.slice A0 f0.length c0) := (l7 h 0).trans rfl
theorem aQ6 {W : World} {g : Nat} {A0 : Option Addr} {c0 : Nat} {f0 : List Int} {f1 : Int} (h : W.heap[g]? = some (.cells #[.slice A0 f0.length c0, .int .i64 f1] 109 (0, 0))) : W.cell? ⟨g, 1, none⟩ = some (.int .i64 f1) := (l7 h 1).trans rfl
theorem l5.af6 {w0 W : World} {g : Nat} {f0 : List Int} {f1 : Int} (h : l5 w0 W g f0 f1) (x : Int) : l5 w0 (W.setCell ⟨g, 1, none⟩ (.int .i64 x)) g f0 x := by
 obtain ⟨A0, c0, hb, hg, hr0⟩ := h
 exact ⟨A0, c0, by simpa using bF3 hb 1 (.int .i64 x), hg, hr0⟩
def af7.f (l0 : List Int) : Option (List Int × Int) := if (l0.length : Int) > 2000 then (if 2000 ≤ (l0.length : Int) then (some (l0.take 2000, 0)) else (none)) else (some (l0, 0))
set_option maxHeartbeats 8000000 in
set_option maxRecDepth 100000 in
theorem af7.calls (A0 : Option Addr) (c0 : Nat) (l0 : List Int) (r1 : List Int) (r2 : Int) (w0 w : World) (hB : Below w0.heap.size w0 w) (hr0 : Kd.C (Kd.int .u8) w0 A0 l0.length l0) (hc0 : l0.length ≤ c0) (h : af7.f l0 = some (r1, r2)) :
  Calls Tryz.prog 48 #[.slice A0 l0.length c0] w fun e w' => ∃ g_ : Nat, e = .returned (.pointer (some ⟨g_, 0, none⟩)) ∧ l5 w0 w' g_ r1 r2 ∧ Below w0.heap.size w0 w' ∧ Below w.heap.size w w' := by
 have em9 := Tryz.underlying109
 have HR0 := j4.mk hr0
 have HC0 := j4.mk hc0
 clear hr0 hc0
 have HBW := j4.mk (Below.refl w.heap.size w)
 have HW0 := j4.mk hB.size
 have HB := j4.mk hB
 clear hB
 have H := h
 clear h
 unfold af7.f at H
 replace H := a29 H; rcases H with ⟨c2, ak5, H⟩ | ⟨c2, ak5, H⟩
 ·have aJ6 : decide (2000 < l0.length) = true := decide_eq_true (by omega)
  clear c2
  replace H := Q5 H; obtain ⟨aD1, aZ5, H⟩ := H
  simp only [Option.some.injEq, Prod.mk.injEq] at H
  obtain ⟨rfl, rfl⟩ := H
  obtain ⟨i04, dF6, _, dF7, _⟩ := info_parts dF2
  obtain ⟨en0, hA4, hC4⟩ := bv8 (P := Tryz.prog) (Value.int .u8) 0 41 5 .i64 Tryz.underlying41 dF6 dF7 A0 c0 l0 2000 (by omega) (of_decide_eq_true za) HC0.out
  have dF8 := j4.mk (Kd.bm7 (h1 := fun _ => rfl) (hA4 _ (Kd.b33 HR0.out)))
  have en1 := j4.mk hC4
  clear hA4 hC4 dF6 dF7
  go_enter Tryz.func48, Tryz.ntmps48
  go_wp2_with (first | ((with_reducible refine l9 (N := 10) rfl ?_); refine bx (cs := #[.slice A0 (l0.take 2000).length c0, .int .i64 0]) (t := 109) ?_; intro o7 hg w5 o8 hb; have j7 := j4.mk (o8); have as7 := j4.mk ((by rw [hg]; exact (aQ0 (by repeat (first | (with_reducible first | exact HBW.out | apply P2 | apply J9 | apply E9) | exact HBW.out))) : w.heap.size ≤ o7)); have al6 := j4.mk ((Nat.le_trans HW0.out (by rw [hg]; exact (aQ0 (by repeat (first | (with_reducible first | exact HBW.out | apply P2 | apply J9 | apply E9) | exact HBW.out))) : w.heap.size ≤ o7) : w0.heap.size ≤ o7)); replace HBW := j4.mk (aQ1 HBW.out hb); replace HB := bS hb; clear hb o8 hg))
  go_ret
  exact ⟨_, rfl, (show l5 w0 _ o7 (l0.take 2000) 0 from ⟨_, _, kQ j7, al6.out, dF8.out⟩), zB, by repeat (first | (with_reducible first | exact HBW.out | apply P2 | apply J9 | apply E9 | refine I5 ?_ as7.out) | exact HBW.out)⟩
 ·have aJ6 : decide (2000 < l0.length) = false := decide_eq_false (by omega)
  clear c2
  simp only [Option.some.injEq, Prod.mk.injEq] at H
  obtain ⟨rfl, rfl⟩ := H
  go_enter Tryz.func48, Tryz.ntmps48
  go_wp2_with (first | ((with_reducible refine l9 (N := 10) rfl ?_); refine bx (cs := #[.slice A0 l0.length c0, .int .i64 0]) (t := 109) ?_; intro K6 hg w6 o8 hb; have E7 := j4.mk (o8); have cD3 := j4.mk ((by rw [hg]; exact (aQ0 (by repeat (first | (with_reducible first | exact HBW.out | apply P2 | apply J9 | apply E9) | exact HBW.out))) : w.heap.size ≤ K6)); have cD4 := j4.mk ((Nat.le_trans HW0.out (by rw [hg]; exact (aQ0 (by repeat (first | (with_reducible first | exact HBW.out | apply P2 | apply J9 | apply E9) | exact HBW.out))) : w.heap.size ≤ K6) : w0.heap.size ≤ K6)); replace HBW := j4.mk (aQ1 HBW.out hb); replace HB := bS hb; clear hb o8 hg))
  go_ret
  exact ⟨_, rfl, (show l5 w0 _ K6 l0 0 from ⟨_, _, kQ E7, cD4.out, HR0.out⟩), zB, by repeat (first | (with_reducible first | exact HBW.out | apply P2 | apply J9 | apply E9 | refine I5 ?_ cD3.out) | exact HBW.out)⟩
end Go.Proofs.YtbncnjgflhoneaaGreatDoor.F
namespace Go.Proofs.YtbncnjgflhoneaaGreatDoor.F
open Go.RowKit Go.Proofs.YtbncnjgflhoneaaGreatDoor.Hand Go.Proofs.YtbncnjgflhoneaaGreatDoorW.l8 Go.Proofs.YtbncnjgflhoneaaGreatDoorW.s9 Go.Proofs.YtbncnjgflhoneaaGreatDoorW.y9
theorem zI {P : Prop} (h : P := by repeat (first | (with_reducible first | exact HI0.out | apply l5.alloc | apply l5.drewN | apply l5.drew | apply l5.af6) | refine l5.far ?_ (j4.out (by assumption)) _ | exact HI0.out)) : P := h
theorem zK {P : Prop} (h : P := by repeat (first | (with_reducible first | exact HK.out | apply y5.bX8 | apply at7 | apply ae9 | apply aA3) | refine aI9 ?_ (j4.out (by assumption)) _ | exact HK.out)) : P := h
section
variable {w w0 W w1 w2 : World} {g g' : Nat} {s : List Int} {t : Int} {ob ob0 : Obj}
theorem kZ (H_ : j4 (y5 w w1 g none)) (k : y5 w w1 g none → y5 w W g none := by intro h_; (repeat (first | (with_reducible first | exact h_ | apply y5.bX8 | apply at7 | apply ae9 | apply aA3) | refine aI9 ?_ (j4.out (by assumption)) _)); first | done | exact h_) : w.heap.size ≤ W.heap.size := aX8 (k H_.out)
theorem KS (H_ : j4 (y5 w w1 g none)) (hk : y5 W w2 g none) (k : y5 w w1 g none → y5 w W g none := by intro h_; (repeat (first | (with_reducible first | exact h_ | apply y5.bX8 | apply at7 | apply ae9 | apply aA3) | refine aI9 ?_ (j4.out (by assumption)) _)); first | done | exact h_) : j4 (y5 w w2 g none) := ⟨y5.trans (k H_.out) hk (.inl rfl)⟩
theorem KT (H_ : j4 (y5 w w1 g none)) (hb : Below W.heap.size W w2) (k : y5 w w1 g none → y5 w W g none := by intro h_; (repeat (first | (with_reducible first | exact h_ | apply y5.bX8 | apply at7 | apply ae9 | apply aA3) | refine aI9 ?_ (j4.out (by assumption)) _)); first | done | exact h_) : j4 (y5 w w2 g none) := ⟨y5.trans (k H_.out) (y5.cz1 hb g none) (.inl rfl)⟩
theorem IS (H_ : j4 (l5 w0 w1 g s t)) (hb : Below W.heap.size W w2) (k : l5 w0 w1 g s t → l5 w0 W g s t := by intro h_; (repeat (first | (with_reducible first | exact h_ | apply l5.alloc | apply l5.drewN | apply l5.drew) | refine l5.far ?_ (j4.out (by assumption)) _)); first | done | exact h_) : j4 (l5 w0 w2 g s t) := ⟨l5.below (k H_.out) hb⟩
theorem GT (H_ : j4 (y5 w w1 g none)) (e : g' = W.heap.size) (h0 : j4 (w0.heap.size ≤ w.heap.size)) (k : y5 w w1 g none → y5 w W g none := by intro h_; (repeat (first | (with_reducible first | exact h_ | apply y5.bX8 | apply at7 | apply ae9 | apply aA3) | refine aI9 ?_ (j4.out (by assumption)) _)); first | done | exact h_) : j4 (w0.heap.size ≤ g') := ⟨Nat.le_trans h0.out (by rw [e]; exact aX8 (k H_.out))⟩
theorem GK (H_ : j4 (y5 w w1 g none)) (e : g' = W.heap.size) (k : y5 w w1 g none → y5 w W g none := by intro h_; (repeat (first | (with_reducible first | exact h_ | apply y5.bX8 | apply at7 | apply ae9 | apply aA3) | refine aI9 ?_ (j4.out (by assumption)) _)); first | done | exact h_) : j4 (w.heap.size ≤ g') := ⟨by rw [e]; exact aX8 (k H_.out)⟩
theorem IL (H_ : j4 (l5 w0 w1 g s t)) (e : g' = W.heap.size) (k : l5 w0 w1 g s t → l5 w0 W g s t := by intro h_; (repeat (first | (with_reducible first | exact h_ | apply l5.alloc | apply l5.drewN | apply l5.drew) | refine l5.far ?_ (j4.out (by assumption)) _)); first | done | exact h_) : j4 (g ≠ g') := ⟨by rw [e]; exact Nat.ne_of_lt (l5.lt (k H_.out))⟩
theorem IG (H_ : j4 (l5 w0 w1 g s t)) (e : g' = W.heap.size) (k : l5 w0 w1 g s t → l5 w0 W g s t := by intro h_; (repeat (first | (with_reducible first | exact h_ | apply l5.alloc | apply l5.drewN | apply l5.drew) | refine l5.far ?_ (j4.out (by assumption)) _)); first | done | exact h_) : j4 (g' ≠ g) := ⟨by rw [e]; exact Nat.ne_of_gt (l5.lt (k H_.out))⟩
theorem bF (H_ : j4 (Below w.heap.size w w1)) (hb : Below W.heap.size W w2) (k : Below w.heap.size w w1 → Below w.heap.size w W := by intro h_; (repeat (first | (with_reducible first | exact h_ | apply P2 | apply J9 | apply E9) | refine I5 ?_ (j4.out (by assumption)))); first | done | exact h_) : j4 (Below w.heap.size w w2) := ⟨aQ1 (k H_.out) hb⟩
theorem KB (hk : y5 W w1 g none) (h : j4 (w.heap[g']? = some ob)) (n : j4 (g' ≠ g)) (k : w.heap[g']? = some ob → W.heap[g']? = some ob := by intro h_; (repeat (first | (with_reducible first | exact h_ | apply aq0 | apply I7 | apply ac8) | refine kF ?_ (j4.out (by assumption)) _)); first | done | exact h_) : j4 (w1.heap[g']? = some ob) := ⟨y5.blk hk (k h.out) n.out (by simp)⟩
theorem KP (ob : Obj) (hk : y5 W w1 g none) (h : j4 (w.heap[g']? = some ob0)) (n : j4 (g' ≠ g)) (k : w.heap[g']? = some ob0 → W.heap[g']? = some ob := by intro h_; (repeat (first | (with_reducible first | exact h_ | apply aq0 | apply I7 | apply ac8) | refine kF ?_ (j4.out (by assumption)) _ | apply bF7)) <;> first | (with_reducible exact h_) | (simp only [List.setIfInBounds_toArray, List.set_cons_zero, List.set_cons_succ]; first | done | rfl) | rfl) : j4 (w1.heap[g']? = some ob) := ⟨y5.blk hk (k h.out) n.out (by simp)⟩
variable {α : Type} {d : Kd α} {e base : Nat} {ok : Nat → Prop} {v : Value} {xs : List α}
theorem RK (hk : y5 W w1 g none) (h : j4 (d.R e w base ok v xs)) (H_ : j4 (l5 w0 w2 g s t)) (i : l5 w0 w2 g s t → l5 w0 W g s t := by intro h_; (repeat (first | (with_reducible first | exact h_ | apply l5.alloc | apply l5.drewN | apply l5.drew) | refine l5.far ?_ (j4.out (by assumption)) _)); first | done | exact h_) (ht : ∀ q, q ∈ e :: d.E → q ≠ 109 := by decide) (k : d.R e w base ok v xs → d.R e W base ok v xs := by intro h_; (with_reducible repeat (first | apply Kd.N9 | apply Kd.M8 | apply Kd.O0)); exact h_) : j4 (d.R e w1 base ok v xs) := ⟨Kd.E0 (Kd.aU7 (l5.apart (i H_.out) (k h.out) ht) hk (fun _ h => h.2)) (fun _ h => h.1)⟩
theorem RG {t' : Nat} {cs : Array Value} (hk : y5 W w1 g none) (h : j4 (d.R e w base ok v xs)) (b : j4 (w.heap[g']? = some (.cells cs t' (0, 0)))) (H_ : j4 (l5 w0 w2 g s t)) (i : l5 w0 w2 g s t → l5 w0 W g s t := by intro h_; (repeat (first | (with_reducible first | exact h_ | apply l5.alloc | apply l5.drewN | apply l5.drew) | refine l5.far ?_ (j4.out (by assumption)) _)); first | done | exact h_) (ht : ∀ q, q ∈ e :: d.E → q ≠ 109 := by decide) (ht' : ∀ q, q ∈ e :: d.E → q ≠ t' := by decide)
  (k : d.R e w base (fun k => ok k ∧ k ≠ g') v xs → d.R e W base (fun k => ok k ∧ k ≠ g') v xs := by intro h_; (repeat (first | (with_reducible first | exact h_ | apply Kd.N9 | apply Kd.M8 | apply Kd.O0) | refine Kd.M9 ?_ (fun _ hk => hk.2) _)); first | done | exact h_) : j4 (d.R e w1 base ok v xs) := ⟨Kd.E0 (Kd.aU7 (l5.apart (i H_.out) (Kd.E0 (k (Kd.z8 h.out b.out ht')) (fun _ h => h.1)) ht) hk (fun _ h => h.2)) (fun _ h => h.1)⟩
theorem lK {ok : Nat → Prop} (H_ : j4 (y5 w w2 g none)) (h : d.R e w1 W.heap.size ok v xs) (k : y5 w w2 g none → y5 w W g none := by intro h_; (repeat (first | (with_reducible first | exact h_ | apply y5.bX8 | apply at7 | apply ae9 | apply aA3) | refine aI9 ?_ (j4.out (by assumption)) _)); first | done | exact h_) : j4 (d.R e w1 w.heap.size ok v xs) := ⟨Kd.T9 h (aX8 (k H_.out))⟩
end
end Go.Proofs.YtbncnjgflhoneaaGreatDoor.F
namespace Go.Proofs.YtbncnjgflhoneaaGreatDoor.F
open Go.RowKit Go.Proofs.YtbncnjgflhoneaaGreatDoor.Hand Go.Proofs.YtbncnjgflhoneaaGreatDoorW.l8 Go.Proofs.YtbncnjgflhoneaaGreatDoorW.s9 Go.Proofs.YtbncnjgflhoneaaGreatDoorW.y9
def l6.j0 : Nat → Int → Bool → List Int → Int → Option (Int × Int)
 | 0, _, _, _, _ => none
 | k + 1, x1, x24, x1000, a34 => if x24 = true then (some (0, a34)) else (if (wrap64 (a34 - 1)) < (x1000.length : Int) then (if 0 ≤ (wrap64 (a34 - 1)) then (if x1 = 0 then (none) else (some (Int.tmod (wrap64 (rd x1000 (wrap64 (a34 - 1)))) x1, a34))) else (none)) else (if (x1000.length : Int) = 0 then (none) else (if 0 ≤ (Int.tmod (wrap64 (a34 - 1)) (x1000.length : Int)) then (if (Int.tmod (wrap64 (a34 - 1)) (x1000.length : Int)) < (x1000.length : Int) then (if 0 ≤ (Int.tmod (wrap64 ((wrap64 ((wrap64 (a34 - 1)) * 7)) + 3)) (x1000.length : Int)) then (if (Int.tmod (wrap64 ((wrap64 ((wrap64 (a34 - 1)) * 7)) + 3)) (x1000.length : Int)) < (x1000.length : Int) then (if x1 = 0 then (none) else (some (Int.tmod (Go.bits .xor .i64 (wrap64 ((wrap64 ((wrap64 ((wrap64 ((wrap64 (rd x1000 (Int.tmod (wrap64 (a34 - 1)) (x1000.length : Int)))) * 131)) + (wrap64 ((wrap64 (rd x1000 (Int.tmod (wrap64 ((wrap64 ((wrap64 (a34 - 1)) * 7)) + 3)) (x1000.length : Int)))) * 1117)))) + (wrap64 ((wrap64 (a34 - 1)) * 29)))) + (wrap64 ((wrap64 (Int.tdiv (wrap64 (a34 - 1)) (x1000.length : Int))) * 53)))) (wrap64 (Int.tdiv (wrap64 ((wrap64 ((wrap64 ((wrap64 ((wrap64 (rd x1000 (Int.tmod (wrap64 (a34 - 1)) (x1000.length : Int)))) * 131)) + (wrap64 ((wrap64 (rd x1000 (Int.tmod (wrap64 ((wrap64 ((wrap64 (a34 - 1)) * 7)) + 3)) (x1000.length : Int)))) * 1117)))) + (wrap64 ((wrap64 (a34 - 1)) * 29)))) + (wrap64 ((wrap64 (Int.tdiv (wrap64 (a34 - 1)) (x1000.length : Int))) * 53)))) 64))) x1, a34))) else (none)) else (none)) else (none)) else (none))))
def l6.f (k : Nat) (L6 : List Int) (a03 : Int) (a1 : Int) : Option (Int × Int) := if a1 < 1 then (l6.j0 k a1 true L6 (wrap64 (a03 + 1))) else (l6.j0 k a1 ((L6.length : Int) == 0) L6 (wrap64 (a03 + 1)))
set_option maxHeartbeats 8000000 in
set_option maxRecDepth 100000 in
theorem l6.calls (k : Nat) (g : Nat) (L6 : List Int) (a03 : Int) (a1 : Int) (r1 : Int) (r2 : Int) (w0 w : World) (hI : l5 w0 w g L6 a03) (hB : Below w0.heap.size w0 w) (h : l6.f k L6 a03 a1 = some (r1, r2)) :
  Calls Tryz.prog 51 #[.pointer (some ⟨g, 0, none⟩), .int .i64 a1] w fun e w' => e = .returned (.int .i64 r1) ∧ l5 w0 w' g L6 r2 ∧ Below w0.heap.size w0 w' ∧ y5 w w' g none := by
 have HI0 := j4.mk hI
 have bp3 := j4.mk (l5.ge HI0.out)
 have HK := j4.mk (y5.refl w g none)
 have HL := j4.mk hB.size
 clear hI
 have HW0 := j4.mk hB.size
 have HB := j4.mk hB
 clear hB
 have H := h
 clear h
 unfold l6.f at H
 have HC3 := j4.mk H
 clear H
 obtain ⟨e81, e82, cV1, e83, e84⟩ := HI0.out
 have e85 := aQ5 cV1
 have e86 := aQ6 cV1
 have e87 := z7 cV1 1
 clear cV1 e83
 go_enter Tryz.func51, Tryz.ntmps51
 go_upto_region 2 with (fail)
 repeat (go_quiet (fail); go_upto_region 2 with (fail))
 go_cut [24] (fun v24 wc => ∃ (kq : Nat) (cD5 : Bool), v24 = .bool cD5 ∧ j4 (l6.j0 kq a1 cD5 L6 (wrap64 (a03 + 1)) = some (r1, r2)) ∧ j4 (kq ≤ k) ∧ j4 (l5 w0 wc g L6 (wrap64 (a03 + 1))) ∧ j4 (y5 w wc g none) ∧ j4 (Below w0.heap.size w0 wc))
 case first =>
  have H := HC3.out
  clear HC3
  replace H := K2 H; rcases H with ⟨ap1, H⟩ | ⟨ap1, H⟩
  ·(first | rw [ap1] | (simp only [Z1, aa5]; rw [ap1]) | skip)
   have H' := j4.mk H
   clear H
   go_wp2
   repeat (go_quiet (fail); try go_wp2)
   go_meet
   case rel => exact ⟨_, (true), zs, H', ⟨by first | omega | exact Nat.le_refl _⟩, ⟨zI⟩, ⟨zK⟩, ⟨zB⟩⟩
  ·(first | rw [ap1] | (simp only [Z1, aa5]; rw [ap1]) | skip)
   have H' := j4.mk H
   clear H
   obtain ⟨e88, e89, cV2, e90, e91⟩ := HI0.out
   have e92 := aQ5 cV2
   have e93 := aQ6 cV2
   have e94 := z7 cV2 1
   clear cV2 e90
   go_wp2
   repeat (go_quiet (fail); try go_wp2)
   go_meet
   case rel => exact ⟨_, (((L6.length : Int) == 0)), zs, H', ⟨by first | omega | exact Nat.le_refl _⟩, ⟨zI⟩, ⟨zK⟩, ⟨zB⟩⟩
 case rest =>
  clear HC3
  obtain ⟨kq, cD5, rfl, HA, HJ2, HI0, HK, HB⟩ := hcut
  cases kq with
  | zero => exact absurd HA.out (by simp [l6.j0])
  | succ kj2 =>
   have H := HA.out
   clear HA
   simp only [l6.j0] at H
   replace H := itb H; rcases H with ⟨rfl, H⟩ | ⟨rfl, H⟩
   ·simp only [Option.some.injEq, Prod.mk.injEq] at H
    obtain ⟨rfl, rfl⟩ := H
    go_wp2
    repeat (go_quiet (fail); try go_wp2)
    go_ret
    exact ⟨zr, zI, zB, zK⟩
   ·replace H := K2 H; rcases H with ⟨aN6, H⟩ | ⟨aN6, H⟩
    ·obtain ⟨ji9, bb4⟩ : ∃ j_ : Int, (wrap64 ((wrap64 (a03 + 1)) - 1)) = j_ := ⟨_, rfl⟩
     first | rw [bb4] at H | simp only [bb4] at H
     (try rw [bb4] at aN6)
     have dF9 : (IntKind.i64.wrap ((wrap64 (a03 + 1)) - 1)) = ji9 := (Z1 _).trans bb4
     replace H := S1 H; obtain ⟨aF1, H⟩ := H
     replace H := bi1 H; obtain ⟨c11, aV1, cc0, H⟩ := H
     simp only [Option.some.injEq, Prod.mk.injEq] at H
     obtain ⟨rfl, rfl⟩ := H
     obtain ⟨e24, e25, cc1, dG0, cV3⟩ := HI0.out
     have e26 := aQ5 cc1
     have e27 := aQ6 cc1
     have e28 := z7 cc1 1
     clear cc1 dG0
     have ak7 : 0 ≤ ((ji9) : Int) := of_decide_eq_true za
     have ak8 : (ji9) < (L6.length : Int) := of_decide_eq_true za
     obtain ⟨b67, aQ4, ax3⟩ := Kd.bF6 cV3 (ji9) ak7 ak8
     cases aQ4
     replace ax3 := aC5 HB.out ax3
     replace ak7 := eq_true ak7
     replace ak8 := eq_true ak8
     go_wp2
     repeat (go_quiet (fail); try go_wp2)
     go_ret
     exact ⟨by first | rfl | (simp [W6, W7] <;> rfl) | (simp only [← bb4]; first | rfl | (simp [W6, W7] <;> rfl)) | (simp [*, W6, W7] <;> rfl), zI, zB, zK⟩
    ·replace H := bi1 H; obtain ⟨c13, al5, aV3, H⟩ := H
     have cD6 : ¬ (L6 = []) := fun h_ => c13 (by rw [h_]; rfl)
     obtain ⟨dr2, cD7⟩ : ∃ j_ : Int, (Int.tmod (wrap64 ((wrap64 (a03 + 1)) - 1)) (L6.length : Int)) = j_ := ⟨_, rfl⟩
     first | rw [cD7] at H | simp only [cD7] at H
     replace H := S1 H; obtain ⟨aN7, H⟩ := H
     replace H := S1 H; obtain ⟨b21, H⟩ := H
     obtain ⟨dr3, cD8⟩ : ∃ j_ : Int, (Int.tmod (wrap64 ((wrap64 ((wrap64 ((wrap64 (a03 + 1)) - 1)) * 7)) + 3)) (L6.length : Int)) = j_ := ⟨_, rfl⟩
     first | rw [cD8] at H | simp only [cD8] at H
     replace H := S1 H; obtain ⟨be7, H⟩ := H
     replace H := S1 H; obtain ⟨aD4, H⟩ := H
     replace H := bi1 H; obtain ⟨c20, aL3, b22, H⟩ := H
     simp only [Option.some.injEq, Prod.mk.injEq] at H
     obtain ⟨rfl, rfl⟩ := H
     obtain ⟨e29, e30, cc2, dG1, cc3⟩ := HI0.out
     have e31 := aQ5 cc2
     have e32 := aQ6 cc2
     have e33 := z7 cc2 1
     clear cc2 dG1
     have aA4 : 0 ≤ ((dr2) : Int) := of_decide_eq_true za
     have aA5 : (dr2) < (L6.length : Int) := of_decide_eq_true za
     obtain ⟨aT8, bb5, at2⟩ := Kd.bF6 cc3 (dr2) aA4 aA5
     cases bb5
     replace at2 := aC5 HB.out at2
     replace aA4 := eq_true aA4
     replace aA5 := eq_true aA5
     have aj1 : 0 ≤ ((dr3) : Int) := of_decide_eq_true za
     have aj2 : (dr3) < (L6.length : Int) := of_decide_eq_true za
     obtain ⟨a47, aV4, ah1⟩ := Kd.bF6 cc3 (dr3) aj1 aj2
     obtain rfl : aT8 = a47 := (by injection aV4)
     replace ah1 := aC5 HB.out ah1
     replace aj1 := eq_true aj1
     replace aj2 := eq_true aj2
     go_wp2
     repeat (go_quiet (fail); try go_wp2)
     go_ret
     exact ⟨by first | rfl | (simp [W6, W7] <;> rfl) | (simp only [← cD7, ← cD8]; first | rfl | (simp [W6, W7] <;> rfl)) | (simp [*, W6, W7] <;> rfl), zI, zB, zK⟩
def a48.f (k : Nat) (L6 : List Int) (a03 : Int) (l1 : List Int) : Option (Int × Int) := (l6.f k L6 a03 (l1.length : Int)).bind fun Y6 => (if 0 ≤ Y6.1 then (if Y6.1 < (l1.length : Int) then (some (rd l1 Y6.1, Y6.2)) else (none)) else (none))
set_option maxHeartbeats 8000000 in
set_option maxRecDepth 100000 in
theorem a48.calls (k : Nat) (g : Nat) (L6 : List Int) (a03 : Int) (A1 : Option Addr) (c1 : Nat) (l1 : List Int) (r1 : Int) (r2 : Int) (w0 w : World) (hI : l5 w0 w g L6 a03) (hB : Below w0.heap.size w0 w) (hr1 : Kd.C (Kd.int .i64) w A1 l1.length l1) (hc1 : l1.length ≤ c1) (hf1 : ∀ ad, A1 = some ad → 0 < l1.length → ad.block ≠ g) (h : a48.f k L6 a03 l1 = some (r1, r2)) :
  Calls Tryz.prog 109 #[.pointer (some ⟨g, 0, none⟩), .slice A1 l1.length c1] w fun e w' => e = .returned (.int .i64 r1) ∧ l5 w0 w' g L6 r2 ∧ Below w0.heap.size w0 w' ∧ y5 w w' g none := by
 have HR1 := j4.mk hr1
 have HC1 := j4.mk hc1
 clear hr1 hc1
 have HI0 := j4.mk hI
 have bp3 := j4.mk (l5.ge HI0.out)
 have HK := j4.mk (y5.refl w g none)
 have HL := j4.mk hB.size
 clear hI
 have HW0 := j4.mk hB.size
 have HB := j4.mk hB
 clear hB
 have H := h
 clear h
 unfold a48.f at H
 replace H := S2 H; obtain ⟨⟨t101, t102⟩, A3, H⟩ := H
 dsimp only at H
 replace H := S1 H; obtain ⟨aD2, H⟩ := H
 replace H := S1 H; obtain ⟨ap1, H⟩ := H
 simp only [Option.some.injEq, Prod.mk.injEq] at H
 obtain ⟨rfl, rfl⟩ := H
 go_enter Tryz.func109, Tryz.ntmps109
 go_wp2_with (first | ((with_reducible refine j6 (f := 51) rfl ?_); refine gl 9 Tryz.func51 #[.pointer (some ⟨g, 0, none⟩), .int .i64 (l1.length : Int)] ((l6.calls (w := _) (w0 := w0) (hI := zI) (hB := zB) (h := A3.out)).mono ?_); rintro e w6 ⟨rfl, hi, hb, hk⟩; refine ⟨_, rfl, ?_⟩; replace HK := KS HK hk; replace HI0 := j4.mk (hi); replace HB := j4.mk (hb); clear hb hk hi; have aj1 : 0 ≤ (t101 : Int) := of_decide_eq_true za; have aj2 : t101 < (l1.length : Int) := of_decide_eq_true za; obtain ⟨a47, aV4, ah1⟩ := Kd.bF6 HR1.out t101 aj1 aj2; cases aV4; replace ah1 := bz3 HK.out ah1 (by first | (rw [j9]; exact hf1 _ rfl (by omega)) | exact hf1 _ rfl (by omega) | exact hf1 a47 rfl (by omega)); replace aj1 := eq_true aj1; replace aj2 := eq_true aj2))
 go_ret
 exact ⟨zr, zI, zB, zK⟩
end Go.Proofs.YtbncnjgflhoneaaGreatDoor.F
namespace Go.Proofs.YtbncnjgflhoneaaGreatDoor.F
open Go.RowKit Go.Proofs.YtbncnjgflhoneaaGreatDoor.Hand Go.Proofs.YtbncnjgflhoneaaGreatDoorW.l8 Go.Proofs.YtbncnjgflhoneaaGreatDoorW.s9 Go.Proofs.YtbncnjgflhoneaaGreatDoorW.y9
def Q9.f (k : Nat) (L6 : List Int) (a03 : Int) (l1 : List ByteArray) : Option (ByteArray × Int) := (l6.f k L6 a03 (l1.length : Int)).bind fun Y6 => (if 0 ≤ Y6.1 then (if Y6.1 < (l1.length : Int) then (some (H9 ByteArray.empty l1 Y6.1, Y6.2)) else (none)) else (none))
set_option maxHeartbeats 8000000 in
set_option maxRecDepth 100000 in
theorem Q9.calls (k : Nat) (g : Nat) (L6 : List Int) (a03 : Int) (A1 : Option Addr) (c1 : Nat) (l1 : List ByteArray) (r1 : ByteArray) (r2 : Int) (w0 w : World) (hI : l5 w0 w g L6 a03) (hB : Below w0.heap.size w0 w) (hr1 : Kd.C Kd.string w A1 l1.length l1) (hc1 : l1.length ≤ c1) (hf1 : ∀ ad, A1 = some ad → 0 < l1.length → ad.block ≠ g) (h : Q9.f k L6 a03 l1 = some (r1, r2)) :
  Calls Tryz.prog 99 #[.pointer (some ⟨g, 0, none⟩), .slice A1 l1.length c1] w fun e w' => e = .returned (.string r1) ∧ l5 w0 w' g L6 r2 ∧ Below w0.heap.size w0 w' ∧ y5 w w' g none := by
 have HR1 := j4.mk hr1
 have HC1 := j4.mk hc1
 clear hr1 hc1
 have HI0 := j4.mk hI
 have bp3 := j4.mk (l5.ge HI0.out)
 have HK := j4.mk (y5.refl w g none)
 have HL := j4.mk hB.size
 clear hI
 have HW0 := j4.mk hB.size
 have HB := j4.mk hB
 clear hB
 have H := h
 clear h
 unfold Q9.f at H
 replace H := S2 H; obtain ⟨⟨t101, t102⟩, A3, H⟩ := H
 dsimp only at H
 replace H := S1 H; obtain ⟨aD2, H⟩ := H
 replace H := S1 H; obtain ⟨ap1, H⟩ := H
 simp only [Option.some.injEq, Prod.mk.injEq] at H
 obtain ⟨rfl, rfl⟩ := H
 go_enter Tryz.func99, Tryz.ntmps99
 go_wp2_with (first | ((with_reducible refine j6 (f := 51) rfl ?_); refine gl 9 Tryz.func51 #[.pointer (some ⟨g, 0, none⟩), .int .i64 (l1.length : Int)] ((l6.calls (w := _) (w0 := w0) (hI := zI) (hB := zB) (h := A3.out)).mono ?_); rintro e w6 ⟨rfl, hi, hb, hk⟩; refine ⟨_, rfl, ?_⟩; replace HK := KS HK hk; replace HI0 := j4.mk (hi); replace HB := j4.mk (hb); clear hb hk hi; have aj1 : 0 ≤ (t101 : Int) := of_decide_eq_true za; have aj2 : t101 < (l1.length : Int) := of_decide_eq_true za; obtain ⟨a47, aV4, ah1⟩ := Kd.E5 HR1.out t101 aj1 aj2; cases aV4; replace ah1 := bz3 HK.out ah1 (by first | (rw [j9]; exact hf1 _ rfl (by omega)) | exact hf1 _ rfl (by omega) | exact hf1 a47 rfl (by omega)); replace aj1 := eq_true aj1; replace aj2 := eq_true aj2))
 go_ret
 exact ⟨zr, zI, zB, zK⟩
def ah4.f (k : Nat) (L6 : List Int) (a03 : Int) : Option (ByteArray × Int) := (Q9.f k L6 a03 (([(⟨#[111, 110, 101, 46, 111, 114, 103]⟩ : ByteArray), (⟨#[116, 119, 111, 46, 111, 114, 103]⟩ : ByteArray), (⟨#[104, 117, 98, 46, 110, 101, 116]⟩ : ByteArray), (⟨#[120, 46, 99, 111, 109]⟩ : ByteArray), (⟨#[102, 97, 114, 46, 99, 111, 109]⟩ : ByteArray), (⟨#[111, 116, 104, 101, 114, 46, 99, 111, 109]⟩ : ByteArray), (⟨#[97, 46, 111, 110, 101, 46, 111, 114, 103]⟩ : ByteArray)] : List ByteArray))).bind fun aa6 => (some (aa6.1, aa6.2))
set_option maxHeartbeats 8000000 in
set_option maxRecDepth 100000 in
theorem ah4.calls (k : Nat) (g : Nat) (L6 : List Int) (a03 : Int) (r1 : ByteArray) (r2 : Int) (w0 w : World) (hI : l5 w0 w g L6 a03) (hB : Below w0.heap.size w0 w) (h : ah4.f k L6 a03 = some (r1, r2)) :
  Calls Tryz.prog 165 #[.pointer (some ⟨g, 0, none⟩)] w fun e w' => e = .returned (.string r1) ∧ l5 w0 w' g L6 r2 ∧ Below w0.heap.size w0 w' ∧ y5 w w' g none := by
 have HI0 := j4.mk hI
 have bp3 := j4.mk (l5.ge HI0.out)
 have HK := j4.mk (y5.refl w g none)
 have HL := j4.mk hB.size
 clear hI
 have HW0 := j4.mk hB.size
 have HB := j4.mk hB
 clear hB
 have H := h
 clear h
 unfold ah4.f at H
 first | (with_reducible replace H := bns H; obtain ⟨b69, ap3, H⟩ := H) | (generalize V5 : (([(⟨#[111, 110, 101, 46, 111, 114, 103]⟩ : ByteArray), (⟨#[116, 119, 111, 46, 111, 114, 103]⟩ : ByteArray), (⟨#[104, 117, 98, 46, 110, 101, 116]⟩ : ByteArray), (⟨#[120, 46, 99, 111, 109]⟩ : ByteArray), (⟨#[102, 97, 114, 46, 99, 111, 109]⟩ : ByteArray), (⟨#[111, 116, 104, 101, 114, 46, 99, 111, 109]⟩ : ByteArray), (⟨#[97, 46, 111, 110, 101, 46, 111, 114, 103]⟩ : ByteArray)] : List ByteArray) : List ByteArray) = b69 at H; have ap3 := j4.mk V5.symm; clear V5)
 replace H := S2 H; obtain ⟨⟨t104, t105⟩, A2, H⟩ := H
 dsimp only at H
 simp only [Option.some.injEq, Prod.mk.injEq] at H
 obtain ⟨rfl, rfl⟩ := H
 go_enter Tryz.func165, Tryz.ntmps165
 go_wp2_with (first | ((with_reducible refine l9 (N := 4) rfl ?_); refine Kd.aI8 Kd.string _ 9 ?hg (N := 4) ?hd (xs := ([(⟨#[111, 110, 101, 46, 111, 114, 103]⟩ : ByteArray), (⟨#[116, 119, 111, 46, 111, 114, 103]⟩ : ByteArray), (⟨#[104, 117, 98, 46, 110, 101, 116]⟩ : ByteArray), (⟨#[120, 46, 99, 111, 109]⟩ : ByteArray), (⟨#[102, 97, 114, 46, 99, 111, 109]⟩ : ByteArray), (⟨#[111, 116, 104, 101, 114, 46, 99, 111, 109]⟩ : ByteArray), (⟨#[97, 46, 111, 110, 101, 46, 111, 114, 103]⟩ : ByteArray)] : List ByteArray)) (inner := [.string (⟨#[111, 110, 101, 46, 111, 114, 103]⟩ : ByteArray), .string (⟨#[116, 119, 111, 46, 111, 114, 103]⟩ : ByteArray), .string (⟨#[104, 117, 98, 46, 110, 101, 116]⟩ : ByteArray), .string (⟨#[120, 46, 99, 111, 109]⟩ : ByteArray), .string (⟨#[102, 97, 114, 46, 99, 111, 109]⟩ : ByteArray), .string (⟨#[111, 116, 104, 101, 114, 46, 99, 111, 109]⟩ : ByteArray), .string (⟨#[97, 46, 111, 110, 101, 46, 111, 114, 103]⟩ : ByteArray)]) (ok := fun _ => True) (okp := fun _ => True) ?hr ?hp (fun _ hk => hk) trivial (Below.refl _ _) (Nat.le_refl _) (by simp) ?_; (case hd => rfl); (case hg => rfl); (case hr => first | (go_simp; done) | (go_simp; rfl)); (case hp => exact (M4.one (show Kd.M Kd.string _ _ _ (⟨#[111, 110, 101, 46, 111, 114, 103]⟩ : ByteArray) [.string (⟨#[111, 110, 101, 46, 111, 114, 103]⟩ : ByteArray)] from rfl) (M4.one (show Kd.M Kd.string _ _ _ (⟨#[116, 119, 111, 46, 111, 114, 103]⟩ : ByteArray) [.string (⟨#[116, 119, 111, 46, 111, 114, 103]⟩ : ByteArray)] from rfl) (M4.one (show Kd.M Kd.string _ _ _ (⟨#[104, 117, 98, 46, 110, 101, 116]⟩ : ByteArray) [.string (⟨#[104, 117, 98, 46, 110, 101, 116]⟩ : ByteArray)] from rfl) (M4.one (show Kd.M Kd.string _ _ _ (⟨#[120, 46, 99, 111, 109]⟩ : ByteArray) [.string (⟨#[120, 46, 99, 111, 109]⟩ : ByteArray)] from rfl) (M4.one (show Kd.M Kd.string _ _ _ (⟨#[102, 97, 114, 46, 99, 111, 109]⟩ : ByteArray) [.string (⟨#[102, 97, 114, 46, 99, 111, 109]⟩ : ByteArray)] from rfl) (M4.one (show Kd.M Kd.string _ _ _ (⟨#[111, 116, 104, 101, 114, 46, 99, 111, 109]⟩ : ByteArray) [.string (⟨#[111, 116, 104, 101, 114, 46, 99, 111, 109]⟩ : ByteArray)] from rfl) (M4.one (show Kd.M Kd.string _ _ _ (⟨#[97, 46, 111, 110, 101, 46, 111, 114, 103]⟩ : ByteArray) [.string (⟨#[97, 46, 111, 110, 101, 46, 111, 114, 103]⟩ : ByteArray)] from rfl) (M4.none _ _))))))))); intro bH4 w3 ho4 hb hg_ X3; clear hg_ X3; (first | rw [← ap3.out] at ho4 | (simp only [Int.reduceToNat] at ho4; rw [← ap3.out] at ho4)); have af4 := lK HK ho4; replace HI0 := IS HI0 hb; replace HK := KT HK hb; replace HB := bF HB hb; clear hb ho4; obtain ⟨Ao5, co5, eo5⟩ := Kd.s7 af4.out; subst eo5) | ((with_reducible refine j6 (f := 99) rfl ?_); refine gl 5 Tryz.func99 #[.pointer (some ⟨g, 0, none⟩), .slice Ao5 b69.length co5] ((Q9.calls (w := _) (w0 := w0) (hI := zI) (hB := zB) (hr1 := rC af4) (hc1 := cL af4) (hf1 := au8 (l5.aw4 HI0.out af4.out I1)) (h := A2.out)).mono ?_); rintro e w6 ⟨rfl, hi, hb, hk⟩; refine ⟨_, rfl, ?_⟩; replace af4 := RK hk af4 HI0; replace HK := KS HK hk; replace HI0 := j4.mk (hi); replace HB := j4.mk (hb); clear hb hk hi))
 go_ret
 exact ⟨zr, zI, zB, zK⟩
end Go.Proofs.YtbncnjgflhoneaaGreatDoor.F
namespace Go.Proofs.YtbncnjgflhoneaaGreatDoor.F
open Go.RowKit Go.Proofs.YtbncnjgflhoneaaGreatDoor.Hand Go.Proofs.YtbncnjgflhoneaaGreatDoorW.l8 Go.Proofs.YtbncnjgflhoneaaGreatDoorW.s9 Go.Proofs.YtbncnjgflhoneaaGreatDoorW.y9
def V0.f (k : Nat) (L6 : List Int) (a03 : Int) : Option (ByteArray × ByteArray × Int) := (Q9.f k L6 a03 (([(⟨#[97]⟩ : ByteArray), (⟨#[98]⟩ : ByteArray), (⟨#[97, 110, 110]⟩ : ByteArray), (⟨#[98, 111, 98, 55]⟩ : ByteArray)] : List ByteArray))).bind fun am7 => ((ah4.f k L6 am7.2).bind fun dd1 => (some (am7.1, dd1.1, dd1.2)))
set_option maxHeartbeats 8000000 in
set_option maxRecDepth 100000 in
theorem V0.calls (k : Nat) (g : Nat) (L6 : List Int) (a03 : Int) (r1 : ByteArray) (r2 : ByteArray) (r3 : Int) (w0 w : World) (hI : l5 w0 w g L6 a03) (hB : Below w0.heap.size w0 w) (h : V0.f k L6 a03 = some (r1, r2, r3)) :
  Calls Tryz.prog 130 #[.pointer (some ⟨g, 0, none⟩)] w fun e w' => e = .returned (.agg #[.string r1, .string r2]) ∧ l5 w0 w' g L6 r3 ∧ Below w0.heap.size w0 w' ∧ y5 w w' g none := by
 have as2 := Tryz.underlying32
 have HI0 := j4.mk hI
 have bp3 := j4.mk (l5.ge HI0.out)
 have HK := j4.mk (y5.refl w g none)
 have HL := j4.mk hB.size
 clear hI
 have HW0 := j4.mk hB.size
 have HB := j4.mk hB
 clear hB
 have H := h
 clear h
 unfold V0.f at H
 first | (with_reducible replace H := bns H; obtain ⟨cV4, bp4, H⟩ := H) | (generalize V5 : (([(⟨#[97]⟩ : ByteArray), (⟨#[98]⟩ : ByteArray), (⟨#[97, 110, 110]⟩ : ByteArray), (⟨#[98, 111, 98, 55]⟩ : ByteArray)] : List ByteArray) : List ByteArray) = cV4 at H; have bp4 := j4.mk V5.symm; clear V5)
 replace H := S2 H; obtain ⟨⟨t105, t106⟩, A2, H⟩ := H
 dsimp only at H
 replace H := S2 H; obtain ⟨⟨t107, t108⟩, A3, H⟩ := H
 dsimp only at H
 simp only [Option.some.injEq, Prod.mk.injEq] at H
 obtain ⟨rfl, rfl, rfl⟩ := H
 go_enter Tryz.func130, Tryz.ntmps130
 go_wp2_with (first | ((with_reducible refine l9 (N := 2) rfl ?_); refine bx (cs := #[.string ⟨#[]⟩, .string ⟨#[]⟩]) (t := 32) ?_; intro j8 hg w4 o8 hb; have j5 := j4.mk (o8); have L8 := GK HK hg; have J7 := GT HK hg HW0; have a50 := IL HI0 hg; have J1 := IG HI0 hg; replace HI0 := IS HI0 hb; replace HK := KT HK hb; replace HB := bF HB hb; clear hb o8 hg) | ((with_reducible refine l9 (N := 4) rfl ?_); refine Kd.aI8 Kd.string _ 9 ?hg (N := 4) ?hd (xs := ([(⟨#[97]⟩ : ByteArray), (⟨#[98]⟩ : ByteArray), (⟨#[97, 110, 110]⟩ : ByteArray), (⟨#[98, 111, 98, 55]⟩ : ByteArray)] : List ByteArray)) (inner := [.string (⟨#[97]⟩ : ByteArray), .string (⟨#[98]⟩ : ByteArray), .string (⟨#[97, 110, 110]⟩ : ByteArray), .string (⟨#[98, 111, 98, 55]⟩ : ByteArray)]) (ok := fun _ => True) (okp := fun _ => True) ?hr ?hp (fun _ hk => hk) trivial (Below.refl _ _) (Nat.le_refl _) (by simp) ?_; (case hd => rfl); (case hg => rfl); (case hr => first | (go_simp; done) | (go_simp; rfl)); (case hp => exact (M4.one (show Kd.M Kd.string _ _ _ (⟨#[97]⟩ : ByteArray) [.string (⟨#[97]⟩ : ByteArray)] from rfl) (M4.one (show Kd.M Kd.string _ _ _ (⟨#[98]⟩ : ByteArray) [.string (⟨#[98]⟩ : ByteArray)] from rfl) (M4.one (show Kd.M Kd.string _ _ _ (⟨#[97, 110, 110]⟩ : ByteArray) [.string (⟨#[97, 110, 110]⟩ : ByteArray)] from rfl) (M4.one (show Kd.M Kd.string _ _ _ (⟨#[98, 111, 98, 55]⟩ : ByteArray) [.string (⟨#[98, 111, 98, 55]⟩ : ByteArray)] from rfl) (M4.none _ _)))))); intro bH6 w5 ho6 hb hg_ X3; clear hg_ X3; (first | rw [← bp4.out] at ho6 | (simp only [Int.reduceToNat] at ho6; rw [← bp4.out] at ho6)); have U8 := lK HK ho6; replace j5 := kS j5 hb; replace HI0 := IS HI0 hb; replace HK := KT HK hb; replace HB := bF HB hb; clear hb ho6; obtain ⟨Ao7, co7, eo7⟩ := Kd.s7 U8.out; subst eo7) | ((with_reducible refine j6 (f := 99) rfl ?_); refine gl 5 Tryz.func99 #[.pointer (some ⟨g, 0, none⟩), .slice Ao7 cV4.length co7] ((Q9.calls (w := _) (w0 := w0) (hI := zI) (hB := zB) (hr1 := rC U8) (hc1 := cL U8) (hf1 := au8 (l5.aw4 HI0.out U8.out I1)) (h := A2.out)).mono ?_); rintro e w8 ⟨rfl, hi, hb, hk⟩; refine ⟨_, rfl, ?_⟩; replace j5 := KB hk j5 J1; replace U8 := RK hk U8 HI0; replace HK := KS HK hk; replace HI0 := j4.mk (hi); replace HB := j4.mk (hb); clear hb hk hi) | ((with_reducible refine j6 (f := 165) rfl ?_); refine gl 7 Tryz.func165 #[.pointer (some ⟨g, 0, none⟩)] ((ah4.calls (w := _) (w0 := w0) (hI := zI) (hB := zB) (h := A3.out)).mono ?_); rintro e w9 ⟨rfl, hi, hb, hk⟩; refine ⟨_, rfl, ?_⟩; replace j5 := KB hk j5 J1; replace U8 := RK hk U8 HI0; replace HK := KS HK hk; replace HI0 := j4.mk (hi); replace HB := j4.mk (hb); clear hb hk hi; have dd2 := J1.out; have dd3 := a50.out; have be4 := cz2 j5.out; have be5 := fz2 j5.out))
 refine bodyPost_ret (results_cell_row rfl _ _ j8 32 #[.string t105, .string t107] (0, 0) _ rfl (kQ j5) Tryz.underlying32 rfl z2_) rfl ?_
 exact ⟨zr, zI, zB, zK⟩
def af8.f (k : Nat) (L6 : List Int) (a03 : Int) : Option (ByteArray × Int) := (Q9.f k L6 a03 (([(⟨#[104, 101, 108, 108, 111]⟩ : ByteArray), (⟨#[]⟩ : ByteArray), (⟨#[46]⟩ : ByteArray), (⟨#[46, 46]⟩ : ByteArray), (⟨#[46, 100, 111, 116]⟩ : ByteArray), (⟨#[97, 32, 108, 111, 110, 103, 101, 114, 32, 108, 105, 110, 101, 32, 111, 102, 32, 116, 101, 120, 116]⟩ : ByteArray), (⟨#[72, 111, 112, 58, 32, 111, 110, 101, 46, 111, 114, 103]⟩ : ByteArray), (⟨#[72, 111, 112, 58, 32]⟩ : ByteArray), (⟨#[73, 100, 58, 32, 55]⟩ : ByteArray), (⟨#[110, 111, 116, 32, 100, 101, 108, 105, 118, 101, 114, 101, 100, 58]⟩ : ByteArray), (⟨#[60, 97, 64, 111, 110, 101, 46, 111, 114, 103, 62]⟩ : ByteArray), (⟨#[108, 105, 110, 101, 32, 116, 104, 97, 116, 32, 105, 115, 32, 101, 120, 97, 99, 116, 108, 121, 32, 102, 111, 114, 116, 121, 32, 98, 121, 116, 101, 115, 32, 108, 111, 110, 103, 46, 46, 33]⟩ : ByteArray)] : List ByteArray))).bind fun aa6 => (some (aa6.1, aa6.2))
set_option maxHeartbeats 8000000 in
set_option maxRecDepth 100000 in
theorem af8.calls (k : Nat) (g : Nat) (L6 : List Int) (a03 : Int) (r1 : ByteArray) (r2 : Int) (w0 w : World) (hI : l5 w0 w g L6 a03) (hB : Below w0.heap.size w0 w) (h : af8.f k L6 a03 = some (r1, r2)) :
  Calls Tryz.prog 166 #[.pointer (some ⟨g, 0, none⟩)] w fun e w' => e = .returned (.string r1) ∧ l5 w0 w' g L6 r2 ∧ Below w0.heap.size w0 w' ∧ y5 w w' g none := by
 have HI0 := j4.mk hI
 have bp3 := j4.mk (l5.ge HI0.out)
 have HK := j4.mk (y5.refl w g none)
 have HL := j4.mk hB.size
 clear hI
 have HW0 := j4.mk hB.size
 have HB := j4.mk hB
 clear hB
 have H := h
 clear h
 unfold af8.f at H
 first | (with_reducible replace H := bns H; obtain ⟨b69, ap3, H⟩ := H) | (generalize V5 : (([(⟨#[104, 101, 108, 108, 111]⟩ : ByteArray), (⟨#[]⟩ : ByteArray), (⟨#[46]⟩ : ByteArray), (⟨#[46, 46]⟩ : ByteArray), (⟨#[46, 100, 111, 116]⟩ : ByteArray), (⟨#[97, 32, 108, 111, 110, 103, 101, 114, 32, 108, 105, 110, 101, 32, 111, 102, 32, 116, 101, 120, 116]⟩ : ByteArray), (⟨#[72, 111, 112, 58, 32, 111, 110, 101, 46, 111, 114, 103]⟩ : ByteArray), (⟨#[72, 111, 112, 58, 32]⟩ : ByteArray), (⟨#[73, 100, 58, 32, 55]⟩ : ByteArray), (⟨#[110, 111, 116, 32, 100, 101, 108, 105, 118, 101, 114, 101, 100, 58]⟩ : ByteArray), (⟨#[60, 97, 64, 111, 110, 101, 46, 111, 114, 103, 62]⟩ : ByteArray), (⟨#[108, 105, 110, 101, 32, 116, 104, 97, 116, 32, 105, 115, 32, 101, 120, 97, 99, 116, 108, 121, 32, 102, 111, 114, 116, 121, 32, 98, 121, 116, 101, 115, 32, 108, 111, 110, 103, 46, 46, 33]⟩ : ByteArray)] : List ByteArray) : List ByteArray) = b69 at H; have ap3 := j4.mk V5.symm; clear V5)
 replace H := S2 H; obtain ⟨⟨t104, t105⟩, A2, H⟩ := H
 dsimp only at H
 simp only [Option.some.injEq, Prod.mk.injEq] at H
 obtain ⟨rfl, rfl⟩ := H
 go_enter Tryz.func166, Tryz.ntmps166
 go_wp2_with (first | ((with_reducible refine l9 (N := 4) rfl ?_); refine Kd.aI8 Kd.string _ 9 ?hg (N := 4) ?hd (xs := ([(⟨#[104, 101, 108, 108, 111]⟩ : ByteArray), ⟨#[]⟩, (⟨#[46]⟩ : ByteArray), (⟨#[46, 46]⟩ : ByteArray), (⟨#[46, 100, 111, 116]⟩ : ByteArray), (⟨#[97, 32, 108, 111, 110, 103, 101, 114, 32, 108, 105, 110, 101, 32, 111, 102, 32, 116, 101, 120, 116]⟩ : ByteArray), (⟨#[72, 111, 112, 58, 32, 111, 110, 101, 46, 111, 114, 103]⟩ : ByteArray), (⟨#[72, 111, 112, 58, 32]⟩ : ByteArray), (⟨#[73, 100, 58, 32, 55]⟩ : ByteArray), (⟨#[110, 111, 116, 32, 100, 101, 108, 105, 118, 101, 114, 101, 100, 58]⟩ : ByteArray), (⟨#[60, 97, 64, 111, 110, 101, 46, 111, 114, 103, 62]⟩ : ByteArray), (⟨#[108, 105, 110, 101, 32, 116, 104, 97, 116, 32, 105, 115, 32, 101, 120, 97, 99, 116, 108, 121, 32, 102, 111, 114, 116, 121, 32, 98, 121, 116, 101, 115, 32, 108, 111, 110, 103, 46, 46, 33]⟩ : ByteArray)] : List ByteArray)) (inner := [.string (⟨#[104, 101, 108, 108, 111]⟩ : ByteArray), .string ⟨#[]⟩, .string (⟨#[46]⟩ : ByteArray), .string (⟨#[46, 46]⟩ : ByteArray), .string (⟨#[46, 100, 111, 116]⟩ : ByteArray), .string (⟨#[97, 32, 108, 111, 110, 103, 101, 114, 32, 108, 105, 110, 101, 32, 111, 102, 32, 116, 101, 120, 116]⟩ : ByteArray), .string (⟨#[72, 111, 112, 58, 32, 111, 110, 101, 46, 111, 114, 103]⟩ : ByteArray), .string (⟨#[72, 111, 112, 58, 32]⟩ : ByteArray), .string (⟨#[73, 100, 58, 32, 55]⟩ : ByteArray), .string (⟨#[110, 111, 116, 32, 100, 101, 108, 105, 118, 101, 114, 101, 100, 58]⟩ : ByteArray), .string (⟨#[60, 97, 64, 111, 110, 101, 46, 111, 114, 103, 62]⟩ : ByteArray), .string (⟨#[108, 105, 110, 101, 32, 116, 104, 97, 116, 32, 105, 115, 32, 101, 120, 97, 99, 116, 108, 121, 32, 102, 111, 114, 116, 121, 32, 98, 121, 116, 101, 115, 32, 108, 111, 110, 103, 46, 46, 33]⟩ : ByteArray)]) (ok := fun _ => True) (okp := fun _ => True) ?hr ?hp (fun _ hk => hk) trivial (Below.refl _ _) (Nat.le_refl _) (by simp) ?_; (case hd => rfl); (case hg => rfl); (case hr => first | (go_simp; done) | (go_simp; rfl)); (case hp => exact (M4.one (show Kd.M Kd.string _ _ _ (⟨#[104, 101, 108, 108, 111]⟩ : ByteArray) [.string (⟨#[104, 101, 108, 108, 111]⟩ : ByteArray)] from rfl) (M4.one (show Kd.M Kd.string _ _ _ ⟨#[]⟩ [.string ⟨#[]⟩] from rfl) (M4.one (show Kd.M Kd.string _ _ _ (⟨#[46]⟩ : ByteArray) [.string (⟨#[46]⟩ : ByteArray)] from rfl) (M4.one (show Kd.M Kd.string _ _ _ (⟨#[46, 46]⟩ : ByteArray) [.string (⟨#[46, 46]⟩ : ByteArray)] from rfl) (M4.one (show Kd.M Kd.string _ _ _ (⟨#[46, 100, 111, 116]⟩ : ByteArray) [.string (⟨#[46, 100, 111, 116]⟩ : ByteArray)] from rfl) (M4.one (show Kd.M Kd.string _ _ _ (⟨#[97, 32, 108, 111, 110, 103, 101, 114, 32, 108, 105, 110, 101, 32, 111, 102, 32, 116, 101, 120, 116]⟩ : ByteArray) [.string (⟨#[97, 32, 108, 111, 110, 103, 101, 114, 32, 108, 105, 110, 101, 32, 111, 102, 32, 116, 101, 120, 116]⟩ : ByteArray)] from rfl) (M4.one (show Kd.M Kd.string _ _ _ (⟨#[72, 111, 112, 58, 32, 111, 110, 101, 46, 111, 114, 103]⟩ : ByteArray) [.string (⟨#[72, 111, 112, 58, 32, 111, 110, 101, 46, 111, 114, 103]⟩ : ByteArray)] from rfl) (M4.one (show Kd.M Kd.string _ _ _ (⟨#[72, 111, 112, 58, 32]⟩ : ByteArray) [.string (⟨#[72, 111, 112, 58, 32]⟩ : ByteArray)] from rfl) (M4.one (show Kd.M Kd.string _ _ _ (⟨#[73, 100, 58, 32, 55]⟩ : ByteArray) [.string (⟨#[73, 100, 58, 32, 55]⟩ : ByteArray)] from rfl) (M4.one (show Kd.M Kd.string _ _ _ (⟨#[110, 111, 116, 32, 100, 101, 108, 105, 118, 101, 114, 101, 100, 58]⟩ : ByteArray) [.string (⟨#[110, 111, 116, 32, 100, 101, 108, 105, 118, 101, 114, 101, 100, 58]⟩ : ByteArray)] from rfl) (M4.one (show Kd.M Kd.string _ _ _ (⟨#[60, 97, 64, 111, 110, 101, 46, 111, 114, 103, 62]⟩ : ByteArray) [.string (⟨#[60, 97, 64, 111, 110, 101, 46, 111, 114, 103, 62]⟩ : ByteArray)] from rfl) (M4.one (show Kd.M Kd.string _ _ _ (⟨#[108, 105, 110, 101, 32, 116, 104, 97, 116, 32, 105, 115, 32, 101, 120, 97, 99, 116, 108, 121, 32, 102, 111, 114, 116, 121, 32, 98, 121, 116, 101, 115, 32, 108, 111, 110, 103, 46, 46, 33]⟩ : ByteArray) [.string (⟨#[108, 105, 110, 101, 32, 116, 104, 97, 116, 32, 105, 115, 32, 101, 120, 97, 99, 116, 108, 121, 32, 102, 111, 114, 116, 121, 32, 98, 121, 116, 101, 115, 32, 108, 111, 110, 103, 46, 46, 33]⟩ : ByteArray)] from rfl) (M4.none _ _)))))))))))))); intro bH4 w3 ho4 hb hg_ X3; clear hg_ X3; (first | rw [← ap3.out] at ho4 | (simp only [Int.reduceToNat] at ho4; rw [← ap3.out] at ho4)); have af4 := lK HK ho4; replace HI0 := IS HI0 hb; replace HK := KT HK hb; replace HB := bF HB hb; clear hb ho4; obtain ⟨Ao5, co5, eo5⟩ := Kd.s7 af4.out; subst eo5) | ((with_reducible refine j6 (f := 99) rfl ?_); refine gl 5 Tryz.func99 #[.pointer (some ⟨g, 0, none⟩), .slice Ao5 b69.length co5] ((Q9.calls (w := _) (w0 := w0) (hI := zI) (hB := zB) (hr1 := rC af4) (hc1 := cL af4) (hf1 := au8 (l5.aw4 HI0.out af4.out I1)) (h := A2.out)).mono ?_); rintro e w6 ⟨rfl, hi, hb, hk⟩; refine ⟨_, rfl, ?_⟩; replace af4 := RK hk af4 HI0; replace HK := KS HK hk; replace HI0 := j4.mk (hi); replace HB := j4.mk (hb); clear hb hk hi))
 go_ret
 exact ⟨zr, zI, zB, zK⟩
end Go.Proofs.YtbncnjgflhoneaaGreatDoor.F
namespace Go.Proofs.YtbncnjgflhoneaaGreatDoor.F
open Go.RowKit Go.Proofs.YtbncnjgflhoneaaGreatDoor.Hand Go.Proofs.YtbncnjgflhoneaaGreatDoorW.l8 Go.Proofs.YtbncnjgflhoneaaGreatDoorW.s9 Go.Proofs.YtbncnjgflhoneaaGreatDoorW.y9
def Q6.l0 : Nat → List ByteArray → Int → List Int → Int → Option (List ByteArray × Int)
 | 0, _, _, _, _ => none
 | k + 1, x5, x6, x1000, a34 => if x6 > 0 then ((af8.f k x1000 a34).bind fun be8 => (if x5.length < 8796093022208 then (Q6.l0 k (x5 ++ [be8.1]) (wrap64 (x6 - 1)) x1000 be8.2) else (none))) else (some (x5, a34))
def Q6.f (k : Nat) (L6 : List Int) (a03 : Int) (a1 : Int) : Option (List ByteArray × Int) := (l6.f k L6 a03 (wrap64 (a1 + 1))).bind fun aa6 => (Q6.l0 k (([] : List ByteArray)) aa6.1 L6 aa6.2)
set_option maxHeartbeats 8000000 in
set_option maxRecDepth 100000 in
theorem Q6.calls (k : Nat) (g : Nat) (L6 : List Int) (a03 : Int) (a1 : Int) (r1 : List ByteArray) (r2 : Int) (w0 w : World) (hI : l5 w0 w g L6 a03) (hB : Below w0.heap.size w0 w) (h : Q6.f k L6 a03 a1 = some (r1, r2)) :
  Calls Tryz.prog 131 #[.pointer (some ⟨g, 0, none⟩), .int .i64 a1] w fun e w' => ∃ v0_ : Value, e = .returned (v0_) ∧ Kd.R Kd.string 9 w' w.heap.size (fun _ => True) v0_ r1 ∧ l5 w0 w' g L6 r2 ∧ Below w0.heap.size w0 w' ∧ y5 w w' g none := by
 have HI0 := j4.mk hI
 have bp3 := j4.mk (l5.ge HI0.out)
 have HK := j4.mk (y5.refl w g none)
 have HL := j4.mk hB.size
 clear hI
 have HW0 := j4.mk hB.size
 have HB := j4.mk hB
 clear hB
 have H := h
 clear h
 unfold Q6.f at H
 first | (with_reducible replace H := bns H; obtain ⟨b69, ap3, H⟩ := H) | (generalize V5 : (([] : List ByteArray) : List ByteArray) = b69 at H; have ap3 := j4.mk V5.symm; clear V5)
 replace H := S2 H; obtain ⟨⟨t104, t105⟩, A3, H⟩ := H
 dsimp only at H
 have H' := j4.mk H
 clear H
 go_enter Tryz.func131, Tryz.ntmps131
 go_wp2_with (first | ((with_reducible refine l9 (N := 7) rfl ?_); refine Kd.aI8 Kd.string _ 9 ?hg (N := 7) ?hd (xs := ([] : List ByteArray)) (inner := []) (ok := fun _ => True) (okp := fun _ => True) ?hr ?hp (fun _ hk => hk) trivial (Below.refl _ _) (Nat.le_refl _) (by simp) ?_; (case hd => rfl); (case hg => rfl); (case hr => first | (go_simp; done) | (go_simp; rfl)); (case hp => exact (M4.none _ _)); intro bH4 w4 ho5 hb hg_ X3; clear hg_ X3; (first | rw [← ap3.out] at ho5 | (simp only [Int.reduceToNat] at ho5; rw [← ap3.out] at ho5)); have af4 := lK HK ho5; replace HI0 := IS HI0 hb; replace HK := KT HK hb; replace HB := bF HB hb; clear hb ho5) | ((with_reducible refine j6 (f := 51) rfl ?_); refine gl 11 Tryz.func51 #[.pointer (some ⟨g, 0, none⟩), .int .i64 (wrap64 (a1 + 1))] ((l6.calls (w := _) (w0 := w0) (hI := zI) (hB := zB) (h := A3.out)).mono ?_); rintro e w6 ⟨rfl, hi, hb, hk⟩; refine ⟨_, rfl, ?_⟩; replace af4 := RK hk af4 HI0; replace HK := KS HK hk; replace HI0 := j4.mk (hi); replace HB := j4.mk (hb); clear hb hk hi))
 go_loopg [5, 6] k (fun kq v5 v6 w' => ∃ (Z3 : List ByteArray) (a02 : Int) (aQ7 : Int), v6 = .int .i64 a02 ∧ j4 (Q6.l0 kq Z3 a02 L6 aQ7 = some (r1, r2)) ∧ j4 (kq ≤ k) ∧ j4 (Kd.R Kd.string 9 w' w.heap.size (fun _ => True) v5 Z3) ∧ j4 (l5 w0 w' g L6 aQ7) ∧ j4 (y5 w w' g none) ∧ j4 (Below w0.heap.size w0 w'))
 case atStart => exact ⟨(b69), (t104), (t105), zs, H', ⟨Nat.le_refl _⟩, ⟨rO af4⟩, ⟨zI⟩, ⟨zK⟩, ⟨zB⟩⟩
 case round =>
  clear H'
  obtain ⟨Z3, a02, aQ7, rfl, HA, HK1, bZ6, HI0, HK, HB⟩ := hrel
  cases gk with
  | zero => exact absurd HA.out (by simp [Q6.l0])
  | succ k1 =>
   have H := HA.out
   clear HA
   simp only [Q6.l0] at H
   replace H := K2 H; rcases H with ⟨ak6, H⟩ | ⟨ak6, H⟩
   ·replace H := S2 H; obtain ⟨⟨t106, t107⟩, A8, H⟩ := H
    dsimp only at H
    replace H := aj5 H; obtain ⟨cV5, H⟩ := H
    first | (with_reducible replace H := bns H; obtain ⟨dG2, dd4, H⟩ := H) | (generalize V5 : (Z3 ++ [t106] : List ByteArray) = dG2 at H; have dd4 := j4.mk V5.symm; clear V5)
    have H' := j4.mk H
    clear H
    go_wp2_with (first | ((with_reducible refine j6 (f := 166) rfl ?_); refine gl 18 Tryz.func166 #[.pointer (some ⟨g, 0, none⟩)] ((af8.calls (w := _) (w0 := w0) (hI := zI) (hB := zB) (h := A8.out)).mono ?_); rintro e w10 ⟨rfl, hi, hb, hk⟩; refine ⟨_, rfl, ?_⟩; replace bZ6 := RK hk bZ6 HI0; replace HK := KS HK hk; replace HI0 := j4.mk (hi); replace HB := j4.mk (hb); clear hb hk hi) | ((with_reducible refine N8 (b := .append) (xs := #[.tmp 16, .tmp 19]) rfl ?_); at_builtin; refine Kd.a89 Kd.string w.heap.size rfl (.tmp 16) (.tmp 19) 25 9 (.string ⟨#[]⟩) 16 rfl Tryz.underlying25 aF0 rfl I1 (by omega) u5 Z3 t106 [.string t106] (fun _ => True) (fun _ => False) rfl rfl ?aP (fun _ hk => hk.elim) ?aF ?aO (Below.refl _ _) ?aS ?aL ?_; (case aP => exact rfl); (case aF => exact (fun _ _ => trivial)); (case aO => exact (rO bZ6)); (case aS => exact (kZ HK)); (case aL => have := cV5.out; omega); intro v109 w11 ho hb hg hat; rw [← dd4.out] at ho; have P5 := j4.mk (l5.grown zI hg (l5.aw4 HI0.out bZ6.out I1)); have P6 := j4.mk (aF8 zB HL.out hb); have n2_ := j4.mk (y5.trans zK (y5.b53 hg g) (Kd.bh7 bZ6.out)); have n3_ := j4.mk (ho); clear HI0 HB HK bZ6; have HI0 := P5; have HB := P6; have HK := n2_; have bA2 := n3_; clear P5 P6 n2_ n3_ ho hb hg hat))
    go_roundg k1
    case measure => have := HK1.out; omega
    case rel => exact ⟨(dG2), (wrap64 (a02 - 1)), (t107), zs, H', ⟨by have := HK1.out; omega⟩, ⟨rO bA2⟩, ⟨zI⟩, ⟨zK⟩, ⟨zB⟩⟩
   ·simp only [Option.some.injEq, Prod.mk.injEq] at H
    obtain ⟨rfl, rfl⟩ := H
    go_wp2
    go_ret
    exact ⟨_, zr, rO bZ6, zI, zB, zK⟩
end Go.Proofs.YtbncnjgflhoneaaGreatDoor.F
