/- Of this claim, merged by program: Q1, F84, F102, F58, Q2. -/
import Derived.Test.YtbncnjgflhoneaaGreatDoorB02
import Derived.Test.YtbncnjgflhoneaaGreatDoorB04
namespace Go.Proofs.YtbncnjgflhoneaaGreatDoor.Hand
open Go.RowKit Go.Proofs.YtbncnjgflhoneaaGreatDoor.F Go.Proofs.YtbncnjgflhoneaaGreatDoorW.PrintWords Go.Proofs.YtbncnjgflhoneaaGreatDoorW.PrintLast Go.Proofs.YtbncnjgflhoneaaGreatDoorW.PrintMore
theorem Ev.exact {α : Type} {g : Nat → Option α} {r : α} (K : Nat) (h : ∀ k, K ≤ k → g k = some r) : Ev g r := ⟨K, h⟩
theorem Ev.call {α β : Type} {g : Nat → Option α} {f : Nat → α → Option β} {h : Nat → Option β} {a : α} {r : β} (hg : Ev g a) (hf : ∀ n, f n a = h n) (hh : Ev h r) : Ev (fun n => (g n).bind (f n)) r := Ev.bind hg (Ev.congr hf hh)
theorem in_tells (a b c : Int) : spec_l1In.f a b c = some (decide (b ≤ a ∧ a ≤ c)) := by
  unfold spec_l1In.f
  by_cases g : a ≥ b
  · rw [if_pos g]
    exact congrArg some (decide_eq_decide.2 (by omega))
  · rw [if_neg g, decide_eq_false (by omega)]
theorem within_tells (a b c : Int) : impl_within.f a b c = some (decide (b ≤ a ∧ a ≤ c)) := by
  unfold impl_within.f
  by_cases g : a ≥ b
  · rw [if_pos g]
    exact congrArg some (decide_eq_decide.2 (by omega))
  · rw [if_neg g, decide_eq_false (by omega)]
theorem letterB_eq (c : UInt8) : letterB c = ((decide (97 ≤ c.toNat) && decide (c.toNat ≤ 122)) || (decide (48 ≤ c.toNat) && decide (c.toNat ≤ 57))) := rfl
theorem word_from (s : ByteArray) (hs : s.size ≤ 1099511627776) : ∀ (d i k : Nat), s.size = i + d → d < k → spec_l1Word.l0 k s (i : Int) = some ((s.data.toList.drop i).all letterB && decide (1 ≤ s.size ∧ s.size ≤ 8)) := by
  intro d
  induction d with
  | zero =>
    intro i k hi hk
    obtain ⟨k, rfl⟩ : ∃ m, k = m + 1 := ⟨k - 1, by omega⟩
    rw [spec_l1Word.l0, if_neg (by omega), List.drop_eq_nil_of_le (by rw [data_length]; omega), in_tells, Option.bind_some, List.all_nil, Bool.true_and]
    exact congrArg some (decide_eq_decide.2 (by omega))
  | succ d ih =>
    intro i k hi hk
    obtain ⟨k, rfl⟩ : ∃ m, k = m + 1 := ⟨k - 1, by omega⟩
    have hl : i < s.data.toList.length := by rw [data_length]; omega
    have h2 := ih (i + 1) k (by omega) (by omega)
    rw [spec_l1Word.l0, if_pos (by omega), if_pos (by omega), bt_get s i hl, List.drop_eq_getElem_cons hl, List.all_cons, letterB_eq, wrapIn (x := (i : Int) + 1) (by omega) (by omega), show ((i : Int) + 1) = ((i + 1 : Nat) : Int) by omega, h2]
    generalize (s.data.toList[i]).toNat = c
    by_cases a : (c : Int) < 97
    · rw [if_pos a, decide_eq_false (p := 97 ≤ c) (by omega), Bool.false_and, Bool.false_or]
      by_cases b : (c : Int) < 48
      · rw [if_pos b, decide_eq_false (p := 48 ≤ c) (by omega)]; rfl
      · rw [if_neg b, decide_eq_true (p := 48 ≤ c) (by omega)]
        by_cases e : (c : Int) > 57
        · rw [if_pos e, decide_eq_false (p := c ≤ 57) (by omega)]; rfl
        · rw [if_neg e, decide_eq_true (p := c ≤ 57) (by omega)]; rfl
    · rw [if_neg a, decide_eq_true (p := 97 ≤ c) (by omega)]
      by_cases b : (c : Int) > 122
      · rw [if_pos b, if_neg (by omega), if_pos (by omega), decide_eq_false (p := c ≤ 122) (by omega), decide_eq_false (p := c ≤ 57) (by omega), Bool.and_false, Bool.and_false]; rfl
      · rw [if_neg b, decide_eq_true (p := c ≤ 122) (by omega)]; rfl
theorem word_tells (s : ByteArray) (hs : s.size ≤ 1099511627776) : Ev (fun k => spec_l1Word.f k s) (labelB s) := by
  refine Ev.exact (s.size + 1) fun k hk => ?_
  have h := word_from s hs s.size 0 k (by omega) (by omega)
  unfold labelB
  rw [Bool.and_comm]
  exact h
theorem sline_from (s : ByteArray) (hs : s.size ≤ 1099511627776) : ∀ (d i k : Nat), s.size = i + d → d < k → spec_l2LineOk.l0 k s (i : Int) = some ((s.data.toList.drop i).all signB && decide (s.size ≤ 40)) := by
  intro d
  induction d with
  | zero =>
    intro i k hi hk
    obtain ⟨k, rfl⟩ : ∃ m, k = m + 1 := ⟨k - 1, by omega⟩
    rw [spec_l2LineOk.l0, if_neg (by omega), List.drop_eq_nil_of_le (by rw [data_length]; omega), List.all_nil, Bool.true_and]
    exact congrArg some (decide_eq_decide.2 (by omega))
  | succ d ih =>
    intro i k hi hk
    obtain ⟨k, rfl⟩ : ∃ m, k = m + 1 := ⟨k - 1, by omega⟩
    have hl : i < s.data.toList.length := by rw [data_length]; omega
    rw [spec_l2LineOk.l0, if_pos (by omega), if_pos (by omega), bt_get s i hl, List.drop_eq_getElem_cons hl, List.all_cons]
    have h1 : signB s.data.toList[i] = (decide (32 ≤ (s.data.toList[i]).toNat) && decide ((s.data.toList[i]).toNat ≤ 126)) := rfl
    by_cases a : ((s.data.toList[i]).toNat : Int) < 32
    · rw [if_pos a, h1, decide_eq_false (by omega)]
      rfl
    rw [if_neg a]
    by_cases b : ((s.data.toList[i]).toNat : Int) > 126
    · rw [if_pos b, h1, decide_eq_false (p := (s.data.toList[i]).toNat ≤ 126) (by omega), Bool.and_false]
      rfl
    rw [if_neg b, h1, decide_eq_true (by omega), decide_eq_true (by omega), wrapIn (by omega) (by omega)]
    exact ih (i + 1) k (by omega) (by omega)
theorem sline_tells (s : ByteArray) (hs : s.size ≤ 1099511627776) : Ev (fun k => spec_l2LineOk.f k s) (lineB s) :=
  Ev.exact (s.size + 1) fun k hk => sline_from s hs s.size 0 k (by omega) (by omega)
theorem sbody_from (l : List ByteArray) (hl : l.length ≤ 1099511627776) (hs : ∀ s ∈ l, s.size ≤ 1099511627776) : ∀ (d i : Nat), l.length = i + d → Ev (fun k => spec_l2BodyOk.l0 k l (i : Int)) ((l.drop i).all lineB && decide (l.length ≤ 12)) := by
  intro d
  induction d with
  | zero =>
    intro i hi
    refine Ev.step (f := fun _ => some (decide ((l.length : Int) ≤ 12))) (fun k => by rw [spec_l2BodyOk.l0, if_neg (by omega)]) ?_
    rw [List.drop_eq_nil_of_le (by omega), List.all_nil, Bool.true_and, show decide ((l.length : Int) ≤ 12) = decide (l.length ≤ 12) from decide_eq_decide.2 (by omega)]
    exact Ev.now _
  | succ d ih =>
    intro i hi
    have hlt : i < l.length := by omega
    refine Ev.step (f := fun k => (spec_l2LineOk.f k l[i]).bind fun t => if t = true then spec_l2BodyOk.l0 k l ((i + 1 : Nat) : Int) else some false)
      (fun k => by rw [spec_l2BodyOk.l0, if_pos (by omega), if_pos (by omega), rdOf_mem _ _ _ hlt, wrapIn (x := (i : Int) + 1) (by omega) (by omega)]; rfl) ?_
    rw [List.drop_eq_getElem_cons hlt, List.all_cons]
    have h1 := sline_tells l[i] (hs _ (List.getElem_mem hlt))
    cases hb : lineB l[i]
    · rw [hb] at h1
      exact Ev.call h1 (h := fun _ => some false) (fun n => by rw [if_neg (by decide)]) (Ev.now _)
    · rw [hb] at h1
      rw [Bool.true_and]
      exact Ev.call h1 (fun n => by rw [if_pos rfl]) (ih (i + 1) (by omega))
theorem sbody_tells (l : List ByteArray) (hl : l.length ≤ 1099511627776) (hs : ∀ s ∈ l, s.size ≤ 1099511627776) : Ev (fun k => spec_l2BodyOk.f k l) (bodyB l) := by
  have h := sbody_from l hl hs l.length 0 (by omega)
  unfold bodyB
  rw [Bool.and_comm]
  exact h
theorem snull_tells (u d : ByteArray) : spec_l1Null.f u d = some (nullB u d) := by
  unfold spec_l1Null.f nullB
  by_cases h : u.toList = []
  · rw [if_pos h, h]; rfl
  · rw [if_neg h, beq_eq_false_iff_ne.2 h]; rfl
end Go.Proofs.YtbncnjgflhoneaaGreatDoor.Hand
namespace Go.Proofs.YtbncnjgflhoneaaGreatDoor.F
open Go.RowKit Go.Proofs.YtbncnjgflhoneaaGreatDoor.Hand Go.Proofs.YtbncnjgflhoneaaGreatDoorW.PrintWords Go.Proofs.YtbncnjgflhoneaaGreatDoorW.PrintLast Go.Proofs.YtbncnjgflhoneaaGreatDoorW.PrintMore
attribute [local go_sem] max2_int min2_int max_two min_two max_three min_three max_four min_four   -- for this text's walks alone
set_option linter.unusedVariables false
set_option linter.unusedSimpArgs false

mutual
def spec_l1Cut.l0 : Nat → ByteArray → Int → Int → List ByteArray → Int → Int → Option (List ByteArray)
  | 0, _, _, _, _, _, _ => none
  | k + 1, x0, x1, x2, x7, x8, x9 => if x9 < (x0.size : Int) then (spec_l1Cut.j1 k x0 x1 x2 x7 x8 x9 (decide ((x7.length : Int) < x2))) else (spec_l1Cut.j1 k x0 x1 x2 x7 x8 x9 false)
def spec_l1Cut.j1 : Nat → ByteArray → Int → Int → List ByteArray → Int → Int → Bool → Option (List ByteArray)
  | 0, _, _, _, _, _, _, _ => none
  | k + 1, x0, x1, x2, x7, x8, x9, x20 => if x20 = true then (if 0 ≤ x9 then (if x9 < (x0.size : Int) then (if (bt x0 x9) = x1 then (if 0 ≤ x8 then (if x8 ≤ x9 then (if x9 ≤ (x0.size : Int) then (if x7.length < 8796093022208 then (spec_l1Cut.l0 k x0 x1 x2 (x7 ++ [x0.extract (x8 : Int).toNat (x9 : Int).toNat]) (wrap64 (x9 + 1)) (wrap64 (x9 + 1))) else (none)) else (none)) else (none)) else (none)) else (spec_l1Cut.l0 k x0 x1 x2 x7 x8 (wrap64 (x9 + 1)))) else (none)) else (none)) else (if 0 ≤ x8 then (if x8 ≤ (x0.size : Int) then (if x7.length < 8796093022208 then (some (x7 ++ [x0.extract (x8 : Int).toNat x0.size])) else (none)) else (none)) else (none))
end
def spec_l1Cut.f (k : Nat) (a0 : ByteArray) (a1 : Int) (a2 : Int) : Option (List ByteArray) := spec_l1Cut.l0 k a0 a1 a2 (([] : List ByteArray)) 0 0
theorem spec_l1Cut.mono_l : ∀ k, (∀ y0 y1 y2 y3 y4 y5, LeO (spec_l1Cut.l0 k y0 y1 y2 y3 y4 y5) (spec_l1Cut.l0 (k + 1) y0 y1 y2 y3 y4 y5)) ∧ (∀ y0 y1 y2 y3 y4 y5 y6, LeO (spec_l1Cut.j1 k y0 y1 y2 y3 y4 y5 y6) (spec_l1Cut.j1 (k + 1) y0 y1 y2 y3 y4 y5 y6))
  | 0 => ⟨fun _ _ _ _ _ _ r h => by simp [spec_l1Cut.l0] at h, fun _ _ _ _ _ _ _ r h => by simp [spec_l1Cut.j1] at h⟩
  | k + 1 => by
    obtain ⟨ih0, ih1⟩ := spec_l1Cut.mono_l k
    refine ⟨?_, ?_⟩
    · intro y0 y1 y2 y3 y4 y5
      unfold spec_l1Cut.l0
      repeat' first
      | (with_reducible exact ih0 _ _ _ _ _ _)
      | (with_reducible exact ih1 _ _ _ _ _ _ _)
      | (with_reducible exact LeO.refl _)
      | (with_reducible exact LeO.none _)
      | (with_reducible refine LeO.ite ?_ ?_)
      | (with_reducible refine LeO.bind ?_ (fun _ => ?_))
      | exact ih0 _ _ _ _ _ _
      | exact ih1 _ _ _ _ _ _ _
      | exact LeO.none _
      | refine LeO.ite ?_ ?_
      | refine LeO.bind ?_ (fun _ => ?_)
    · intro y0 y1 y2 y3 y4 y5 y6
      unfold spec_l1Cut.j1
      repeat' first
      | (with_reducible exact ih0 _ _ _ _ _ _)
      | (with_reducible exact ih1 _ _ _ _ _ _ _)
      | (with_reducible exact LeO.refl _)
      | (with_reducible exact LeO.none _)
      | (with_reducible refine LeO.ite ?_ ?_)
      | (with_reducible refine LeO.bind ?_ (fun _ => ?_))
      | exact ih0 _ _ _ _ _ _
      | exact ih1 _ _ _ _ _ _ _
      | exact LeO.none _
      | refine LeO.ite ?_ ?_
      | refine LeO.bind ?_ (fun _ => ?_)
theorem spec_l1Cut.mono : ∀ a0 a1 a2 k, LeO (spec_l1Cut.f k a0 a1 a2) (spec_l1Cut.f (k + 1) a0 a1 a2) := by
  intro a0 a1 a2 k
  obtain ⟨ih0, ih1⟩ := spec_l1Cut.mono_l k
  unfold spec_l1Cut.f
  repeat' first
      | (with_reducible exact ih0 _ _ _ _ _ _)
      | (with_reducible exact ih1 _ _ _ _ _ _ _)
      | (with_reducible exact LeO.refl _)
      | (with_reducible exact LeO.none _)
      | (with_reducible refine LeO.ite ?_ ?_)
      | (with_reducible refine LeO.bind ?_ (fun _ => ?_))
      | exact ih0 _ _ _ _ _ _
      | exact ih1 _ _ _ _ _ _ _
      | exact LeO.none _
      | refine LeO.ite ?_ ?_
      | refine LeO.bind ?_ (fun _ => ?_)
set_option maxHeartbeats 8000000 in
set_option maxRecDepth 100000 in
theorem spec_l1Cut.calls (k : Nat) (a0 : ByteArray) (a1 : Int) (a2 : Int) (r : List ByteArray) (w : World) (h : spec_l1Cut.f k a0 a1 a2 = some r) :
    Calls Tryz.prog 84 #[.string a0, .int .u8 a1, .int .i64 a2] w fun e w' => ∃ v0_ : Value, e = .returned (v0_) ∧ Kd.R Kd.string 9 w' w.heap.size (fun _ => True) v0_ r ∧ Below w.heap.size w w' := by
  have HB := Aside0.mk (Below.refl w.heap.size w)
  have H : (spec_l1Cut.l0 k a0 a1 a2 (([] : List ByteArray)) 0 0) = some r := h
  clear h
  obtain ⟨y101, hy101⟩ : ∃ y_ : List ByteArray, y_ = (([] : List ByteArray)) := ⟨_, rfl⟩
  replace H : (spec_l1Cut.l0 k a0 a1 a2 y101 0 0) = some r := by first | (rw [hy101]; with_reducible exact H) | (have H2_ := (Option.bind_some _ _).symm.trans H; rw [hy101]; with_reducible exact H2_) | (have H2_ := (Option.bind_some _ _).symm.trans H; with_reducible exact H2_) | with_reducible exact H | (rw [hy101]; exact H) | exact H
  have Ny101 := Aside0.mk hy101
  clear hy101
  have H' := Aside0.mk H
  clear H
  go_enter Tryz.func84, Tryz.ntmps84
  go_wp2_with (first | ((with_reducible refine gate_dst (N := 10) rfl ?_); (try (refine gate_guard (by rfl) ?_; dsimp only)); refine Kd.R_lit Kd.string _ 9 ?hg (N := 10) ?hd (xs := ([] : List ByteArray)) (inner := []) (ok := fun _ => True) (okp := fun _ => True) ?hr ?hp (fun _ hk => hk) trivial (Below.refl _ _) (Nat.le_refl _) (by simp) ?_; (case hd => rfl); (case hg => rfl); (case hr => first | (go_simp; done) | (go_simp; rfl)); (case hp => exact (Reps.none _ _)); intro v102 w4 ho5 hb hg_ hnew_; clear hg_ hnew_; (first | rw [← Ny101.out] at ho5 | (simp only [Int.reduceToNat] at ho5; rw [← Ny101.out] at ho5)); have n0_ := Aside0.mk (Kd.R_lower ho5 (below_size z1_)); have n1_ := Aside0.mk (below_step z1_ hb); clear HB; have HO103 := n0_; have HB := n1_; clear n0_ n1_; clear hb ho5))
  go_loopg [7, 8, 9] k (fun kq v7 v8 v9 w' => ∃ (x7_1 : List ByteArray) (x8_1 : Int) (x9_1 : Int), v8 = .int .i64 x8_1 ∧ v9 = .int .i64 x9_1 ∧ Aside0 (spec_l1Cut.l0 kq a0 a1 a2 x7_1 x8_1 x9_1 = some r) ∧ Aside0 (kq ≤ k) ∧ Aside0 (Kd.R Kd.string 9 w' w.heap.size (fun _ => True) v7 x7_1) ∧ Aside0 (Below w.heap.size w w'))
  case atStart => exact ⟨(y101), (0), (0), z11_, z11_, H', ⟨Nat.le_refl _⟩, ⟨by (with_reducible repeat (first | apply Kd.R_alloc | apply Kd.R_drewN | apply Kd.R_drew)); exact HO103.out⟩, ⟨by repeat (first | (with_reducible first | exact HB.out | apply below_alloc | apply pw_below_drewN | apply below_drew1) | exact HB.out)⟩⟩
  case round =>
    clear H'
    try clear p2
    obtain ⟨x7_1, x8_1, x9_1, rfl, rfl, HA, HK1, HO_7, HB⟩ := hrel
    cases gk with
    | zero => exact absurd HA.out (by simp [spec_l1Cut.l0])
    | succ k1 =>
      have H := HA.out
      clear HA
      simp only [spec_l1Cut.l0] at H
      have HC6 := Aside0.mk H
      clear H
      go_upto_region 4 with (fail)
      go_cut [20] (fun v20 wc => ∃ (kq : Nat) (x20_5 : Bool), v20 = .bool x20_5 ∧ Aside0 (spec_l1Cut.j1 kq a0 a1 a2 x7_1 x8_1 x9_1 x20_5 = some r) ∧ Aside0 (kq ≤ k1) ∧ Aside0 (Kd.R Kd.string 9 wc w.heap.size (fun _ => True) u7 x7_1) ∧ Aside0 (Below w.heap.size w wc))
      case first =>
        have H := HC6.out
        clear HC6
        by_cases c7 : x9_1 < (a0.size : Int)
        · rw [if_pos c7] at H
          have c7b0 : decide (x9_1 < (a0.size : Int)) = true := decide_eq_true c7
          clear c7
          (first | rw [c7b0] | (simp only [i64_w, i32_w]; rw [c7b0]) | skip)
          have H' := Aside0.mk H
          clear H
          obtain ⟨Ao8, co8, eo8⟩ := Kd.R_slice HO_7.out
          subst eo8
          go_wp2
          go_meet
          case rel => exact ⟨_, (decide ((x7_1.length : Int) < a2)), z11_, H', ⟨by have := HK1.out; first | omega | exact Nat.le_refl _⟩, ⟨by (with_reducible repeat (first | apply Kd.R_alloc | apply Kd.R_drewN | apply Kd.R_drew)); exact HO_7.out⟩, ⟨by repeat (first | (with_reducible first | exact HB.out | apply below_alloc | apply pw_below_drewN | apply below_drew1) | exact HB.out)⟩⟩
        · rw [if_neg c7] at H
          have c7b0 : decide (x9_1 < (a0.size : Int)) = false := decide_eq_false c7
          clear c7
          (first | rw [c7b0] | (simp only [i64_w, i32_w]; rw [c7b0]) | skip)
          have H' := Aside0.mk H
          clear H
          go_wp2
          go_meet
          case rel => exact ⟨_, (false), z11_, H', ⟨by have := HK1.out; first | omega | exact Nat.le_refl _⟩, ⟨by (with_reducible repeat (first | apply Kd.R_alloc | apply Kd.R_drewN | apply Kd.R_drew)); exact HO_7.out⟩, ⟨by repeat (first | (with_reducible first | exact HB.out | apply below_alloc | apply pw_below_drewN | apply below_drew1) | exact HB.out)⟩⟩
      case rest =>
        clear HC6
        try clear p2
        try clear c7
        try clear c7b0
        try clear c8
        try clear p2
        obtain ⟨kq, x20_5, rfl, HA, HJ5, HO_7, HB⟩ := hcut
        cases kq with
        | zero => exact absurd HA.out (by simp [spec_l1Cut.j1])
        | succ kj5 =>
          have H := HA.out
          clear HA
          simp only [spec_l1Cut.j1] at H
          by_cases c9 : x20_5 = true
          · subst c9
            have H1 : (if 0 ≤ x9_1 then (if x9_1 < (a0.size : Int) then (if (bt a0 x9_1) = a1 then (if 0 ≤ x8_1 then (if x8_1 ≤ x9_1 then (if x9_1 ≤ (a0.size : Int) then (if x7_1.length < 8796093022208 then (spec_l1Cut.l0 kj5 a0 a1 a2 (x7_1 ++ [a0.extract (x8_1 : Int).toNat (x9_1 : Int).toNat]) (wrap64 (x9_1 + 1)) (wrap64 (x9_1 + 1))) else (none)) else (none)) else (none)) else (none)) else (spec_l1Cut.l0 kj5 a0 a1 a2 x7_1 x8_1 (wrap64 (x9_1 + 1)))) else (none)) else (none)) = some r := by rw [if_pos rfl] at H; exact H
            clear H
            have H := H1
            clear H1
            by_cases c10 : 0 ≤ x9_1
            · rw [if_pos c10] at H
              have c10b0 : decide (0 ≤ x9_1) = true := decide_eq_true c10
              clear c10
              by_cases c11 : x9_1 < (a0.size : Int)
              · rw [if_pos c11] at H
                have c11b0 : decide (x9_1 < (a0.size : Int)) = true := decide_eq_true c11
                clear c11
                by_cases c13 : (bt a0 x9_1) = a1
                · rw [if_pos c13] at H
                  have c13b0 : ((bt a0 x9_1) == a1) = true := beq_iff_eq.mpr c13
                  have c13b1 : ((bt a0 x9_1) != a1) = false := bne_eq_false_iff_eq.mpr c13
                  clear c13
                  by_cases c14 : 0 ≤ x8_1
                  · rw [if_pos c14] at H
                    have c14b0 := eq_true c14
                    have c14b1 : decide (0 ≤ x8_1) = true := decide_eq_true c14
                    clear c14
                    by_cases c15 : x8_1 ≤ x9_1
                    · rw [if_pos c15] at H
                      have c15b0 := eq_true c15
                      have c15b1 : decide (x8_1 ≤ x9_1) = true := decide_eq_true c15
                      clear c15
                      by_cases c16 : x9_1 ≤ (a0.size : Int)
                      · rw [if_pos c16] at H
                        have c16b0 := eq_true c16
                        have c16b1 : decide (x9_1 ≤ (a0.size : Int)) = true := decide_eq_true c16
                        clear c16
                        by_cases c17 : x7_1.length < 8796093022208
                        · rw [if_pos c17] at H
                          have LMc17 := Aside0.mk c17
                          clear c17
                          obtain ⟨y104, hy104⟩ : ∃ y_ : List ByteArray, y_ = (x7_1 ++ [a0.extract (x8_1 : Int).toNat (x9_1 : Int).toNat]) := ⟨_, rfl⟩
                          replace H : (spec_l1Cut.l0 kj5 a0 a1 a2 y104 (wrap64 (x9_1 + 1)) (wrap64 (x9_1 + 1))) = some r := by first | (rw [hy104]; with_reducible exact H) | (have H2_ := (Option.bind_some _ _).symm.trans H; rw [hy104]; with_reducible exact H2_) | (have H2_ := (Option.bind_some _ _).symm.trans H; with_reducible exact H2_) | with_reducible exact H | (rw [hy104]; exact H) | exact H
                          have Ny104 := Aside0.mk hy104
                          clear hy104
                          have H' := Aside0.mk H
                          clear H
                          have p12 : 0 ≤ (x9_1 : Int) := of_decide_eq_true z5_
                          have q12 : x9_1 < (a0.size : Int) := of_decide_eq_true z5_
                          have hx12 := bt_at a0 x9_1
                          replace p12 := eq_true p12
                          replace q12 := eq_true q12
                          go_wp2_with (first | ((with_reducible refine gate_builtin (b := .append) (xs := #[.tmp 28, .tmp 33]) rfl ?_); (try (refine gate_guard (by rfl) ?_; dsimp only)); at_builtin; refine Kd.R_append Kd.string (w0 := w) w.heap.size rfl (.tmp 28) (.tmp 33) 25 9 (.string ⟨#[]⟩) 16 rfl Tryz.underlying25 info9 rfl (by decide) (by omega) u7 x7_1 (a0.extract (x8_1 : Int).toNat (x9_1 : Int).toNat) [.string (a0.extract (x8_1 : Int).toNat (x9_1 : Int).toNat)] (fun _ => True) (fun _ => False) rfl rfl ?aP (fun _ hk => hk.elim) ?aF ?aO ?aB ?aS ?aL ?_; (case aP => exact rfl); (case aB => exact z1_); (case aF => exact (fun _ _ => trivial)); (case aO => exact (by (with_reducible repeat (first | apply Kd.R_alloc | apply Kd.R_drewN | apply Kd.R_drew)); exact HO_7.out)); (case aS => exact (below_size z1_)); (case aL => have := LMc17.out; omega); intro v105 w18 ho hb hg hat; rw [← Ny104.out] at ho; have n0_ := Aside0.mk (hb); have n1_ := Aside0.mk (ho); clear HB; clear HO_7; have HB := n0_; have HO106 := n1_; clear n0_ n1_; clear ho hb hg hat))
                          go_roundg kj5
                          case measure => have := HK1.out; have := HJ5.out; omega
                          case rel => exact ⟨(y104), (wrap64 (x9_1 + 1)), (wrap64 (x9_1 + 1)), z11_, z11_, H', ⟨by have := HK1.out; have := HJ5.out; omega⟩, ⟨by (with_reducible repeat (first | apply Kd.R_alloc | apply Kd.R_drewN | apply Kd.R_drew)); exact HO106.out⟩, ⟨by repeat (first | (with_reducible first | exact HB.out | apply below_alloc | apply pw_below_drewN | apply below_drew1) | exact HB.out)⟩⟩
                        · rw [if_neg c17] at H
                          exact absurd H (by simp)
                      · rw [if_neg c16] at H
                        exact absurd H (by simp)
                    · rw [if_neg c15] at H
                      exact absurd H (by simp)
                  · rw [if_neg c14] at H
                    exact absurd H (by simp)
                · rw [if_neg c13] at H
                  have c13b0 : ((bt a0 x9_1) == a1) = false := beq_eq_false_iff_ne.mpr c13
                  have c13b1 : ((bt a0 x9_1) != a1) = true := bne_iff_ne.mpr c13
                  have H' := Aside0.mk H
                  clear H
                  have p12 : 0 ≤ (x9_1 : Int) := of_decide_eq_true z5_
                  have q12 : x9_1 < (a0.size : Int) := of_decide_eq_true z5_
                  have hx12 := bt_at a0 x9_1
                  replace p12 := eq_true p12
                  replace q12 := eq_true q12
                  go_wp2
                  go_roundg kj5
                  case measure => have := HK1.out; have := HJ5.out; omega
                  case rel => exact ⟨(x7_1), (x8_1), (wrap64 (x9_1 + 1)), z11_, z11_, H', ⟨by have := HK1.out; have := HJ5.out; omega⟩, ⟨by (with_reducible repeat (first | apply Kd.R_alloc | apply Kd.R_drewN | apply Kd.R_drew)); exact HO_7.out⟩, ⟨by repeat (first | (with_reducible first | exact HB.out | apply below_alloc | apply pw_below_drewN | apply below_drew1) | exact HB.out)⟩⟩
              · rw [if_neg c11] at H
                exact absurd H (by simp)
            · rw [if_neg c10] at H
              exact absurd H (by simp)
          · replace c9 := Bool.eq_false_iff.mpr c9
            subst c9
            have H1 : (if 0 ≤ x8_1 then (if x8_1 ≤ (a0.size : Int) then (if x7_1.length < 8796093022208 then (some (x7_1 ++ [a0.extract (x8_1 : Int).toNat a0.size])) else (none)) else (none)) else (none)) = some r := by rw [if_neg (show ¬ (false = true) by decide)] at H; exact H
            clear H
            have H := H1
            clear H1
            by_cases c19 : 0 ≤ x8_1
            · rw [if_pos c19] at H
              have c19b0 := eq_true c19
              have c19b1 : decide (0 ≤ x8_1) = true := decide_eq_true c19
              clear c19
              by_cases c20 : x8_1 ≤ (a0.size : Int)
              · rw [if_pos c20] at H
                have c20b0 := eq_true c20
                have c20b1 : decide (x8_1 ≤ (a0.size : Int)) = true := decide_eq_true c20
                clear c20
                by_cases c21 : x7_1.length < 8796093022208
                · rw [if_pos c21] at H
                  have LMc21 := Aside0.mk c21
                  clear c21
                  obtain ⟨y107, hy107⟩ : ∃ y_ : List ByteArray, y_ = (x7_1 ++ [a0.extract (x8_1 : Int).toNat a0.size]) := ⟨_, rfl⟩
                  replace H : (some y107) = some r := by first | (rw [hy107]; with_reducible exact H) | (have H2_ := (Option.bind_some _ _).symm.trans H; rw [hy107]; with_reducible exact H2_) | (have H2_ := (Option.bind_some _ _).symm.trans H; with_reducible exact H2_) | with_reducible exact H | (rw [hy107]; exact H) | exact H
                  have Ny107 := Aside0.mk hy107
                  clear hy107
                  obtain rfl := Option.some.inj H
                  go_wp2_with (first | ((with_reducible refine gate_builtin (b := .append) (xs := #[.tmp 37, .tmp 41]) rfl ?_); (try (refine gate_guard (by rfl) ?_; dsimp only)); at_builtin; refine Kd.R_append Kd.string (w0 := w) w.heap.size rfl (.tmp 37) (.tmp 41) 25 9 (.string ⟨#[]⟩) 16 rfl Tryz.underlying25 info9 rfl (by decide) (by omega) u7 x7_1 (a0.extract (x8_1 : Int).toNat a0.size) [.string (a0.extract (x8_1 : Int).toNat a0.size)] (fun _ => True) (fun _ => False) rfl rfl ?aP (fun _ hk => hk.elim) ?aF ?aO ?aB ?aS ?aL ?_; (case aP => exact rfl); (case aB => exact z1_); (case aF => exact (fun _ _ => trivial)); (case aO => exact (by (with_reducible repeat (first | apply Kd.R_alloc | apply Kd.R_drewN | apply Kd.R_drew)); exact HO_7.out)); (case aS => exact (below_size z1_)); (case aL => have := LMc21.out; omega); intro v108 w22 ho hb hg hat; rw [← Ny107.out] at ho; have n0_ := Aside0.mk (hb); have n1_ := Aside0.mk (ho); clear HB; clear HO_7; have HB := n0_; have HO109 := n1_; clear n0_ n1_; clear ho hb hg hat))
                  go_ret
                  exact ⟨_, by first | rfl | (simp [errW_none, errW_some] <;> rfl) | (simp [*, errW_none, errW_some] <;> rfl), by (with_reducible repeat (first | apply Kd.R_alloc | apply Kd.R_drewN | apply Kd.R_drew)); exact HO109.out, by repeat (first | (with_reducible first | exact HB.out | apply below_alloc | apply pw_below_drewN | apply below_drew1) | exact HB.out)⟩
                · rw [if_neg c21] at H
                  exact absurd H (by simp)
              · rw [if_neg c20] at H
                exact absurd H (by simp)
            · rw [if_neg c19] at H
              exact absurd H (by simp)
end Go.Proofs.YtbncnjgflhoneaaGreatDoor.F
namespace Go.Proofs.YtbncnjgflhoneaaGreatDoor.F
open Go.RowKit Go.Proofs.YtbncnjgflhoneaaGreatDoor.Hand Go.Proofs.YtbncnjgflhoneaaGreatDoorW.PrintWords Go.Proofs.YtbncnjgflhoneaaGreatDoorW.PrintLast Go.Proofs.YtbncnjgflhoneaaGreatDoorW.PrintMore
attribute [local go_sem] max2_int min2_int max_two min_two max_three min_three max_four min_four   -- for this text's walks alone
set_option linter.unusedVariables false
set_option linter.unusedSimpArgs false
def spec_l1Domain.l0 : Nat → List ByteArray → Int → Option (Bool)
  | 0, _, _ => none
  | k + 1, x3, x4 => if x4 < (x3.length : Int) then (if 0 ≤ x4 then ((spec_l1Word.f k (rdOf ByteArray.empty x3 x4)).bind fun t105 => (if t105 = true then (spec_l1Domain.l0 k x3 (wrap64 (x4 + 1))) else (some false))) else (none)) else (some (decide ((x3.length : Int) ≤ 3)))
def spec_l1Domain.f (k : Nat) (a0 : ByteArray) : Option (Bool) := (spec_l1Cut.f k a0 46 3).bind fun t101 => (spec_l1Domain.l0 k t101 0)
theorem spec_l1Domain.mono_l : ∀ k, (∀ y0 y1, LeO (spec_l1Domain.l0 k y0 y1) (spec_l1Domain.l0 (k + 1) y0 y1))
  | 0 => fun _ _ r h => by simp [spec_l1Domain.l0] at h
  | k + 1 => by
    have ih0 := spec_l1Domain.mono_l k
    · intro y0 y1
      unfold spec_l1Domain.l0
      repeat' first
      | (with_reducible exact ih0 _ _)
      | (with_reducible exact spec_l1Cut.mono _ _ _ _)
      | (with_reducible exact spec_l1Word.mono _ _)
      | (with_reducible exact LeO.refl _)
      | (with_reducible exact LeO.none _)
      | (with_reducible refine LeO.ite ?_ ?_)
      | (with_reducible refine LeO.bind ?_ (fun _ => ?_))
      | exact ih0 _ _
      | exact spec_l1Cut.mono _ _ _ _
      | exact spec_l1Word.mono _ _
      | exact LeO.none _
      | refine LeO.ite ?_ ?_
      | refine LeO.bind ?_ (fun _ => ?_)
theorem spec_l1Domain.mono : ∀ a0 k, LeO (spec_l1Domain.f k a0) (spec_l1Domain.f (k + 1) a0) := by
  intro a0 k
  have ih0 := spec_l1Domain.mono_l k
  unfold spec_l1Domain.f
  repeat' first
      | (with_reducible exact ih0 _ _)
      | (with_reducible exact spec_l1Cut.mono _ _ _ _)
      | (with_reducible exact spec_l1Word.mono _ _)
      | (with_reducible exact LeO.refl _)
      | (with_reducible exact LeO.none _)
      | (with_reducible refine LeO.ite ?_ ?_)
      | (with_reducible refine LeO.bind ?_ (fun _ => ?_))
      | exact ih0 _ _
      | exact spec_l1Cut.mono _ _ _ _
      | exact spec_l1Word.mono _ _
      | exact LeO.none _
      | refine LeO.ite ?_ ?_
      | refine LeO.bind ?_ (fun _ => ?_)
set_option maxHeartbeats 8000000 in
set_option maxRecDepth 100000 in
theorem spec_l1Domain.calls (k : Nat) (a0 : ByteArray) (r : Bool) (w : World) (h : spec_l1Domain.f k a0 = some r) :
    Calls Tryz.prog 102 #[.string a0] w fun e w' => e = .returned (.bool r) ∧ Below w.heap.size w w' := by
  have HB := Aside0.mk (Below.refl w.heap.size w)
  have H : ((spec_l1Cut.f k a0 46 3).bind fun t101 => (spec_l1Domain.l0 k t101 0)) = some r := h
  clear h
  replace H := Option.bind_eq_some_iff.mp H
  obtain ⟨t101, A20, H⟩ := H
  replace H : (spec_l1Domain.l0 k t101 0) = some r := H
  have A2 := Aside0.mk A20
  clear A20
  have H' := Aside0.mk H
  clear H
  go_enter Tryz.func102, Tryz.ntmps102
  go_wp2_with (first | ((with_reducible refine gate_callee (f := 84) rfl ?_); refine goesL_ (some 6) rfl rfl Tryz.func84 z12_ rfl #[.string a0, .int .u8 46, .int .i64 3] rfl z3_ ?_; (with_reducible refine (spec_l1Cut.calls k a0 46 3 t101 _ A2.out).mono ?_); rintro e w3 ⟨v102, rfl, ho0, hb⟩; refine ⟨_, rfl, ?_⟩; have n0_ := Aside0.mk (Kd.R_lower ho0 (below_size z1_)); have n1_ := Aside0.mk (below_step z1_ hb); clear HB; have HO103 := n0_; have HB := n1_; clear n0_ n1_; (try clear hb); (try clear hb2); (try clear hk); (try clear hi); (try clear ho0)))
  go_loopg [4] k (fun kq v4 w' => ∃ (x4_1 : Int), v4 = .int .i64 x4_1 ∧ Aside0 (spec_l1Domain.l0 kq t101 x4_1 = some r) ∧ Aside0 (kq ≤ k) ∧ Aside0 (Kd.R Kd.string 9 w' w.heap.size (fun _ => True) v102 t101) ∧ Aside0 (Below w.heap.size w w'))
  case atStart => exact ⟨(0), z11_, H', ⟨Nat.le_refl _⟩, ⟨by (with_reducible repeat (first | apply Kd.R_alloc | apply Kd.R_drewN | apply Kd.R_drew)); exact HO103.out⟩, ⟨by repeat (first | (with_reducible first | exact HB.out | apply below_alloc | apply pw_below_drewN | apply below_drew1) | exact HB.out)⟩⟩
  case round =>
    clear H'
    try clear c1
    try clear p2
    obtain ⟨x4_1, rfl, HA, HK1, HO_3, HB⟩ := hrel
    cases gk with
    | zero => exact absurd HA.out (by simp [spec_l1Domain.l0])
    | succ k1 =>
      have H := HA.out
      clear HA
      simp only [spec_l1Domain.l0] at H
      by_cases c4 : x4_1 < (t101.length : Int)
      · rw [if_pos c4] at H
        have c4b0 : decide (x4_1 < (t101.length : Int)) = true := decide_eq_true c4
        clear c4
        by_cases c5 : 0 ≤ x4_1
        · rw [if_pos c5] at H
          have c5b0 : decide (0 ≤ x4_1) = true := decide_eq_true c5
          clear c5
          replace H := Option.bind_eq_some_iff.mp H
          obtain ⟨t105, A60, H⟩ := H
          replace H : (if t105 = true then (spec_l1Domain.l0 k1 t101 (wrap64 (x4_1 + 1))) else (some false)) = some r := H
          have A6 := Aside0.mk A60
          clear A60
          by_cases c7 : t105 = true
          · subst c7
            have H1 : (spec_l1Domain.l0 k1 t101 (wrap64 (x4_1 + 1))) = some r := by rw [if_pos rfl] at H; exact H
            clear H
            have H := H1
            clear H1
            have H' := Aside0.mk H
            clear H
            obtain ⟨Ao8, co8, eo8⟩ := Kd.R_slice HO_3.out
            subst eo8
            have p104 : 0 ≤ (x4_1 : Int) := of_decide_eq_true z5_
            have q104 : x4_1 < (t101.length : Int) := of_decide_eq_true z5_
            obtain ⟨ad104, e104, hx104_0⟩ := Kd.at_string (Kd.R_reads' HO_3.out).2.2 x4_1 p104 q104
            cases e104
            replace p104 := eq_true p104
            replace q104 := eq_true q104
            go_wp2_with (first | ((with_reducible refine gate_callee (f := 101) rfl ?_); refine goesL_ (some 17) rfl rfl Tryz.func101 z12_ rfl #[.string (rdOf ByteArray.empty t101 x4_1)] rfl z3_ ?_; (with_reducible refine (spec_l1Word.calls k1 (rdOf ByteArray.empty t101 x4_1) true _ A6.out).mono ?_); rintro e w' ⟨rfl, ⟨nd, rfl⟩⟩; refine ⟨_, rfl, ?_⟩))
            go_roundg k1
            case measure => have := HK1.out; omega
            case rel => exact ⟨(wrap64 (x4_1 + 1)), z11_, H', ⟨by have := HK1.out; omega⟩, ⟨by (with_reducible repeat (first | apply Kd.R_alloc | apply Kd.R_drewN | apply Kd.R_drew)); exact HO_3.out⟩, ⟨by repeat (first | (with_reducible first | exact HB.out | apply below_alloc | apply pw_below_drewN | apply below_drew1) | exact HB.out)⟩⟩
          · replace c7 := Bool.eq_false_iff.mpr c7
            subst c7
            have H1 : (some false) = some r := by rw [if_neg (show ¬ (false = true) by decide)] at H; exact H
            clear H
            have H := H1
            clear H1
            obtain rfl := Option.some.inj H
            obtain ⟨Ao9, co9, eo9⟩ := Kd.R_slice HO_3.out
            subst eo9
            have p104 : 0 ≤ (x4_1 : Int) := of_decide_eq_true z5_
            have q104 : x4_1 < (t101.length : Int) := of_decide_eq_true z5_
            obtain ⟨ad104, e104, hx104_0⟩ := Kd.at_string (Kd.R_reads' HO_3.out).2.2 x4_1 p104 q104
            cases e104
            replace p104 := eq_true p104
            replace q104 := eq_true q104
            go_wp2_with (first | ((with_reducible refine gate_callee (f := 101) rfl ?_); refine goesL_ (some 17) rfl rfl Tryz.func101 z12_ rfl #[.string (rdOf ByteArray.empty t101 x4_1)] rfl z3_ ?_; (with_reducible refine (spec_l1Word.calls k1 (rdOf ByteArray.empty t101 x4_1) false _ A6.out).mono ?_); rintro e w' ⟨rfl, ⟨nd, rfl⟩⟩; refine ⟨_, rfl, ?_⟩))
            go_ret
            exact ⟨z4_, z1_⟩
        · rw [if_neg c5] at H
          exact absurd H (by simp)
      · rw [if_neg c4] at H
        have c4b0 : decide (x4_1 < (t101.length : Int)) = false := decide_eq_false c4
        clear c4
        obtain rfl := Option.some.inj H
        obtain ⟨Ao10, co10, eo10⟩ := Kd.R_slice HO_3.out
        subst eo10
        go_wp2
        go_ret
        exact ⟨z4_, z1_⟩
end Go.Proofs.YtbncnjgflhoneaaGreatDoor.F
namespace Go.Proofs.YtbncnjgflhoneaaGreatDoor.F
open Go.RowKit Go.Proofs.YtbncnjgflhoneaaGreatDoor.Hand Go.Proofs.YtbncnjgflhoneaaGreatDoorW.PrintWords Go.Proofs.YtbncnjgflhoneaaGreatDoorW.PrintLast Go.Proofs.YtbncnjgflhoneaaGreatDoorW.PrintMore
attribute [local go_sem] max2_int min2_int max_two min_two max_three min_three max_four min_four   -- for this text's walks alone
set_option linter.unusedVariables false
set_option linter.unusedSimpArgs false
def spec_l1AddrOk.f (k : Nat) (a0_0 : ByteArray) (a0_1 : ByteArray) : Option (Bool) := (spec_l1Word.f k a0_0).bind fun t102 => (if t102 = true then ((spec_l1Domain.f k a0_1).bind fun t103 => (some t103)) else (some false))
theorem spec_l1AddrOk.mono : ∀ a0 a1 k, LeO (spec_l1AddrOk.f k a0 a1) (spec_l1AddrOk.f (k + 1) a0 a1) := by
  intro a0 a1 k
  unfold spec_l1AddrOk.f
  repeat' first
      | (with_reducible exact spec_l1Domain.mono _ _)
      | (with_reducible exact spec_l1Word.mono _ _)
      | (with_reducible exact LeO.refl _)
      | (with_reducible exact LeO.none _)
      | (with_reducible refine LeO.ite ?_ ?_)
      | (with_reducible refine LeO.bind ?_ (fun _ => ?_))
      | exact spec_l1Domain.mono _ _
      | exact spec_l1Word.mono _ _
      | exact LeO.none _
      | refine LeO.ite ?_ ?_
      | refine LeO.bind ?_ (fun _ => ?_)
set_option maxHeartbeats 8000000 in
set_option maxRecDepth 100000 in
theorem spec_l1AddrOk.calls (k : Nat) (a0_0 : ByteArray) (a0_1 : ByteArray) (r : Bool) (w : World) (h : spec_l1AddrOk.f k a0_0 a0_1 = some r) :
    Calls Tryz.prog 58 #[.agg #[.string a0_0, .string a0_1]] w fun e w' => e = .returned (.bool r) ∧ Below w.heap.size w w' := by
  have hu32 := Tryz.underlying32
  have HB := Aside0.mk (Below.refl w.heap.size w)
  have H : ((spec_l1Word.f k a0_0).bind fun t102 => (if t102 = true then ((spec_l1Domain.f k a0_1).bind fun t103 => (some t103)) else (some false))) = some r := h
  clear h
  replace H := Option.bind_eq_some_iff.mp H
  obtain ⟨t102, A20, H⟩ := H
  replace H : (if t102 = true then ((spec_l1Domain.f k a0_1).bind fun t103 => (some t103)) else (some false)) = some r := H
  have A2 := Aside0.mk A20
  clear A20
  by_cases c3 : t102 = true
  · subst c3
    have H1 : ((spec_l1Domain.f k a0_1).bind fun t103 => (some t103)) = some r := by rw [if_pos rfl] at H; exact H
    clear H
    have H := H1
    clear H1
    replace H := Option.bind_eq_some_iff.mp H
    obtain ⟨t103, A40, H⟩ := H
    replace H : (some t103) = some r := H
    have A4 := Aside0.mk A40
    clear A40
    obtain rfl := Option.some.inj H
    go_enter Tryz.func58, Tryz.ntmps58
    go_wp2_with (first | ((with_reducible refine gate_dst (N := 1) rfl ?_); refine box_event ?hg (N := 1) ?hd (cs := #[.string a0_0, .string a0_1]) (t := 32) ?hr ?_; (case hd => rfl); (case hg => rfl); (case hr => first | (go_simp; done) | (go_simp; rfl)); intro gb101 hg w5 hbox hb; have n0_ := Aside0.mk (below_step z1_ hb); have n1_ := Aside0.mk (hbox); have n2_ := Aside0.mk ((by rw [hg]; exact (below_size z1_) : w.heap.size ≤ gb101)); have n3_ := Aside0.mk ((by rw [hg]; exact (below_size z1_) : w.heap.size ≤ gb101)); clear HB; have HB := n0_; have BK101 := n1_; have GW101 := n2_; have GE101 := n3_; clear n0_ n1_ n2_ n3_; clear hb hbox hg; have hcz6_0 : w5.cell? ⟨gb101, 0, none⟩ = some (.string a0_0) := (blk_cell BK101.out 0).trans rfl; have hcz6_1 : w5.cell? ⟨gb101, 1, none⟩ = some (.string a0_1) := (blk_cell BK101.out 1).trans rfl; have hfz6_0 := blk_frozen BK101.out 0; have hfz6_1 := blk_frozen BK101.out 1) | ((with_reducible refine gate_callee (f := 101) rfl ?_); refine goesL_ (some 5) rfl rfl Tryz.func101 z12_ rfl #[.string a0_0] rfl z3_ ?_; (with_reducible refine (spec_l1Word.calls k a0_0 true _ A2.out).mono ?_); rintro e w' ⟨rfl, ⟨nd, rfl⟩⟩; refine ⟨_, rfl, ?_⟩) | (go_at_call 102; (with_reducible refine (spec_l1Domain.calls k a0_1 t103 _ A4.out).mono ?_); rintro e w7 ⟨rfl, hb⟩; have n0_ := Aside0.mk (blk_below (g := gb101) (o := .cells #[.string a0_0, .string a0_1] 32 (0, 0)) z2_ hb); have n1_ := Aside0.mk (below_step z0_ hb); clear BK101; clear HB; have BK101 := n0_; have HB := n1_; clear n0_ n1_; (try clear hb); (try clear hb2); (try clear hk); (try clear hi)))
    go_ret
    exact ⟨z4_, z0_⟩
  · replace c3 := Bool.eq_false_iff.mpr c3
    subst c3
    have H1 : (some false) = some r := by rw [if_neg (show ¬ (false = true) by decide)] at H; exact H
    clear H
    have H := H1
    clear H1
    obtain rfl := Option.some.inj H
    go_enter Tryz.func58, Tryz.ntmps58
    go_wp2_with (first | ((with_reducible refine gate_dst (N := 1) rfl ?_); refine box_event ?hg (N := 1) ?hd (cs := #[.string a0_0, .string a0_1]) (t := 32) ?hr ?_; (case hd => rfl); (case hg => rfl); (case hr => first | (go_simp; done) | (go_simp; rfl)); intro gb101 hg w8 hbox hb; have n0_ := Aside0.mk (below_step z1_ hb); have n1_ := Aside0.mk (hbox); have n2_ := Aside0.mk ((by rw [hg]; exact (below_size z1_) : w.heap.size ≤ gb101)); have n3_ := Aside0.mk ((by rw [hg]; exact (below_size z1_) : w.heap.size ≤ gb101)); clear HB; have HB := n0_; have BK101 := n1_; have GW101 := n2_; have GE101 := n3_; clear n0_ n1_ n2_ n3_; clear hb hbox hg; have hcz9_0 : w8.cell? ⟨gb101, 0, none⟩ = some (.string a0_0) := (blk_cell BK101.out 0).trans rfl; have hcz9_1 : w8.cell? ⟨gb101, 1, none⟩ = some (.string a0_1) := (blk_cell BK101.out 1).trans rfl; have hfz9_0 := blk_frozen BK101.out 0; have hfz9_1 := blk_frozen BK101.out 1) | ((with_reducible refine gate_callee (f := 101) rfl ?_); refine goesL_ (some 5) rfl rfl Tryz.func101 z12_ rfl #[.string a0_0] rfl z3_ ?_; (with_reducible refine (spec_l1Word.calls k a0_0 false _ A2.out).mono ?_); rintro e w' ⟨rfl, ⟨nd, rfl⟩⟩; refine ⟨_, rfl, ?_⟩))
    go_ret
    exact ⟨z4_, z0_⟩
end Go.Proofs.YtbncnjgflhoneaaGreatDoor.F
namespace Go.Proofs.YtbncnjgflhoneaaGreatDoor.Hand
open Go.RowKit Go.Proofs.YtbncnjgflhoneaaGreatDoor.F Go.Proofs.YtbncnjgflhoneaaGreatDoorW.PrintWords Go.Proofs.YtbncnjgflhoneaaGreatDoorW.PrintLast Go.Proofs.YtbncnjgflhoneaaGreatDoorW.PrintMore
def B (l : List UInt8) : ByteArray := ⟨l.toArray⟩
theorem B_data (l : List UInt8) : (B l).data.toList = l := by simp [B]
theorem B_size (l : List UInt8) : (B l).size = l.length := by rw [← data_length, B_data]
theorem B_of (s : ByteArray) : B s.data.toList = s := by cases s; simp [B]
theorem toL (s : ByteArray) : s.toList = s.data.toList := Lib.toList_data s
theorem B_toList (l : List UInt8) : (B l).toList = l := by rw [toL, B_data]
theorem eq_B {s : ByteArray} {l : List UInt8} (h : s.data.toList = l) : s = B l := by rw [← h, B_of]
def front (p : List UInt8) : List (List UInt8) → List (List UInt8)
  | [] => [p]
  | x :: r => (p ++ x) :: r
theorem front_front (p q : List UInt8) (L : List (List UInt8)) : front p (front q L) = front (p ++ q) L := by
  cases L <;> simp [front]
theorem front_nil (L : List (List UInt8)) (h : L ≠ []) : front [] L = L := by
  cases L with
  | nil => exact absurd rfl h
  | cons x r => simp [front]
theorem front_length (p : List UInt8) (L : List (List UInt8)) (h : L ≠ []) : (front p L).length = L.length := by
  cases L with
  | nil => exact absurd rfl h
  | cons x r => simp [front]
def cutAt (c : UInt8) : List UInt8 → List (List UInt8)
  | [] => [[]]
  | a :: l => if a = c then [] :: cutAt c l else front [a] (cutAt c l)
def cutM (c : UInt8) : Nat → List UInt8 → List (List UInt8)
  | _, [] => [[]]
  | 0, a :: l => [a :: l]
  | m + 1, a :: l => if a = c then [] :: cutM c m l else front [a] (cutM c (m + 1) l)
theorem cutAt_ne (c : UInt8) (l : List UInt8) : cutAt c l ≠ [] := by
  cases l with
  | nil => simp [cutAt]
  | cons a l =>
    rw [cutAt]
    split
    · simp
    · cases cutAt c l <;> simp [front]
theorem cutM_zero (c : UInt8) (l : List UInt8) : cutM c 0 l = [l] := by cases l <;> rfl
theorem cutM_ne (c : UInt8) (m : Nat) (l : List UInt8) : cutM c m l ≠ [] := by
  cases l with
  | nil => cases m <;> simp [cutM]
  | cons a l =>
    cases m with
    | zero => simp [cutM]
    | succ m =>
      rw [cutM]
      split
      · simp
      · cases cutM c (m + 1) l <;> simp [front]
theorem cutM_nil (c : UInt8) (m : Nat) : cutM c m [] = [[]] := by cases m <;> rfl
theorem cutM_cutAt (c : UInt8) : ∀ (l : List UInt8) (m : Nat), ((cutAt c l).length ≤ m + 1 → cutM c m l = cutAt c l) ∧ (m + 1 < (cutAt c l).length → (cutM c m l).length = m + 1)
  | [], m => by cases m <;> simp [cutAt, cutM]
  | a :: l, 0 => by
    refine ⟨fun h => ?_, fun _ => by simp [cutM]⟩
    rw [cutM]
    by_cases e : a = c
    · rw [cutAt, if_pos e] at h
      have := List.length_pos_iff.2 (cutAt_ne c l)
      rw [List.length_cons] at h
      omega
    · rw [cutAt, if_neg e] at h ⊢
      rw [front_length _ _ (cutAt_ne c l)] at h
      have h2 := (cutM_cutAt c l 0).1 h
      rw [← h2, cutM_zero]
      rfl
  | a :: l, m + 1 => by
    rw [cutM, cutAt]
    by_cases e : a = c
    · rw [if_pos e, if_pos e]
      obtain ⟨h1, h2⟩ := cutM_cutAt c l m
      refine ⟨fun h => ?_, fun h => ?_⟩
      · simp at h
        rw [h1 (by omega)]
      · simp at h
        have := h2 (by omega)
        simp [this]
    · rw [if_neg e, if_neg e]
      obtain ⟨h1, h2⟩ := cutM_cutAt c l (m + 1)
      rw [front_length _ _ (cutAt_ne c l)]
      refine ⟨fun h => by rw [h1 h], fun h => ?_⟩
      rw [front_length _ _ (cutM_ne c (m + 1) l)]
      exact h2 h
theorem cutAt_miss (c : UInt8) : ∀ l : List UInt8, c ∉ l → cutAt c l = [l]
  | [], _ => rfl
  | a :: l, h => by
    rw [cutAt, if_neg (fun e => h (by simp [e])), cutAt_miss c l (fun hh => h (by simp [hh]))]
    rfl
theorem cutAt_hit (c : UInt8) (b : List UInt8) : ∀ a : List UInt8, c ∉ a → cutAt c (a ++ c :: b) = a :: cutAt c b
  | [], _ => by rw [List.nil_append, cutAt, if_pos rfl]
  | x :: a, h => by
    rw [List.cons_append, cutAt, if_neg (fun e => h (by simp [e])), cutAt_hit c b a (fun hh => h (by simp [hh]))]
    rfl
theorem cutM_miss (c : UInt8) (m : Nat) (l : List UInt8) (h : c ∉ l) : cutM c m l = [l] := by
  have h2 := cutAt_miss c l h
  rw [(cutM_cutAt c l m).1 (by rw [h2]; simp), h2]
theorem cutM_hit (c : UInt8) (m : Nat) (b : List UInt8) : ∀ a : List UInt8, c ∉ a → cutM c (m + 1) (a ++ c :: b) = a :: cutM c m b
  | [], _ => by rw [List.nil_append, cutM, if_pos rfl]
  | x :: a, h => by
    rw [List.cons_append, cutM, if_neg (fun e => h (by simp [e])), cutM_hit c m b a (fun hh => h (by simp [hh]))]
    rfl
theorem index_one (c : UInt8) : ∀ l : List UInt8, (Lib.index l [c] = -1 ∧ c ∉ l) ∨ ∃ i : Nat, Lib.index l [c] = i ∧ c ∉ l.take i ∧ ∃ h : i < l.length, l[i] = c
  | [] => by left; simp [Lib.index]
  | b :: l => by
    by_cases e : c = b
    · right
      refine ⟨0, ?_, by simp, by simp, by simp [e]⟩
      simp [Lib.index, e]
    · have hp : [c].isPrefixOf (b :: l) = false := by simp [List.isPrefixOf, e]
      rcases index_one c l with ⟨h1, h2⟩ | ⟨i, h1, h2, h3, h4⟩
      · left
        refine ⟨by rw [Lib.index, hp, h1]; simp, by simp [e, h2]⟩
      · right
        refine ⟨i + 1, ?_, ?_, by simp; omega, by simpa using h4⟩
        · rw [Lib.index, hp, h1]
          have : ¬ ((i : Int) == -1) = true := by simp
          rw [if_neg (by simp), if_neg this]
          omega
        · simp [e, h2]
theorem split_one (c : UInt8) : ∀ (n : Nat) (s : ByteArray), s.size ≤ n → (Lib.splitB (B [c]) 0 (Lib.countB s (B [c])) s).map (·.data.toList) = cutAt c s.data.toList := by
  intro n
  induction n with
  | zero =>
    intro s hs
    have hd : s.data.toList = [] := List.eq_nil_of_length_eq_zero (by rw [data_length]; omega)
    rcases Lib.indexB_cases s (B [c]) with h | ⟨i, _, hr⟩
    · rw [Lib.countB_miss _ _ h, Lib.splitB_zero, List.map_singleton, hd]
      rfl
    · rw [B_size] at hr
      simp at hr
      omega
  | succ n ih =>
    intro s hs
    have h1 : 1 ≤ (B [c]).size := by rw [B_size]; simp
    have hix : Lib.indexB s (B [c]) = Lib.index s.data.toList [c] := by
      show Lib.index s.data.toList (B [c]).data.toList = _
      rw [B_data]
    rcases index_one c s.data.toList with ⟨h, hm⟩ | ⟨i, h, hm, hlt, hc⟩
    · rw [Lib.countB_miss _ _ (hix.trans h), Lib.splitB_zero, List.map_singleton, cutAt_miss c _ hm]
    · have hi := hix.trans h
      rw [Lib.countB_hit _ _ i h1 hi, Nat.add_comm 1, Lib.splitB_hit _ _ _ _ i hi, List.map_cons, B_size]
      have hl : s.data.toList.length = s.size := data_length s
      rw [ih _ (by simp [ByteArray.size_extract]; omega)]
      have e1 : (s.extract 0 (i + 0)).data.toList = s.data.toList.take i := by rw [Nat.add_zero]; exact Lib.extract_from_zero s i
      have e2 : (s.extract (i + [c].length) s.size).data.toList = s.data.toList.drop (i + 1) := Lib.extract_to_end s (i + 1)
      rw [e1, e2]
      have e3 : s.data.toList = s.data.toList.take i ++ c :: s.data.toList.drop (i + 1) := by
        rw [← hc, ← List.drop_eq_getElem_cons hlt, List.take_append_drop]
      conv => rhs; rw [e3]
      rw [cutAt_hit c _ _ hm]
theorem labels_cut (d : ByteArray) : labelsOf d = (cutAt 46 d.data.toList).map B := by
  have h := split_one 46 _ d (Nat.le_refl _)
  unfold labelsOf
  rw [← h, List.map_map]
  refine (List.map_id _).symm.trans (List.map_congr_left fun x _ => ?_)
  exact (B_of x).symm
theorem extract_data' (s : ByteArray) (a b : Nat) : (s.extract a b).data.toList = (s.data.toList.take b).drop a := by
  rw [Lib.extract_data]
  simp [List.drop_take]
theorem cut_from (s : ByteArray) (hs : s.size ≤ 1099511627776) (c : UInt8) (most : Nat) (hmost : most ≤ 1000) : ∀ (d i f : Nat) (out : List ByteArray), s.size = i + d → f ≤ i → out.length ≤ most →
    Ev (fun k => spec_l1Cut.l0 k s (c.toNat : Int) (most : Int) out (f : Int) (i : Int)) (out ++ (front ((s.data.toList.take i).drop f) (cutM c (most - out.length) (s.data.toList.drop i))).map B) := by
  intro d
  induction d with
  | zero =>
    intro i f out hi hf ho
    have hdl : s.data.toList.length = s.size := data_length s
    refine Ev.step (f := fun k => spec_l1Cut.j1 k s (c.toNat : Int) (most : Int) out (f : Int) (i : Int) false) (fun k => by rw [spec_l1Cut.l0, if_neg (by omega)]) ?_
    refine Ev.step (f := fun _ => some (out ++ [s.extract f s.size])) (fun k => by rw [spec_l1Cut.j1, if_neg (by decide), if_pos (by omega), if_pos (by omega), if_pos (by omega)]; rfl) ?_
    rw [show s.data.toList.drop i = [] from List.drop_eq_nil_of_le (by omega), cutM_nil]
    have : front ((s.data.toList.take i).drop f) [[]] = [(s.data.toList.take i).drop f] := by simp [front]
    rw [this, List.map_singleton, ← eq_B (extract_data' s f i), show i = s.size by omega]
    exact Ev.now _
  | succ d ih =>
    intro i f out hi hf ho
    have hdl : s.data.toList.length = s.size := data_length s
    have hlt : i < s.data.toList.length := by omega
    refine Ev.step (f := fun k => spec_l1Cut.j1 k s (c.toNat : Int) (most : Int) out (f : Int) (i : Int) (decide ((out.length : Int) < most))) (fun k => by rw [spec_l1Cut.l0, if_pos (by omega)]) ?_
    by_cases hm : out.length < most
    · rw [decide_eq_true (by omega)]
      obtain ⟨m, hmm⟩ : ∃ m, most - out.length = m + 1 := ⟨most - out.length - 1, by omega⟩
      by_cases hc : s.data.toList[i] = c
      · refine Ev.step (f := fun k => spec_l1Cut.l0 k s (c.toNat : Int) (most : Int) (out ++ [s.extract f i]) ((i + 1 : Nat) : Int) ((i + 1 : Nat) : Int)) (fun k => by
          rw [spec_l1Cut.j1, if_pos rfl, if_pos (by omega), if_pos (by omega), if_pos (by rw [bt_get s i hlt, hc]), if_pos (by omega), if_pos (by omega), if_pos (by omega), if_pos (by omega), wrapIn (x := (i : Int) + 1) (by omega) (by omega)]
          rfl) ?_
        have h2 := ih (i + 1) (i + 1) (out ++ [s.extract f i]) (by omega) (Nat.le_refl _) (by simp; omega)
        rw [List.length_append, List.length_singleton, show most - (out.length + 1) = m by omega] at h2
        have e : (s.data.toList.take (i + 1)).drop (i + 1) = [] := List.drop_eq_nil_of_le (by rw [List.length_take]; omega)
        rw [e, front_nil _ (cutM_ne _ _ _)] at h2
        rw [hmm, List.drop_eq_getElem_cons hlt, cutM, if_pos hc]
        have e2 : front ((s.data.toList.take i).drop f) ([] :: cutM c m (s.data.toList.drop (i + 1))) = ((s.data.toList.take i).drop f) :: cutM c m (s.data.toList.drop (i + 1)) := by simp [front]
        rw [e2, List.map_cons, ← eq_B (extract_data' s f i)]
        simpa using h2
      · refine Ev.step (f := fun k => spec_l1Cut.l0 k s (c.toNat : Int) (most : Int) out (f : Int) ((i + 1 : Nat) : Int)) (fun k => by
          rw [spec_l1Cut.j1, if_pos rfl, if_pos (by omega), if_pos (by omega), if_neg (by rw [bt_get s i hlt]; intro h; exact hc (UInt8.toNat_inj.1 (by omega))), wrapIn (x := (i : Int) + 1) (by omega) (by omega)]
          rfl) ?_
        have h2 := ih (i + 1) f out (by omega) (by omega) ho
        rw [hmm] at h2 ⊢
        rw [List.drop_eq_getElem_cons hlt, cutM, if_neg hc, front_front]
        have e : (s.data.toList.take i).drop f ++ [s.data.toList[i]] = (s.data.toList.take (i + 1)).drop f := by
          rw [List.take_succ_eq_append_getElem hlt, List.drop_append_of_le_length (by rw [List.length_take]; omega)]
        rw [e]
        exact h2
    · rw [decide_eq_false (by omega)]
      refine Ev.step (f := fun _ => some (out ++ [s.extract f s.size])) (fun k => by rw [spec_l1Cut.j1, if_neg (by decide), if_pos (by omega), if_pos (by omega), if_pos (by omega)]; rfl) ?_
      rw [show most - out.length = 0 by omega, cutM_zero]
      have e : front ((s.data.toList.take i).drop f) [s.data.toList.drop i] = [(s.extract f s.size).data.toList] := by
        rw [extract_data']
        simp only [front]
        rw [← List.drop_append_of_le_length (by rw [List.length_take]; omega), List.take_append_drop, List.take_of_length_le (by omega)]
      rw [e, List.map_singleton, B_of]
      exact Ev.now _
theorem cut_tells (s : ByteArray) (hs : s.size ≤ 1099511627776) (c : UInt8) (most : Nat) (hmost : most ≤ 1000) : Ev (fun k => spec_l1Cut.f k s (c.toNat : Int) (most : Int)) ((cutM c most s.data.toList).map B) := by
  have h := cut_from s hs c most hmost s.size 0 0 [] (by omega) (Nat.le_refl _) (by simp)
  simp only [List.take_zero, List.drop_nil, List.drop_zero, List.length_nil, Nat.sub_zero, List.nil_append] at h
  rw [front_nil _ (cutM_ne _ _ _)] at h
  exact h
theorem sdomain_from (L : List ByteArray) (hL : L.length ≤ 1099511627776) (hs : ∀ s ∈ L, s.size ≤ 1099511627776) : ∀ (d i : Nat), L.length = i + d → Ev (fun k => spec_l1Domain.l0 k L (i : Int)) ((L.drop i).all labelB && decide (L.length ≤ 3)) := by
  intro d
  induction d with
  | zero =>
    intro i hi
    refine Ev.step (f := fun _ => some (decide ((L.length : Int) ≤ 3))) (fun k => by rw [spec_l1Domain.l0, if_neg (by omega)]) ?_
    rw [List.drop_eq_nil_of_le (by omega), List.all_nil, Bool.true_and, show decide ((L.length : Int) ≤ 3) = decide (L.length ≤ 3) from decide_eq_decide.2 (by omega)]
    exact Ev.now _
  | succ d ih =>
    intro i hi
    have hlt : i < L.length := by omega
    refine Ev.step (f := fun k => (spec_l1Word.f k L[i]).bind fun t => if t = true then spec_l1Domain.l0 k L ((i + 1 : Nat) : Int) else some false)
      (fun k => by rw [spec_l1Domain.l0, if_pos (by omega), if_pos (by omega), rdOf_mem _ _ _ hlt, wrapIn (x := (i : Int) + 1) (by omega) (by omega)]; rfl) ?_
    rw [List.drop_eq_getElem_cons hlt, List.all_cons]
    have h1 := word_tells L[i] (hs _ (List.getElem_mem hlt))
    cases hb : labelB L[i]
    · rw [hb] at h1
      exact Ev.call h1 (h := fun _ => some false) (fun n => by rw [if_neg (by decide)]) (Ev.now _)
    · rw [hb] at h1
      rw [Bool.true_and]
      exact Ev.call h1 (fun n => by rw [if_pos rfl]) (ih (i + 1) (by omega))
theorem mem_front {p : List UInt8} {L : List (List UInt8)} {x : List UInt8} {n : Nat} (hL : ∀ y ∈ L, y.length ≤ n) (hx : x ∈ front p L) : x.length ≤ p.length + n := by
  cases L with
  | nil =>
    simp [front] at hx
    subst hx
    omega
  | cons y r =>
    simp only [front, List.mem_cons] at hx
    rcases hx with rfl | hx
    · have := hL y (by simp)
      rw [List.length_append]
      omega
    · have := hL x (by simp [hx])
      omega
theorem cutM_short (c : UInt8) : ∀ (m : Nat) (l x : List UInt8), x ∈ cutM c m l → x.length ≤ l.length
  | m, [], x, h => by rw [cutM_nil] at h; simp at h; subst h; simp
  | 0, a :: l, x, h => by simp [cutM] at h; subst h; simp
  | m + 1, a :: l, x, h => by
    rw [cutM] at h
    split at h
    · rcases List.mem_cons.1 h with rfl | h
      · simp
      · have := cutM_short c m l x h
        simp
        omega
    · have := mem_front (fun y hy => cutM_short c (m + 1) l y hy) h
      simp at this ⊢
      omega
theorem cutM_few (c : UInt8) (m : Nat) (l : List UInt8) : (cutM c m l).length ≤ m + 1 := by
  obtain ⟨h1, h2⟩ := cutM_cutAt c l m
  by_cases h : (cutAt c l).length ≤ m + 1
  · rw [h1 h]; exact h
  · rw [h2 (by omega)]; exact Nat.le_refl _
theorem sdomain_tells (d : ByteArray) (hd : d.size ≤ 1099511627776) : Ev (fun k => spec_l1Domain.f k d) (domainB d) := by
  have hc := cut_tells d hd 46 3 (by omega)
  have hf := cutM_few 46 3 d.data.toList
  have h := sdomain_from ((cutM 46 3 d.data.toList).map B) (by rw [List.length_map]; omega) (fun s hs => by
    obtain ⟨x, hx, rfl⟩ := List.mem_map.1 hs
    have := cutM_short 46 3 _ x hx
    rw [B_size]
    rw [data_length] at this
    omega) _ 0 (Nat.zero_add _).symm
  rw [List.drop_zero] at h
  have e : (((cutM 46 3 d.data.toList).map B).all labelB && decide (((cutM 46 3 d.data.toList).map B).length ≤ 3)) = domainB d := by
    unfold domainB
    rw [labels_cut]
    obtain ⟨h1, h2⟩ := cutM_cutAt 46 d.data.toList 3
    by_cases g : (cutAt 46 d.data.toList).length ≤ 3 + 1
    · rw [h1 g]
    · rw [decide_eq_false (p := ((cutM 46 3 d.data.toList).map B).length ≤ 3) (by rw [List.length_map, h2 (by omega)]; omega), decide_eq_false (p := ((cutAt 46 d.data.toList).map B).length ≤ 3) (by rw [List.length_map]; omega), Bool.and_false, Bool.and_false]
  rw [e] at h
  exact Ev.call hc (fun n => rfl) h
theorem saddr_tells (u d : ByteArray) (hu : u.size ≤ 1099511627776) (hd : d.size ≤ 1099511627776) : Ev (fun k => spec_l1AddrOk.f k u d) (addrB u d) := by
  unfold addrB
  have h1 := word_tells u hu
  cases hb : labelB u
  · rw [hb] at h1
    exact Ev.call h1 (h := fun _ => some false) (fun n => by rw [if_neg (by decide)]) (Ev.now _)
  · rw [hb] at h1
    rw [Bool.true_and]
    exact Ev.call h1 (fun n => by rw [if_pos rfl]) (Ev.call (sdomain_tells d hd) (h := fun _ => some (domainB d)) (fun n => rfl) (Ev.now _))
end Go.Proofs.YtbncnjgflhoneaaGreatDoor.Hand
