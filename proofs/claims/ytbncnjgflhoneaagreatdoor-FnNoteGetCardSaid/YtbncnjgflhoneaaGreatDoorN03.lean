/- Of this claim, merged by program: HApart, F115, F114, HBody, F33, HLabel, HStr, F70, F34, F71, F38, F72, HMail, F57, F101, F134, F100, F55, Q1. -/
import Derived.Maps.OwnSet
import Derived.DeepKeys5
import Derived.Shelf.Strings.SlTrimAscii
import Derived.Test.YtbncnjgflhoneaaGreatDoorN02
set_option linter.unusedVariables false
set_option linter.unusedSimpArgs false
namespace Go.Proofs.YtbncnjgflhoneaaGreatDoor.Hand
open Go.RowKit Go.Proofs.YtbncnjgflhoneaaGreatDoor.F Go.Proofs.YtbncnjgflhoneaaGreatDoorW.l8 Go.Proofs.YtbncnjgflhoneaaGreatDoorW.s9 Go.Proofs.YtbncnjgflhoneaaGreatDoorW.y9
def aD0 (a b : G6) : Bool := a.f0.data.toList == b.f0.data.toList && a.f1.data.toList == b.f1.data.toList
def ao8 : List G6 → Bool
 | [] => true
 | a :: l => l.all (fun b => !aD0 a b) && ao8 l
def bo7 (s : ByteArray) : Bool := decide (s.size ≤ 1073741824)
theorem ct0 (a b : G6) : aD0 a b = true ↔ a.f0 = b.f0 ∧ a.f1 = b.f1 := by
 have e : ∀ x y : ByteArray, (x.data.toList == y.data.toList) = true ↔ x = y := by
  intro x y
  rw [beq_iff_eq]
  constructor
  ·intro h
   cases x; cases y
   simpa using h
  ·rintro rfl; rfl
 unfold aD0
 rw [Bool.and_eq_true, e, e]
theorem laidB : laidOutB Tryz.prog = true := by kernel_rfl
theorem keyed : Maps.Keyed Tryz.prog 32 := Maps.Keyed.of_law (deep_law_gate laidB (of_decide_eq_true (by kernel_rfl)) (of_decide_eq_true (by kernel_rfl)) (by kernel_rfl) (by kernel_rfl))
theorem cC9 (u d : ByteArray) (hu : u.size ≤ maxLen) (hd : d.size ≤ maxLen) : ∃ l, keyOf Tryz.prog 32 (.agg #[.string u, .string d]) = some l := by
 have k1 : Tryz.prog.keyType 32 = true := by kernel_rfl
 have k2 : Tryz.prog.cellsOf 32 = 2 := by kernel_rfl
 have k3 : Tryz.prog.cellsOf 9 = 1 := by kernel_rfl
 obtain ⟨n, k4⟩ : ∃ n, Tryz.prog.types.size + 1 = n + 1 + 1 := ⟨Tryz.prog.types.size - 1, by kernel_rfl⟩
 unfold keyOf
 rw [Tryz.underlying32, k4]
 simp only [k1, Value.formed, Tryz.underlying32, k2, Value.cells, Program.keyLits]
 simp [k3, Tryz.underlying9, hu, hd]
set_option maxRecDepth 100000 in
noncomputable def b39 (a : G6) : Lit := (keyOf Tryz.prog 32 (.agg #[.string a.f0, .string a.f1])).getD (.bool false)
def b65 (a : G6) : Prop := a.f0.size ≤ 1073741824 ∧ a.f1.size ≤ 1073741824
set_option maxRecDepth 100000 in
theorem bi2 (a : G6) (h : b65 a) : keyOf Tryz.prog 32 (.agg #[.string a.f0, .string a.f1]) = some (b39 a) := by
 obtain ⟨l, hl⟩ := cC9 a.f0 a.f1 (by have := h.1; unfold maxLen; omega) (by have := h.2; unfold maxLen; omega)
 unfold b39
 rw [hl]
 rfl
set_option maxRecDepth 100000 in
theorem bN9 (a : G6) (h : b65 a) : WideAt.IsKeyLit (b39 a) := keyed.key (bi2 a h)
set_option maxRecDepth 100000 in
theorem bA0 (a b : G6) (ha : b65 a) (hb : b65 b) : (b39 a).sameKey (b39 b) = aD0 a b := by
 rw [Bool.eq_iff_iff, ct0]
 constructor
 ·intro h
  have e := WideAt.sameKey_eq h
  have h2 := bi2 b hb
  rw [← e] at h2
  have := keyed.inj (bi2 a ha) h2
  simpa using this
 ·rintro ⟨h1, h2⟩
  have e : b39 a = b39 b := by unfold b39; rw [h1, h2]
  rw [e]
  exact WideAt.sameKey_self (bN9 b hb)
theorem bo8 : ∀ (xs acc : List Lit), (xs.foldl Maps.addKey acc).length ≤ acc.length + xs.length ∧
  ((xs.foldl Maps.addKey acc).length = acc.length + xs.length ↔ xs.Pairwise (fun a b => a.sameKey b = false) ∧ ∀ x ∈ xs, acc.any (fun y => y.sameKey x) = false)
 | [], acc => by simp
 | x :: xs, acc => by
  simp only [List.foldl_cons, List.length_cons]
  by_cases h : acc.any (fun y => y.sameKey x) = true
  ·have e : Maps.addKey acc x = acc := by unfold Maps.addKey; rw [if_pos h]
   rw [e]
   obtain ⟨h1, _⟩ := bo8 xs acc
   refine ⟨by omega, ⟨fun hh => by omega, fun hh => ?_⟩⟩
   have := hh.2 x (by simp)
   rw [h] at this
   cases this
  ·have h' := Bool.eq_false_iff.2 h
   have e : Maps.addKey acc x = acc ++ [x] := by unfold Maps.addKey; rw [if_neg h]
   rw [e]
   obtain ⟨h1, h2⟩ := bo8 xs (acc ++ [x])
   rw [List.length_append, List.length_singleton] at h1 h2
   refine ⟨by omega, ?_⟩
   rw [show acc.length + (xs.length + 1) = acc.length + 1 + xs.length by omega, h2]
   simp only [List.any_append, List.any_cons, List.any_nil, Bool.or_false, List.pairwise_cons, List.mem_cons, Bool.or_eq_false_iff]
   constructor
   ·rintro ⟨p, q⟩
    exact ⟨⟨fun y hy => (q y hy).2, p⟩, fun y hy => by
     rcases hy with rfl | hy
     ·exact h'
     ·exact (q y hy).1⟩
   ·rintro ⟨⟨p, q⟩, s⟩
    exact ⟨q, fun y hy => ⟨s y (.inr hy), p y hy⟩⟩
set_option maxRecDepth 100000 in
theorem bA1 : ∀ l : List G6, (∀ a ∈ l, b65 a) → (ao8 l = true ↔ (l.map b39).Pairwise (fun a b => a.sameKey b = false))
 | [], _ => by simp [ao8]
 | a :: l, h => by
  rw [ao8, Bool.and_eq_true, List.map_cons, List.pairwise_cons, bA1 l (fun b hb => h b (by simp [hb])), List.all_eq_true]
  refine and_congr_left fun _ => ?_
  constructor
  ·intro hh x hx
   obtain ⟨b, hb, rfl⟩ := List.mem_map.1 hx
   rw [bA0 a b (h a (by simp)) (h b (by simp [hb]))]
   simpa using hh b hb
  ·intro hh b hb
   have := hh _ (List.mem_map_of_mem hb)
   rw [bA0 a b (h a (by simp)) (h b (by simp [hb]))] at this
   simp [this]
def yes : DataW Unit := .lit (.bool true)
noncomputable def seen (l : List G6) : DataW Unit := Maps.setOf yes (l.map b39)
set_option maxRecDepth 100000 in
theorem ct1 (l : List G6) (h : ∀ a ∈ l, b65 a) : decide (Maps.size (seen l) = l.length) = ao8 l := by
 have hk : ∀ x ∈ l.map b39, WideAt.IsKeyLit x := by
  intro x hx
  obtain ⟨b, hb, rfl⟩ := List.mem_map.1 hx
  exact bN9 b (h b hb)
 have h2 := (bo8 (l.map b39) []).2
 rw [Bool.eq_iff_iff, decide_eq_true_iff, bA1 l h]
 unfold seen
 rw [Maps.size_setOf _ _ hk]
 simpa using h2
set_option maxRecDepth 100000 in
theorem ct2 (l : List G6) (a : G6) : seen (l ++ [a]) = (seen l).put (b39 a) yes := by
 unfold seen
 rw [List.map_append, List.map_singleton, Maps.setOf_snoc]
theorem ao9 (l : List G6) (k : Nat) (h : k < l.length) : E6 l (k : Int) = l[k] := by
 unfold E6
 simp [List.getD_eq_getElem?_getD, h]
def Has (w : World) (l : List G6) (k : Nat) (wr : World) : Prop := wr.ownsMap Tryz.prog 32 (plainElem (H := Unit) Tryz.prog 4) w.heap.size k (seen (l.take k)) ∧ Below w.heap.size w wr
set_option maxHeartbeats 1000000 in
set_option maxRecDepth 100000 in
theorem bo9 (A0 : Option Addr) (c0 : Nat) (l0 : List G6) (w : World) (hr0 : Kd.C k32 w A0 l0.length l0) (ht : ∀ a ∈ l0, b65 a) :
  Calls Tryz.prog 74 #[.slice A0 l0.length c0] w fun e w' => e = .returned (.bool (ao8 l0)) ∧ Below w.heap.size w w' := by
 have hm := hr0.2.1
 have HR0 := j4.mk hr0
 have HT := j4.mk ht
 have HS := j4.mk (ct1 l0 ht)
 clear hr0 ht
 have hmm := @run_makeMap Tryz.prog
 have as2 := Tryz.underlying32
 have H0 := j4.mk (show Has w l0 0 (w.alloc (.map #[] 0)) from ⟨World.ownsMap_made _ _ _ _, (Below.refl _ _).alloc (Nat.le_refl _) _⟩)
 go_enter Tryz.func74, Tryz.ntmps74
 go_wp2
 go_loopw [9] (fun i wr => ∃ k : Nat, k ≤ l0.length ∧ i = .int .i64 k ∧ j4 (Has w l0 k wr)) (fun i _ => l0.length - (intOf i).toNat)
 case atStart => exact ⟨0, by omega, rfl, H0⟩
 case round =>
  clear H0
  obtain ⟨k, hk, rfl, HH⟩ := hrel
  by_cases hlt : k < l0.length
  ·obtain ⟨ad, e, hx0, hx1⟩ := as1 HR0.out k (by omega) (by omega)
   cases e
   rw [ao9 _ _ hlt, Int.toNat_natCast] at hx0 hx1
   replace hx0 := (HH.out.2.cell (World.block_lt_of_cell? w _ hx0)).trans hx0
   replace hx1 := (HH.out.2.cell (World.block_lt_of_cell? w _ hx1)).trans hx1
   have HK := j4.mk (bi2 _ (HT.out _ (List.getElem_mem hlt)))
   have HE := j4.mk (show seen (l0.take (k + 1)) = (seen (l0.take k)).put (b39 l0[k]) yes by rw [List.take_succ_eq_append_getElem hlt, ct2])
   generalize l0[k] = a at hx0 hx1 HK HE
   go_wp2_with (at_mapUpdate; refine wpList_mapUpdate_own _ rfl _ _ _ 132 rfl 32 4 keyed Tryz.underlying132 (plainElem (H := Unit) Tryz.prog 4) w.heap.size k (seen (l0.take k)) rfl (HH.out.1.alloc _) (by unfold maxLen; omega) _ (.bool true) (b39 a) rfl rfl HK.out yes [] (by simp [plainElem, Tryz.underlying4, yes]) ?_; intro w1 hown1 cD0; have HO := j4.mk hown1; have HG := j4.mk cD0; clear hown1 cD0)
   go_roundw
   case rel => exact ⟨k + 1, by omega, by go_num, ⟨⟨by rw [HE.out]; exact HO.out, (HH.out.2.alloc HH.out.2.size _).grown HG.out (by have := HH.out.2.size; simp; omega) (fun j hj => by injection hj with hj; omega)⟩⟩⟩
   case measure => simp [intOf]; omega
  ·obtain rfl : k = l0.length := by omega
   clear hlt
   have hown := HH.out.1
   rw [List.take_length] at hown
   have HO := j4.mk hown
   clear hown
   obtain ⟨n, hn⟩ : ∃ n, Maps.size (seen l0) = n := ⟨_, rfl⟩
   have hb := HS.out
   rw [hn] at hb
   cases hr : ao8 l0
   all_goals
    rw [hr] at hb
    have HR := j4.mk hr
    clear hr HS
   ·have d0 : ((n : Int) == (l0.length : Int)) = false := by
     have := of_decide_eq_false hb
     exact beq_eq_false_iff_ne.2 (by omega)
    have d1 : (n == l0.length) = false := beq_eq_false_iff_ne.2 (of_decide_eq_false hb)
    clear hb
    go_wp2_with (at_len; refine wpList_len_own _ rfl _ 132 rfl 32 4 Tryz.underlying132 (plainElem (H := Unit) Tryz.prog 4) w.heap.size l0.length (seen l0) rfl HO.out ?_)
    go_ret
    exact ⟨by rw [HR.out]; rfl, HH.out.2⟩
   ·have d0 : ((n : Int) == (l0.length : Int)) = true := beq_iff_eq.2 (by have := of_decide_eq_true hb; omega)
    have d1 : (n == l0.length) = true := beq_iff_eq.2 (of_decide_eq_true hb)
    clear hb
    go_wp2_with (at_len; refine wpList_len_own _ rfl _ 132 rfl 32 4 Tryz.underlying132 (plainElem (H := Unit) Tryz.prog 4) w.heap.size l0.length (seen l0) rfl HO.out ?_)
    go_ret
    exact ⟨by rw [HR.out]; rfl, HH.out.2⟩
end Go.Proofs.YtbncnjgflhoneaaGreatDoor.Hand
namespace Go.Proofs.YtbncnjgflhoneaaGreatDoor.F
open Go.RowKit Go.Proofs.YtbncnjgflhoneaaGreatDoor.Hand Go.Proofs.YtbncnjgflhoneaaGreatDoorW.l8 Go.Proofs.YtbncnjgflhoneaaGreatDoorW.s9 Go.Proofs.YtbncnjgflhoneaaGreatDoorW.y9
def Y4.l0 : Nat → ByteArray → Int → Int → Option (Bool)
 | 0, _, _, _ => none
 | k + 1, x0, x5, x6 => if x6 < x5 then (if 0 ≤ x6 then (if x6 < (x0.size : Int) then (if (bt x0 x6) < 32 then (some false) else (if (bt x0 x6) > 126 then (some false) else (Y4.l0 k x0 x5 (wrap64 (x6 + 1))))) else (none)) else (none)) else (some (decide ((x0.size : Int) ≤ 40)))
def Y4.f (k : Nat) (a0 : ByteArray) : Option (Bool) := Y4.l0 k a0 (a0.size : Int) 0
set_option maxHeartbeats 8000000 in
set_option maxRecDepth 100000 in
theorem Y4.calls (k : Nat) (a0 : ByteArray) (r : Bool) (w : World) (h : Y4.f k a0 = some r) :
  Calls Tryz.prog 115 #[.string a0] w fun e w' => e = .returned (.bool r) ∧ O7 w w' := by
 have H := h
 clear h
 unfold Y4.f at H
 have H' := j4.mk H
 clear H
 go_enter Tryz.func115, Tryz.ntmps115
 go_wp2
 go_loopg [6] k (fun kq v6 w' => ∃ (a02 : Int), v6 = .int .i64 a02 ∧ j4 (Y4.l0 kq a0 (a0.size : Int) a02 = some r) ∧ j4 (kq ≤ k) ∧ O7 w w')
 case atStart => exact ⟨(0), zs, H', ⟨Nat.le_refl _⟩, zD⟩
 case round =>
  clear H'
  obtain ⟨a02, rfl, HA, HK1, ⟨m1, rfl⟩⟩ := hrel
  cases gk with
  | zero => exact absurd HA.out (by simp [Y4.l0])
  | succ k1 =>
   have H := HA.out
   clear HA
   simp only [Y4.l0] at H
   replace H := K2 H; rcases H with ⟨ak5, H⟩ | ⟨ak5, H⟩
   ·replace H := S1 H; obtain ⟨aD1, H⟩ := H
    replace H := S1 H; obtain ⟨aD2, H⟩ := H
    replace H := K2 H; rcases H with ⟨am1, H⟩ | ⟨am1, H⟩
    ·obtain rfl := Option.some.inj H
     have p5 : 0 ≤ (a02 : Int) := of_decide_eq_true za
     have q5 : a02 < (a0.size : Int) := of_decide_eq_true za
     have hx5 := V4 a0 a02
     replace p5 := eq_true p5
     replace q5 := eq_true q5
     go_wp2
     go_ret
     exact ⟨zs, zD⟩
    ·replace H := K2 H; rcases H with ⟨aN6, H⟩ | ⟨aN6, H⟩
     ·obtain rfl := Option.some.inj H
      have p5 : 0 ≤ (a02 : Int) := of_decide_eq_true za
      have q5 : a02 < (a0.size : Int) := of_decide_eq_true za
      have hx5 := V4 a0 a02
      replace p5 := eq_true p5
      replace q5 := eq_true q5
      have p7 : 0 ≤ (a02 : Int) := of_decide_eq_true za
      have q7 : a02 < (a0.size : Int) := of_decide_eq_true za
      have hx7 := V4 a0 a02
      replace p7 := eq_true p7
      replace q7 := eq_true q7
      go_wp2
      go_ret
      exact ⟨zs, zD⟩
     ·have H' := j4.mk H
      clear H
      have p5 : 0 ≤ (a02 : Int) := of_decide_eq_true za
      have q5 : a02 < (a0.size : Int) := of_decide_eq_true za
      have hx5 := V4 a0 a02
      replace p5 := eq_true p5
      replace q5 := eq_true q5
      have p7 : 0 ≤ (a02 : Int) := of_decide_eq_true za
      have q7 : a02 < (a0.size : Int) := of_decide_eq_true za
      have hx7 := V4 a0 a02
      replace p7 := eq_true p7
      replace q7 := eq_true q7
      go_wp2
      go_roundg k1
      case measure => have := HK1.out; omega
      case rel => exact ⟨(wrap64 (a02 + 1)), zs, H', ⟨by have := HK1.out; omega⟩, zD⟩
   ·obtain rfl := Option.some.inj H
    go_wp2
    go_ret
    exact ⟨zs, zD⟩
def ag4.f (k : Nat) (a0 : ByteArray) : Option (Bool) := (Y4.f k a0).bind fun t101 => (some (!t101))
set_option maxHeartbeats 8000000 in
set_option maxRecDepth 100000 in
theorem ag4.calls (k : Nat) (a0 : ByteArray) (r : Bool) (w : World) (h : ag4.f k a0 = some r) :
  Calls Tryz.prog 114 #[.string a0] w fun e w' => e = .returned (.bool r) ∧ O7 w w' := by
 have H := h
 clear h
 unfold ag4.f at H
 replace H := S2 H; obtain ⟨t101, A2, H⟩ := H
 obtain rfl := Option.some.inj H
 go_enter Tryz.func114, Tryz.ntmps114
 go_wp2_with (first | ((with_reducible refine j6 (f := 115) rfl ?_); refine gv 4 Tryz.func115 _ (Y4.calls (w := _) (h := A2.out)) ?_; rintro w' ⟨nd, rfl⟩))
 go_ret
 exact ⟨zs, zD⟩
end Go.Proofs.YtbncnjgflhoneaaGreatDoor.F
namespace Go.Proofs.YtbncnjgflhoneaaGreatDoor.Hand
open Go.RowKit Go.Proofs.YtbncnjgflhoneaaGreatDoor.F Go.Proofs.YtbncnjgflhoneaaGreatDoorW.l8 Go.Proofs.YtbncnjgflhoneaaGreatDoorW.s9 Go.Proofs.YtbncnjgflhoneaaGreatDoorW.y9
def bY4 (s : ByteArray) : Bool := decide (s.size ≤ 1099511627776)
def bO0 (c : UInt8) : Bool := 32 ≤ c && c ≤ 126
def aJ5 (s : ByteArray) : Bool := s.data.toList.all bO0 && decide (s.size ≤ 40)
def ae3 (l : List ByteArray) : Bool := decide (l.length ≤ 12) && l.all aJ5
def ac6.f (l : List ByteArray) : Option Bool := if l.all bY4 = true then some (ae3 l) else none
theorem Y5 {x : Int} (h0 : 0 ≤ x) (h1 : x ≤ 9223372036854775807) : wrap64 x = x := by
 unfold wrap64
 omega
theorem au0 (s : ByteArray) (i : Nat) (h : i < s.data.toList.length) : bt s i = ((s.data.toList[i]).toNat : Int) := by
 have h' : i < s.size := by rw [E3] at h; exact h
 unfold bt
 rw [dif_pos (by simpa using h')]
 simp [ByteArray.getElem_eq_getElem_data]
theorem ct3 (s : ByteArray) (hs : s.size ≤ 1099511627776) : ∀ (d i k : Nat), s.size = i + d → d < k → Y4.l0 k s (s.size : Int) (i : Int) = some ((s.data.toList.drop i).all bO0 && decide (s.size ≤ 40)) := by
 intro d
 induction d with
 | zero =>
  intro i k hi hk
  obtain ⟨k, rfl⟩ : ∃ m, k = m + 1 := ⟨k - 1, by omega⟩
  rw [Y4.l0, if_neg (by omega), List.drop_eq_nil_of_le (by rw [E3]; omega), List.all_nil, Bool.true_and]
  exact congrArg some (decide_eq_decide.2 (by omega))
 | succ d ih =>
  intro i k hi hk
  obtain ⟨k, rfl⟩ : ∃ m, k = m + 1 := ⟨k - 1, by omega⟩
  have hl : i < s.data.toList.length := by rw [E3]; omega
  rw [Y4.l0, if_pos (by omega), if_pos (by omega), if_pos (by omega), au0 s i hl, List.drop_eq_getElem_cons hl, List.all_cons]
  have h1 : bO0 s.data.toList[i] = (decide (32 ≤ (s.data.toList[i]).toNat) && decide ((s.data.toList[i]).toNat ≤ 126)) := rfl
  by_cases a : ((s.data.toList[i]).toNat : Int) < 32
  ·rw [if_pos a, h1, decide_eq_false (by omega)]
   rfl
  rw [if_neg a]
  by_cases b : ((s.data.toList[i]).toNat : Int) > 126
  ·rw [if_pos b, h1, decide_eq_false (p := (s.data.toList[i]).toNat ≤ 126) (by omega), Bool.and_false]
   rfl
  rw [if_neg b, h1, decide_eq_true (by omega), decide_eq_true (by omega), Y5 (by omega) (by omega)]
  exact ih (i + 1) k (by omega) (by omega)
theorem bY5 (s : ByteArray) (hs : s.size ≤ 1099511627776) : Y4.f (s.size + 1) s = some (aJ5 s) := ct3 s hs s.size 0 _ (by omega) (by omega)
theorem bw4 (s : ByteArray) (hs : s.size ≤ 1099511627776) : ag4.f (s.size + 1) s = some (!aJ5 s) := by
 unfold ag4.f
 rw [bY5 s hs]
 rfl
theorem aU9 {α : Type} (d : α) (l : List α) (k : Nat) (h : k < l.length) : H9 d l (k : Int) = l[k] := by
 unfold H9
 simp [List.getD_eq_getElem?_getD, h]
set_option maxHeartbeats 1000000 in
set_option maxRecDepth 100000 in
theorem bO1 (A0 : Option Addr) (c0 : Nat) (l0 : List ByteArray) (w : World) (hr0 : Kd.C Kd.string w A0 l0.length l0) (hs : ∀ s ∈ l0, s.size ≤ 1099511627776) :
  Calls Tryz.prog 148 #[.slice A0 l0.length c0, .func (Fn.func 114) #[] #[]] w fun e w' => ∃ v : Int, e = .returned (.int .i64 v) ∧ (decide (0 ≤ v) = !l0.all aJ5) ∧ O7 w w' := by
 have hm := hr0.2.1
 have HR0 := j4.mk hr0
 have HS := j4.mk hs
 clear hr0 hs
 go_enter Tryz.func148, Tryz.ntmps148
 go_wp2
 go_loopw [8] (fun i wr => ∃ k : Nat, k ≤ l0.length ∧ i = .int .i64 k ∧ j4 ((l0.take k).all aJ5 = true) ∧ O7 w wr) (fun i _ => l0.length - (intOf i).toNat)
 case atStart => exact ⟨0, by omega, rfl, ⟨by simp⟩, O7.refl _⟩
 case round =>
  obtain ⟨k, hk, rfl, HA, ⟨m, rfl⟩⟩ := hrel
  by_cases hlt : k < l0.length
  ·obtain ⟨ad, e, hx⟩ := Kd.E5 HR0.out k (by omega) (by omega)
   cases e
   rw [aU9 _ _ _ hlt, Int.toNat_natCast] at hx
   have hz : (l0[k]).size ≤ 1099511627776 := HS.out _ (List.getElem_mem hlt)
   have ht : l0.take (k + 1) = l0.take k ++ [l0[k]] := List.take_succ_eq_append_getElem hlt
   have HL := j4.mk (bw4 _ hz)
   by_cases hb : aJ5 l0[k] = true
   ·rw [hb] at HL
    have HN := j4.mk (show (l0.take (k + 1)).all aJ5 = true by rw [ht, List.all_append, HA.out]; simp [hb])
    clear ht hz hb
    go_wp2_with (go_at_call 114; (with_reducible refine (ag4.calls _ _ (!true) _ HL.out).mono ?_); rintro e w' ⟨rfl, ⟨nd, rfl⟩⟩)
    go_roundw
    case rel => exact ⟨k + 1, by omega, by go_num, HN, by repeat (first | exact O7.refl _ | apply O7.step)⟩
    case measure => simp [intOf]; omega
   ·have hb := Bool.eq_false_iff.2 hb
    rw [hb] at HL
    have HN := j4.mk (show l0.all aJ5 = false by
     rw [Bool.eq_false_iff]
     intro h
     have := (List.all_eq_true.1 h) _ (List.getElem_mem hlt)
     rw [hb] at this
     cases this)
    clear ht hz hb
    go_wp2_with (go_at_call 114; (with_reducible refine (ag4.calls _ _ (!false) _ HL.out).mono ?_); rintro e w' ⟨rfl, ⟨nd, rfl⟩⟩)
    go_ret
    exact ⟨_, rfl, by rw [HN.out]; simp, by repeat (first | exact O7.refl _ | apply O7.step)⟩
  ·obtain rfl : k = l0.length := by omega
   have HN := j4.mk (show l0.all aJ5 = true by have := HA.out; rwa [List.take_length] at this)
   clear hlt
   go_wp2
   go_ret
   exact ⟨_, rfl, by rw [HN.out]; rfl, by repeat (first | exact O7.refl _ | apply O7.step)⟩
set_option maxHeartbeats 1000000 in
set_option maxRecDepth 100000 in
theorem bp0 (A0 : Option Addr) (c0 : Nat) (l0 : List ByteArray) (w : World) (hr0 : Kd.C Kd.string w A0 l0.length l0) (hs : ∀ s ∈ l0, s.size ≤ 1099511627776) :
  Calls Tryz.prog 113 #[.slice A0 l0.length c0, .func (Fn.func 114) #[] #[]] w fun e w' => e = .returned (.bool (!l0.all aJ5)) ∧ O7 w w' := by
 have HR0 := j4.mk hr0
 have HS := j4.mk hs
 clear hr0 hs
 go_enter Tryz.func113, Tryz.ntmps113
 go_wp2_with (go_at_call 148; refine (bO1 A0 c0 l0 _ HR0.out HS.out).mono ?_; rintro e w' ⟨v, rfl, hv, ⟨nd, rfl⟩⟩)
 go_ret
 exact ⟨rfl, by repeat (first | exact O7.refl _ | apply O7.step)⟩
set_option maxHeartbeats 1000000 in
set_option maxRecDepth 100000 in
theorem ac6.calls (A0 : Option Addr) (c0 : Nat) (l0 : List ByteArray) (r : Bool) (w : World) (hr0 : Kd.C Kd.string w A0 l0.length l0) (_hc0 : l0.length ≤ c0) (h : ac6.f l0 = some r) :
  Calls Tryz.prog 75 #[.slice A0 l0.length c0] w fun e w' => e = .returned (.bool r) ∧ O7 w w' := by
 unfold ac6.f at h
 split at h
 ·rename_i hs
  have hs : ∀ s ∈ l0, s.size ≤ 1099511627776 := fun s hm => by simpa [bY4] using List.all_eq_true.1 hs s hm
  have HS := j4.mk hs
  have HR0 := j4.mk hr0
  clear hs hr0
  injection h with h
  unfold ae3 at h
  by_cases c1 : l0.length ≤ 12
  ·rw [decide_eq_true c1, Bool.true_and] at h
   subst h
   have e77 : decide ((l0.length : Int) ≤ 12) = true := decide_eq_true (by omega)
   have e78 : decide (l0.length ≤ 12) = true := decide_eq_true c1
   clear c1
   go_enter Tryz.func75, Tryz.ntmps75
   go_wp2_with (go_at_call 113; refine (bp0 A0 c0 l0 _ HR0.out HS.out).mono ?_; rintro e w' ⟨rfl, ⟨nd, rfl⟩⟩)
   go_ret
   exact ⟨by first | rfl | simp, by repeat (first | exact O7.refl _ | apply O7.step)⟩
  ·rw [decide_eq_false c1, Bool.false_and] at h
   subst h
   have e77 : decide ((l0.length : Int) ≤ 12) = false := decide_eq_false (by omega)
   have e78 : decide (l0.length ≤ 12) = false := decide_eq_false c1
   clear c1
   go_enter Tryz.func75, Tryz.ntmps75
   go_wp2
   go_ret
   exact ⟨rfl, O7.refl _⟩
 ·cases h
end Go.Proofs.YtbncnjgflhoneaaGreatDoor.Hand
namespace Go.Proofs.YtbncnjgflhoneaaGreatDoor.F
open Go.RowKit Go.Proofs.YtbncnjgflhoneaaGreatDoor.Hand Go.Proofs.YtbncnjgflhoneaaGreatDoorW.l8 Go.Proofs.YtbncnjgflhoneaaGreatDoorW.s9 Go.Proofs.YtbncnjgflhoneaaGreatDoorW.y9
def O2.f (a0 : Int) (a1 : Int) (a2 : Int) : Option (Bool) := if a0 ≥ a1 then (some (decide (a0 ≤ a2))) else (some false)
set_option maxHeartbeats 8000000 in
set_option maxRecDepth 100000 in
theorem O2.calls (a0 : Int) (a1 : Int) (a2 : Int) (r : Bool) (w : World) (h : O2.f a0 a1 a2 = some r) :
  Calls Tryz.prog 33 #[.int .i64 a0, .int .i64 a1, .int .i64 a2] w fun e w' => e = .returned (.bool r) ∧ O7 w w' := by
 have H := h
 clear h
 unfold O2.f at H
 replace H := K2 H; rcases H with ⟨aD2, H⟩ | ⟨aD2, H⟩
 ·obtain rfl := Option.some.inj H
  go_enter Tryz.func33, Tryz.ntmps33
  go_wp2
  go_ret
  exact ⟨zs, zD⟩
 ·obtain rfl := Option.some.inj H
  go_enter Tryz.func33, Tryz.ntmps33
  go_wp2
  go_ret
  exact ⟨zs, zD⟩
end Go.Proofs.YtbncnjgflhoneaaGreatDoor.F
namespace Go.Proofs.YtbncnjgflhoneaaGreatDoor.Hand
open Go.RowKit Go.Proofs.YtbncnjgflhoneaaGreatDoor.F Go.Proofs.YtbncnjgflhoneaaGreatDoorW.l8 Go.Proofs.YtbncnjgflhoneaaGreatDoorW.s9 Go.Proofs.YtbncnjgflhoneaaGreatDoorW.y9
def aq3 (c : UInt8) : Bool := (97 ≤ c && c ≤ 122) || (48 ≤ c && c ≤ 57)
def ap0 (s : ByteArray) : Bool := decide (1 ≤ s.size ∧ s.size ≤ 8) && s.data.toList.all aq3
def a81.f (s : ByteArray) : Option Bool := some (ap0 s)
theorem av0 (w : World) (n : Nat) : Below w.heap.size w (w.drewN n) := ⟨rfl, rfl, rfl, Nat.le_refl _, fun _ _ => rfl⟩
def signs : ByteArray := ⟨#[97, 98, 99, 100, 101, 102, 103, 104, 105, 106, 107, 108, 109, 110, 111, 112, 113, 114, 115, 116, 117, 118, 119, 120, 121, 122, 48, 49, 50, 51, 52, 53, 54, 55, 56, 57]⟩
theorem bH3 (c : UInt8) : signs.data.toList.contains c = aq3 c := by
 have h : ∀ n : Fin 256, signs.data.toList.contains (UInt8.ofNat n.val) = aq3 (UInt8.ofNat n.val) := by decide +kernel
 have := h ⟨c.toNat, c.toNat_lt⟩
 simpa using this
theorem dropWhile_nil {α : Type} (p : α → Bool) : ∀ l : List α, l.dropWhile p = [] ↔ l.all p = true
 | [] => by simp
 | a :: l => by
  rw [List.dropWhile_cons]
  by_cases h : p a = true
  ·rw [if_pos h, dropWhile_nil p l]; simp [h]
  ·rw [if_neg h]; simp [h]
theorem b07 {α : Type} (p : α → Bool) : ∀ l : List α, (l.dropWhile p).all p = l.all p
 | [] => rfl
 | a :: l => by
  rw [List.dropWhile_cons]
  by_cases h : p a = true
  ·rw [if_pos h, b07 p l]; simp [h]
  ·rw [if_neg h]
theorem bO2 (l : List UInt8) : Lib.trimS l signs.data.toList = [] ↔ l.all aq3 = true := by
 have e : (fun c => signs.data.toList.contains c) = aq3 := funext bH3
 unfold Lib.trimS Lib.trimLeftS Lib.trimRightS
 rw [e, dropWhile_nil, List.all_reverse, b07, List.all_reverse]
theorem bp1 (s : ByteArray) (w : World) (hs : s.size ≤ 8) :
  Calls Tryz.prog 111 #[.string s, .string signs] w fun e w' => e = .returned (.string ⟨(Lib.trimS s.data.toList signs.data.toList).toArray⟩) ∧ Below w.heap.size w w' :=
 Any.strings_Trim_laid Tryz.cU4 (by kernel_rfl) s signs w (by omega) (by decide) (ascii_of_all (by decide))
theorem cD1 (s : ByteArray) (w : World) (hs : s.size ≤ 8) (h : s.data.toList.all aq3 = true) :
  Calls Tryz.prog 111 #[.string s, .string signs] w fun e w' => e = .returned (.string ⟨#[]⟩) ∧ Below w.heap.size w w' := by
 refine (bp1 s w hs).mono fun e w' ⟨h1, h2⟩ => ⟨?_, h2⟩
 rw [(bO2 _).2 h] at h1
 exact h1
theorem cU9 (s : ByteArray) (w : World) (hs : s.size ≤ 8) (h : ¬ s.data.toList.all aq3 = true) :
  Calls Tryz.prog 111 #[.string s, .string signs] w fun e w' => ∃ x : ByteArray, e = .returned (.string x) ∧ x.toList.isEmpty = false ∧ Below w.heap.size w w' := by
 refine (bp1 s w hs).mono fun e w' ⟨h1, h2⟩ => ⟨_, h1, ?_, h2⟩
 rw [Lib.toList_data]
 cases hq : Lib.trimS s.data.toList signs.data.toList with
 | nil => exact absurd ((bO2 _).1 hq) h
 | cons a l => simp
set_option maxHeartbeats 1000000 in
set_option maxRecDepth 100000 in
theorem a81.calls (a0 : ByteArray) (r : Bool) (w : World) (h : a81.f a0 = some r) :
  Calls Tryz.prog 69 #[.string a0] w fun e w' => e = .returned (.bool r) ∧ Below w.heap.size w w' := by
 have h := Option.some.inj h
 unfold ap0 at h
 by_cases c1 : 1 ≤ a0.size ∧ a0.size ≤ 8
 ·rw [decide_eq_true c1, Bool.true_and] at h
  have hw := j4.mk (show O2.f (a0.size : Int) 1 8 = some true by unfold O2.f; rw [if_pos (by omega), decide_eq_true (by omega)])
  have h8 := j4.mk c1.2
  clear c1
  by_cases c2 : a0.data.toList.all aq3 = true
  ·rw [c2] at h
   subst h
   have c2 := j4.mk c2
   go_enter Tryz.func69, Tryz.ntmps69
   go_wp2_with (first | (go_at_call 33; (with_reducible refine (O2.calls _ 1 8 true _ hw.out).mono ?_); rintro e w' ⟨rfl, ⟨nd, rfl⟩⟩) | (go_at_call 111; refine (cD1 a0 _ h8.out c2.out).mono ?_; rintro e w1 ⟨rfl, hb⟩))
   go_ret
   exact ⟨rfl, (av0 w nd).trans hb⟩
  ·rw [Bool.eq_false_iff.2 c2] at h
   subst h
   have c2 := j4.mk c2
   go_enter Tryz.func69, Tryz.ntmps69
   go_wp2_with (first | (go_at_call 33; (with_reducible refine (O2.calls _ 1 8 true _ hw.out).mono ?_); rintro e w' ⟨rfl, ⟨nd, rfl⟩⟩) | (go_at_call 111; refine (cU9 a0 _ h8.out c2.out).mono ?_; rintro e w1 ⟨x, rfl, hx, hb⟩))
   go_ret
   exact ⟨rfl, (av0 w nd).trans hb⟩
 ·rw [decide_eq_false c1, Bool.false_and] at h
  subst h
  have hw := j4.mk (show O2.f (a0.size : Int) 1 8 = some false by
   unfold O2.f
   by_cases d : (a0.size : Int) ≥ 1
   ·rw [if_pos d, decide_eq_false (by omega)]
   ·rw [if_neg d])
  clear c1
  go_enter Tryz.func69, Tryz.ntmps69
  go_wp2_with (first | (go_at_call 33; (with_reducible refine (O2.calls _ 1 8 false _ hw.out).mono ?_); rintro e w' ⟨rfl, ⟨nd, rfl⟩⟩))
  go_ret
  exact ⟨rfl, av0 w nd⟩
end Go.Proofs.YtbncnjgflhoneaaGreatDoor.Hand
namespace Go.Proofs.YtbncnjgflhoneaaGreatDoor.Hand
open Go.RowKit Go.Proofs.YtbncnjgflhoneaaGreatDoorW.l8 Go.Proofs.YtbncnjgflhoneaaGreatDoorW.s9 Go.Proofs.YtbncnjgflhoneaaGreatDoorW.y9
def strings_Split.f (s sep : ByteArray) : Option (List ByteArray) := if s.size < 4294967281 ∧ 1 ≤ sep.size then some (Lib.splitB sep 0 (Lib.countB s sep) s) else none
theorem bY6 (r : List ByteArray) (w : World) (base : Nat) (ok : Nat → Prop) : M4 (Kd.string.M w base ok) Kd.string.sz r (r.map Value.string) := by
 refine ⟨by simp [Kd.string, Kd.scalar], fun j p hj => ?_⟩
 show ((r.map Value.string).drop (j * 1)).take 1 = [Value.string p]
 rw [Nat.mul_one]
 have hl := (List.getElem?_eq_some_iff.1 hj).1
 rw [List.take_one, List.head?_drop, List.getElem?_map, hj]
 rfl
theorem strings_Split.calls (a0 a1 : ByteArray) (r : List ByteArray) (w : World) (hG : Laid w) (h : strings_Split.f a0 a1 = some r) :
  Calls Tryz.prog 42 #[.string a0, .string a1] w fun e w' => ∃ v0_ : Value, e = .returned (v0_) ∧ Kd.R Kd.string 9 w' w.heap.size (fun _ => True) v0_ r ∧ Below w.heap.size w w' := by
 unfold strings_Split.f at h
 split at h
 ·rename_i hs
  obtain ⟨hs, h1⟩ := hs
  injection h with h
  have hl := Lib.splitB_all a1 h1 0 _ a0 rfl
  rw [h] at hl
  have hc : Lib.countB a0 a1 ≤ a0.size := Lib.countB_le a1 h1 _ a0 (Nat.le_refl _)
  obtain ⟨m, hm⟩ := hG.mx
  refine (Tryz.strings_Split a0 a1 m w hs hm h1).mono fun e w' ⟨he, hw⟩ => ?_
  rw [h] at hw
  subst hw
  rw [← hl] at he
  refine ⟨_, he, ⟨fun _ _ => trivial, ar9.lit w w.heap.size (by exact bY6 r w w.heap.size (fun _ => True)) (Nat.le_refl _) (by omega)⟩, (Below.refl _ _).alloc (Nat.le_refl _) _⟩
 ·cases h
def strings_Cut.f (s sep : ByteArray) : Option (ByteArray × ByteArray × Bool) := if s.size < 4294967281 then some (⟨(Lib.cut s.data.toList sep.data.toList).1.toArray⟩, ⟨(Lib.cut s.data.toList sep.data.toList).2.1.toArray⟩, (Lib.cut s.data.toList sep.data.toList).2.2) else none
theorem strings_Cut.calls (a0 a1 r1 r2 : ByteArray) (r3 : Bool) (w : World) (hG : Laid w) (h : strings_Cut.f a0 a1 = some (r1, r2, r3)) :
  Calls Tryz.prog 39 #[.string a0, .string a1] w fun e w' => e = .returned (.tuple #[.string r1, .string r2, .bool r3]) ∧ O7 w w' := by
 unfold strings_Cut.f at h
 split at h
 ·rename_i hs
  injection h with h
  injection h with h1 h
  injection h with h2 h3
  subst h1 h2 h3
  obtain ⟨m, hm⟩ := hG.mx
  exact (Tryz.strings_Cut a0 a1 m w hs hm).mono fun e w' h => ⟨h.1, by obtain ⟨n, hn⟩ := h.2; exact ⟨n, hn⟩⟩
 ·cases h
end Go.Proofs.YtbncnjgflhoneaaGreatDoor.Hand
namespace Go.Proofs.YtbncnjgflhoneaaGreatDoor.F
open Go.RowKit Go.Proofs.YtbncnjgflhoneaaGreatDoor.Hand Go.Proofs.YtbncnjgflhoneaaGreatDoorW.l8 Go.Proofs.YtbncnjgflhoneaaGreatDoorW.s9 Go.Proofs.YtbncnjgflhoneaaGreatDoorW.y9
def R9.l0 : Nat → List ByteArray → List ByteArray → Int → Int → Option (Bool)
 | 0, _, _, _, _ => none
 | k + 1, x3, x8, x9, x10 => if x10 < x9 then (if 0 ≤ x10 then (if x10 < (x8.length : Int) then ((a81.f (H9 ByteArray.empty x8 x10)).bind fun t105 => (if t105 = true then (R9.l0 k x3 x8 x9 (wrap64 (x10 + 1))) else (some false))) else (none)) else (none)) else (some (decide ((x3.length : Int) ≤ 3)))
def R9.f (k : Nat) (a0 : ByteArray) : Option (Bool) := (strings_Split.f a0 (⟨#[46]⟩ : ByteArray)).bind fun t101 => (R9.l0 k t101 t101 (t101.length : Int) 0)
set_option maxHeartbeats 8000000 in
set_option maxRecDepth 100000 in
theorem R9.calls (k : Nat) (a0 : ByteArray) (r : Bool) (w : World) (hG : Laid w) (h : R9.f k a0 = some r) :
  Calls Tryz.prog 70 #[.string a0] w fun e w' => e = .returned (.bool r) ∧ Below w.heap.size w w' := by
 have HG := j4.mk hG
 clear hG
 have HB := j4.mk (Below.refl w.heap.size w)
 have H := h
 clear h
 unfold R9.f at H
 replace H := S2 H; obtain ⟨t101, A2, H⟩ := H
 have H' := j4.mk H
 clear H
 go_enter Tryz.func70, Tryz.ntmps70
 go_wp2_with (first | ((with_reducible refine j6 (f := 42) rfl ?_); refine gl 7 Tryz.func42 _ ((strings_Split.calls (w := _) (hG := gB) (h := A2.out)).mono ?_); rintro e w3 ⟨bH4, rfl, ho0, hb⟩; refine ⟨_, rfl, ?_⟩; have af4 := lS ho0; replace HB := bS hb; clear hb ho0; obtain ⟨Ao4, co4, eo4⟩ := Kd.s7 af4.out; subst eo4))
 go_loopg [10] k (fun kq v10 w' => ∃ (b08 : Int), v10 = .int .i64 b08 ∧ j4 (R9.l0 kq t101 t101 (t101.length : Int) b08 = some r) ∧ j4 (kq ≤ k) ∧ j4 (Kd.R Kd.string 9 w' w.heap.size (fun _ => True) (.slice Ao4 t101.length co4) t101) ∧ j4 (Kd.R Kd.string 9 w' w.heap.size (fun _ => True) (.slice Ao4 t101.length co4) t101) ∧ j4 (Below w.heap.size w w'))
 case atStart => exact ⟨(0), zs, H', ⟨Nat.le_refl _⟩, ⟨rO af4⟩, ⟨rO af4⟩, ⟨zB⟩⟩
 case round =>
  clear H'
  obtain ⟨b08, rfl, HA, HK1, aN0, bY7, HB⟩ := hrel
  cases gk with
  | zero => exact absurd HA.out (by simp [R9.l0])
  | succ k1 =>
   have H := HA.out
   clear HA
   simp only [R9.l0] at H
   replace H := K2 H; rcases H with ⟨ap1, H⟩ | ⟨ap1, H⟩
   ·replace H := S1 H; obtain ⟨am1, H⟩ := H
    replace H := S1 H; obtain ⟨ak6, H⟩ := H
    replace H := S2 H; obtain ⟨t105, A8, H⟩ := H
    replace H := itb H; rcases H with ⟨rfl, H⟩ | ⟨rfl, H⟩
    ·have H' := j4.mk H
     clear H
     have au1 : 0 ≤ (b08 : Int) := of_decide_eq_true za
     have au2 : b08 < (t101.length : Int) := of_decide_eq_true za
     obtain ⟨av1, b40, af5⟩ := Kd.E5 (Kd.y7 bY7.out).2.2 b08 au1 au2
     cases b40
     replace au1 := eq_true au1
     replace au2 := eq_true au2
     go_wp2_with (first | ((with_reducible refine j6 (f := 69) rfl ?_); refine gv 15 Tryz.func69 _ (a81.calls (w := _) (h := A8.out)) ?_; intro w10 hb; replace aN0 := rS aN0 hb; replace bY7 := rS bY7 hb; replace HB := bS hb; clear hb))
     go_roundg k1
     case measure => have := HK1.out; omega
     case rel => exact ⟨(wrap64 (b08 + 1)), zs, H', ⟨by have := HK1.out; omega⟩, ⟨rO aN0⟩, ⟨rO bY7⟩, ⟨zB⟩⟩
    ·obtain rfl := Option.some.inj H
     have au1 : 0 ≤ (b08 : Int) := of_decide_eq_true za
     have au2 : b08 < (t101.length : Int) := of_decide_eq_true za
     obtain ⟨av1, b40, af5⟩ := Kd.E5 (Kd.y7 bY7.out).2.2 b08 au1 au2
     cases b40
     replace au1 := eq_true au1
     replace au2 := eq_true au2
     go_wp2_with (first | ((with_reducible refine j6 (f := 69) rfl ?_); refine gv 15 Tryz.func69 _ (a81.calls (w := _) (h := A8.out)) ?_; intro w11 hb; replace aN0 := rS aN0 hb; replace bY7 := rS bY7 hb; replace HB := bS hb; clear hb))
     go_ret
     exact ⟨zr, zB⟩
   ·obtain rfl := Option.some.inj H
    go_wp2
    go_ret
    exact ⟨zr, zB⟩
def a30.f (k : Nat) (r0 : ByteArray) (D2 : ByteArray) : Option (Bool) := (a81.f r0).bind fun t102 => (if t102 = true then ((R9.f k D2).bind fun t103 => (some t103)) else (some false))
set_option maxHeartbeats 8000000 in
set_option maxRecDepth 100000 in
theorem a30.calls (k : Nat) (r0 : ByteArray) (D2 : ByteArray) (r : Bool) (w : World) (hG : Laid w) (h : a30.f k r0 D2 = some r) :
  Calls Tryz.prog 34 #[.agg #[.string r0, .string D2]] w fun e w' => e = .returned (.bool r) ∧ Below w.heap.size w w' := by
 have as2 := Tryz.underlying32
 have HG := j4.mk hG
 clear hG
 have HB := j4.mk (Below.refl w.heap.size w)
 have H := h
 clear h
 unfold a30.f at H
 replace H := S2 H; obtain ⟨t102, A2, H⟩ := H
 replace H := itb H; rcases H with ⟨rfl, H⟩ | ⟨rfl, H⟩
 ·replace H := S2 H; obtain ⟨t103, A4, H⟩ := H
  obtain rfl := Option.some.inj H
  go_enter Tryz.func34, Tryz.ntmps34
  go_wp2_with (first | ((with_reducible refine l9 (N := 1) rfl ?_); refine bx (cs := #[.string r0, .string D2]) (t := 32) ?_; intro j8 hg w5 o8 hb; have j5 := j4.mk (o8); have L8 := gS hg; have J7 := gS hg; replace HB := bS hb; clear hb o8 hg; have ct4 := cz2 j5.out; have ct5 := fz2 j5.out) | ((with_reducible refine j6 (f := 69) rfl ?_); refine gv 5 Tryz.func69 _ (a81.calls (w := _) (h := A2.out)) ?_; intro w7 hb; replace j5 := kS j5 hb; replace HB := bS hb; clear hb; have dq7 := cz2 j5.out; have dq8 := fz2 j5.out) | (go_at_call 70; refine (R9.calls (w := _) (hG := gB) (h := A4.out)).mono ?_; rintro e w9 ⟨rfl, hb⟩; replace j5 := kS j5 hb; replace HB := bS hb; clear hb))
  go_ret
  exact ⟨zr, zB⟩
 ·obtain rfl := Option.some.inj H
  go_enter Tryz.func34, Tryz.ntmps34
  go_wp2_with (first | ((with_reducible refine l9 (N := 1) rfl ?_); refine bx (cs := #[.string r0, .string D2]) (t := 32) ?_; intro j8 hg w10 o8 hb; have j5 := j4.mk (o8); have L8 := gS hg; have J7 := gS hg; replace HB := bS hb; clear hb o8 hg; have be4 := cz2 j5.out; have be5 := fz2 j5.out) | ((with_reducible refine j6 (f := 69) rfl ?_); refine gv 5 Tryz.func69 _ (a81.calls (w := _) (h := A2.out)) ?_; intro w12 hb; replace j5 := kS j5 hb; replace HB := bS hb; clear hb))
  go_ret
  exact ⟨zr, zB⟩
end Go.Proofs.YtbncnjgflhoneaaGreatDoor.F
namespace Go.Proofs.YtbncnjgflhoneaaGreatDoor.F
open Go.RowKit Go.Proofs.YtbncnjgflhoneaaGreatDoor.Hand Go.Proofs.YtbncnjgflhoneaaGreatDoorW.l8 Go.Proofs.YtbncnjgflhoneaaGreatDoorW.s9 Go.Proofs.YtbncnjgflhoneaaGreatDoorW.y9
def ag5.f (k : Nat) (r0 : ByteArray) (D2 : ByteArray) : Option (Bool) := (a30.f k r0 D2).bind fun t102 => (some (!t102))
set_option maxHeartbeats 8000000 in
set_option maxRecDepth 100000 in
theorem ag5.calls (k : Nat) (r0 : ByteArray) (D2 : ByteArray) (r : Bool) (w : World) (hG : Laid w) (h : ag5.f k r0 D2 = some r) :
  Calls Tryz.prog 71 #[.agg #[.string r0, .string D2]] w fun e w' => e = .returned (.bool r) ∧ Below w.heap.size w w' := by
 have as2 := Tryz.underlying32
 have HG := j4.mk hG
 clear hG
 have HB := j4.mk (Below.refl w.heap.size w)
 have H := h
 clear h
 unfold ag5.f at H
 replace H := S2 H; obtain ⟨t102, A2, H⟩ := H
 obtain rfl := Option.some.inj H
 go_enter Tryz.func71, Tryz.ntmps71
 go_wp2_with (first | ((with_reducible refine l9 (N := 1) rfl ?_); refine bx (cs := #[.string r0, .string D2]) (t := 32) ?_; intro j8 hg w3 o8 hb; have j5 := j4.mk (o8); have L8 := gS hg; have J7 := gS hg; replace HB := bS hb; clear hb o8 hg; have bY8 := cz2 j5.out; have bY9 := fz2 j5.out) | ((with_reducible refine j6 (f := 34) rfl ?_); refine gv 4 Tryz.func34 _ (a30.calls (w := _) (hG := gB) (h := A2.out)) ?_; intro w5 hb; replace j5 := kS j5 hb; replace HB := bS hb; clear hb))
 go_ret
 exact ⟨zr, zB⟩
attribute [local go_sem high] bz9
def O1.f (r0 : ByteArray) (D2 : ByteArray) : Option (Bool) := some (r0.toList == ([] : List UInt8) && (D2.toList == ([] : List UInt8)))
set_option maxHeartbeats 8000000 in
set_option maxRecDepth 100000 in
theorem O1.calls (r0 : ByteArray) (D2 : ByteArray) (r : Bool) (w : World) (h : O1.f r0 D2 = some r) :
  Calls Tryz.prog 38 #[.agg #[.string r0, .string D2]] w fun e w' => e = .returned (.bool r) ∧ Below w.heap.size w w' := by
 have as2 := Tryz.underlying32
 have HB := j4.mk (Below.refl w.heap.size w)
 have H := h
 clear h
 unfold O1.f at H
 obtain rfl := Option.some.inj H
 go_enter Tryz.func38, Tryz.ntmps38
 go_wp2_with (first | ((with_reducible refine l9 (N := 1) rfl ?_); refine bx (cs := #[.string r0, .string D2]) (t := 32) ?_; intro j8 hg w2 o8 hb; have j5 := j4.mk (o8); have L8 := gS hg; have J7 := gS hg; replace HB := bS hb; clear hb o8 hg; have eE5 := cz2 j5.out; have eE6 := fz2 j5.out))
 go_ret
 exact ⟨zr, zB⟩
end Go.Proofs.YtbncnjgflhoneaaGreatDoor.F
namespace Go.Proofs.YtbncnjgflhoneaaGreatDoor.F
open Go.RowKit Go.Proofs.YtbncnjgflhoneaaGreatDoor.Hand Go.Proofs.YtbncnjgflhoneaaGreatDoorW.l8 Go.Proofs.YtbncnjgflhoneaaGreatDoorW.s9 Go.Proofs.YtbncnjgflhoneaaGreatDoorW.y9
def M7.f (k : Nat) (r0 : ByteArray) (D2 : ByteArray) : Option (Bool) := (O1.f r0 D2).bind fun t102 => (if t102 = true then (some true) else ((a30.f k r0 D2).bind fun t103 => (some t103)))
set_option maxHeartbeats 8000000 in
set_option maxRecDepth 100000 in
theorem M7.calls (k : Nat) (r0 : ByteArray) (D2 : ByteArray) (r : Bool) (w : World) (hG : Laid w) (h : M7.f k r0 D2 = some r) :
  Calls Tryz.prog 72 #[.agg #[.string r0, .string D2]] w fun e w' => e = .returned (.bool r) ∧ Below w.heap.size w w' := by
 have as2 := Tryz.underlying32
 have HG := j4.mk hG
 clear hG
 have HB := j4.mk (Below.refl w.heap.size w)
 have H := h
 clear h
 unfold M7.f at H
 replace H := S2 H; obtain ⟨t102, A2, H⟩ := H
 replace H := itb H; rcases H with ⟨rfl, H⟩ | ⟨rfl, H⟩
 ·obtain rfl := Option.some.inj H
  go_enter Tryz.func72, Tryz.ntmps72
  go_wp2_with (first | ((with_reducible refine l9 (N := 1) rfl ?_); refine bx (cs := #[.string r0, .string D2]) (t := 32) ?_; intro j8 hg w4 o8 hb; have j5 := j4.mk (o8); have L8 := gS hg; have J7 := gS hg; replace HB := bS hb; clear hb o8 hg; have dq9 := cz2 j5.out; have dr0 := fz2 j5.out) | ((with_reducible refine j6 (f := 38) rfl ?_); refine gv 4 Tryz.func38 _ (O1.calls (w := _) (h := A2.out)) ?_; intro w6 hb; replace j5 := kS j5 hb; replace HB := bS hb; clear hb))
  go_ret
  exact ⟨zr, zB⟩
 ·replace H := S2 H; obtain ⟨t103, A7, H⟩ := H
  obtain rfl := Option.some.inj H
  go_enter Tryz.func72, Tryz.ntmps72
  go_wp2_with (first | ((with_reducible refine l9 (N := 1) rfl ?_); refine bx (cs := #[.string r0, .string D2]) (t := 32) ?_; intro j8 hg w8 o8 hb; have j5 := j4.mk (o8); have L8 := gS hg; have J7 := gS hg; replace HB := bS hb; clear hb o8 hg; have bZ0 := cz2 j5.out; have bZ1 := fz2 j5.out) | ((with_reducible refine j6 (f := 38) rfl ?_); refine gv 4 Tryz.func38 _ (O1.calls (w := _) (h := A2.out)) ?_; intro w10 hb; replace j5 := kS j5 hb; replace HB := bS hb; clear hb; have be4 := cz2 j5.out; have be5 := fz2 j5.out) | (go_at_call 34; refine (a30.calls (w := _) (hG := gB) (h := A7.out)).mono ?_; rintro e w12 ⟨rfl, hb⟩; replace j5 := kS j5 hb; replace HB := bS hb; clear hb))
  go_ret
  exact ⟨zr, zB⟩
end Go.Proofs.YtbncnjgflhoneaaGreatDoor.F
namespace Go.Proofs.YtbncnjgflhoneaaGreatDoor.Hand
open Go.RowKit Go.Proofs.YtbncnjgflhoneaaGreatDoor.F Go.Proofs.YtbncnjgflhoneaaGreatDoorW.l8 Go.Proofs.YtbncnjgflhoneaaGreatDoorW.s9 Go.Proofs.YtbncnjgflhoneaaGreatDoorW.y9
def ap2 (d : ByteArray) : List ByteArray := Lib.splitB ⟨#[46]⟩ 0 (Lib.countB d ⟨#[46]⟩) d
def aC6 (d : ByteArray) : Bool := (ap2 d).all ap0 && decide ((ap2 d).length ≤ 3)
def U9 (u d : ByteArray) : Bool := ap0 u && aC6 d
def a43 (u d : ByteArray) : Bool := u.toList == [] && d.toList == []
def am6 (u d : ByteArray) (ts : List G6) (body : List ByteArray) : Bool := (a43 u d || U9 u d) && decide (1 ≤ ts.length ∧ ts.length ≤ 4) && ts.all (fun a => U9 a.f0 a.f1) && ao8 ts && ae3 body
def a33.f (u d : ByteArray) (ts : List G6) (body : List ByteArray) : Option Bool := if (bo7 u && bo7 d && ts.all (fun a => bo7 a.f0 && bo7 a.f1) && body.all bo7) = true then some (am6 u d ts body) else none
theorem bw5 (d : ByteArray) : (ap2 d).length ≤ d.size + 1 := by
 unfold ap2
 rw [Lib.splitB_all ⟨#[46]⟩ (by decide) 0 _ d rfl]
 have := Lib.countB_le ⟨#[46]⟩ (by decide) _ d (Nat.le_refl _)
 omega
theorem bO3 (L : List ByteArray) (hL : L.length ≤ 1099511627776) : ∀ (e i k : Nat), L.length = i + e → e < k → R9.l0 k L L (L.length : Int) (i : Int) = some ((L.drop i).all ap0 && decide (L.length ≤ 3)) := by
 intro e
 induction e with
 | zero =>
  intro i k hi hk
  obtain ⟨k, rfl⟩ : ∃ m, k = m + 1 := ⟨k - 1, by omega⟩
  rw [R9.l0, if_neg (by omega), List.drop_eq_nil_of_le (by omega), List.all_nil, Bool.true_and]
  exact congrArg some (decide_eq_decide.2 (by omega))
 | succ e ih =>
  intro i k hi hk
  obtain ⟨k, rfl⟩ : ∃ m, k = m + 1 := ⟨k - 1, by omega⟩
  have hl : i < L.length := by omega
  rw [R9.l0, if_pos (by omega), if_pos (by omega), if_pos (by omega), aU9 _ _ _ hl, List.drop_eq_getElem_cons hl, List.all_cons]
  unfold a81.f
  rw [Option.bind_some]
  by_cases h : ap0 L[i] = true
  ·rw [if_pos h, h, Y5 (by omega) (by omega), Bool.true_and]
   exact ih (i + 1) k (by omega) (by omega)
  ·rw [if_neg h, Bool.eq_false_iff.2 h]
   rfl
theorem bH5 (d : ByteArray) (hd : d.size ≤ 1073741824) (k : Nat) (hk : d.size + 2 ≤ k) : R9.f k d = some (aC6 d) := by
 have hl := bw5 d
 unfold R9.f strings_Split.f
 rw [if_pos ⟨by omega, by decide⟩, Option.bind_some]
 exact bO3 (ap2 d) (by omega) (ap2 d).length 0 k (by omega) (by omega)
theorem b41 (u d : ByteArray) (hd : d.size ≤ 1073741824) (k : Nat) (hk : d.size + 2 ≤ k) : a30.f k u d = some (U9 u d) := by
 unfold a30.f a81.f U9
 rw [Option.bind_some]
 by_cases h : ap0 u = true
 ·rw [if_pos h, h, bH5 d hd k hk]
  rfl
 ·rw [if_neg h, Bool.eq_false_iff.2 h]
  rfl
theorem b66 (u d : ByteArray) (hd : d.size ≤ 1073741824) (k : Nat) (hk : d.size + 2 ≤ k) : M7.f k u d = some (a43 u d || U9 u d) := by
 unfold M7.f O1.f
 rw [Option.bind_some]
 show (if a43 u d = true then _ else _) = _
 by_cases h : a43 u d = true
 ·rw [if_pos h, h]
  rfl
 ·rw [if_neg h, Bool.eq_false_iff.2 h, b41 u d hd k hk]
  rfl
theorem ct6 (u d : ByteArray) (hd : d.size ≤ 1073741824) (k : Nat) (hk : d.size + 2 ≤ k) : ag5.f k u d = some (!U9 u d) := by
 unfold ag5.f
 rw [b41 u d hd k hk]
 rfl
def aD3 (a : G6) : Bool := U9 a.f0 a.f1
set_option maxHeartbeats 1000000 in
set_option maxRecDepth 100000 in
theorem bZ2 (A0 : Option Addr) (c0 : Nat) (l0 : List G6) (w : World) (hG : Laid w) (hr0 : Kd.C k32 w A0 l0.length l0) (hs : ∀ a ∈ l0, b65 a) :
  Calls Tryz.prog 112 #[.slice A0 l0.length c0, .func (Fn.func 71) #[] #[]] w fun e w' => ∃ v : Int, e = .returned (.int .i64 v) ∧ (decide (0 ≤ v) = !l0.all aD3) ∧ Below w.heap.size w w' := by
 have hm := hr0.2.1
 have HR0 := j4.mk hr0
 have HS := j4.mk hs
 have HG := j4.mk hG
 clear hr0 hs hG
 go_enter Tryz.func112, Tryz.ntmps112
 go_wp2
 go_loopw [8] (fun i wr => ∃ k : Nat, k ≤ l0.length ∧ i = .int .i64 k ∧ j4 ((l0.take k).all aD3 = true) ∧ j4 (Below w.heap.size w wr)) (fun i _ => l0.length - (intOf i).toNat)
 case atStart => exact ⟨0, by omega, rfl, ⟨by simp⟩, ⟨Below.refl _ _⟩⟩
 case round =>
  obtain ⟨k, hk, rfl, HA, HB⟩ := hrel
  by_cases hlt : k < l0.length
  ·obtain ⟨ad, e, hx0, hx1⟩ := as1 HR0.out k (by omega) (by omega)
   cases e
   rw [ao9 _ _ hlt, Int.toNat_natCast] at hx0 hx1
   replace hx0 := (HB.out.cell (World.block_lt_of_cell? w _ hx0)).trans hx0
   replace hx1 := (HB.out.cell (World.block_lt_of_cell? w _ hx1)).trans hx1
   have as2 := Tryz.underlying32
   have hz := HS.out _ (List.getElem_mem hlt)
   have ht : l0.take (k + 1) = l0.take k ++ [l0[k]] := List.take_succ_eq_append_getElem hlt
   have hmem := List.getElem_mem hlt
   have HL := j4.mk (ct6 l0[k].f0 l0[k].f1 hz.2 _ (Nat.le_refl _))
   by_cases hb : aD3 l0[k] = true
   ·have hb' : U9 l0[k].f0 l0[k].f1 = true := hb
    rw [hb'] at HL
    have HN := j4.mk (show (l0.take (k + 1)).all aD3 = true by rw [ht, List.all_append, HA.out]; simp [hb])
    clear ht hz hb hb'
    generalize l0[k] = a at *
    go_wp2_with (go_at_call 71; (with_reducible refine (ag5.calls _ _ _ (!true) _ (HG.out.below HB.out) HL.out).mono ?_); rintro e w1 ⟨rfl, hb⟩; have HB1 := j4.mk hb; clear hb)
    go_roundw
    case rel => exact ⟨k + 1, by omega, by go_num, HN, ⟨HB.out.trans (HB1.out.mono HB.out.size)⟩⟩
    case measure => simp [intOf]; omega
   ·have hb := Bool.eq_false_iff.2 hb
    have hb' : U9 l0[k].f0 l0[k].f1 = false := hb
    rw [hb'] at HL
    have HN := j4.mk (show l0.all aD3 = false by
     rw [Bool.eq_false_iff]
     intro h
     have := (List.all_eq_true.1 h) _ hmem
     rw [hb] at this
     cases this)
    clear ht hz hb hb' hmem
    generalize l0[k] = a at *
    go_wp2_with (go_at_call 71; (with_reducible refine (ag5.calls _ _ _ (!false) _ (HG.out.below HB.out) HL.out).mono ?_); rintro e w1 ⟨rfl, hb⟩; have HB1 := j4.mk hb; clear hb)
    go_ret
    exact ⟨_, rfl, by rw [HN.out]; simp, HB.out.trans (HB1.out.mono HB.out.size)⟩
  ·obtain rfl : k = l0.length := by omega
   have HN := j4.mk (show l0.all aD3 = true by have := HA.out; rwa [List.take_length] at this)
   clear hlt
   go_wp2
   go_ret
   exact ⟨_, rfl, by rw [HN.out]; rfl, HB.out⟩
set_option maxHeartbeats 1000000 in
set_option maxRecDepth 100000 in
theorem b09 (A0 : Option Addr) (c0 : Nat) (l0 : List G6) (w : World) (hG : Laid w) (hr0 : Kd.C k32 w A0 l0.length l0) (hs : ∀ a ∈ l0, b65 a) :
  Calls Tryz.prog 73 #[.slice A0 l0.length c0, .func (Fn.func 71) #[] #[]] w fun e w' => e = .returned (.bool (!l0.all aD3)) ∧ Below w.heap.size w w' := by
 have HR0 := j4.mk hr0
 have HS := j4.mk hs
 have HG := j4.mk hG
 clear hr0 hs hG
 go_enter Tryz.func73, Tryz.ntmps73
 go_wp2_with (go_at_call 112; refine (bZ2 A0 c0 l0 _ HG.out HR0.out HS.out).mono ?_; rintro e w' ⟨v, rfl, hv, hb⟩; have HB := j4.mk hb; clear hb)
 go_ret
 exact ⟨rfl, HB.out⟩
def Box (w : World) (u d : ByteArray) (v2 v3 : Value) (W : World) : Prop := W.heap[w.heap.size]? = some (.cells #[.string u, .string d, v2, v3] 35 (0, 0)) ∧ Below w.heap.size w W
theorem Box.step {w W W1 : World} {u d : ByteArray} {v2 v3 : Value} (h : Box w u d v2 v3 W) (hb : Below W.heap.size W W1) : Box w u d v2 v3 W1 := by
 have hlt : w.heap.size < W.heap.size := by
  rcases Nat.lt_or_ge w.heap.size W.heap.size with h' | h'
  ·exact h'
  ·have := h.1
   simp [Array.getElem?_eq_none h'] at this
 exact ⟨(hb.block _ hlt).trans h.1, h.2.trans (hb.mono (by omega))⟩
theorem Box.cells {w W : World} {u d : ByteArray} {v2 v3 : Value} (h : Box w u d v2 v3 W) : W.cell? ⟨w.heap.size, 0, none⟩ = some (.string u) ∧ W.cell? ⟨w.heap.size, 1, none⟩ = some (.string d) ∧ W.cell? ⟨w.heap.size, 2, none⟩ = some v2 ∧ W.cell? ⟨w.heap.size, 3, none⟩ = some v3 := by
 refine ⟨?_, ?_, ?_, ?_⟩ <;> (rw [Lib.cell_of_heap h.1]; rfl)
theorem Box.new (w : World) (u d : ByteArray) (v2 v3 : Value) : Box w u d v2 v3 (w.alloc (.cells #[.string u, .string d, v2, v3] 35)) := ⟨heap_alloc_new w _, (Below.refl _ _).alloc (Nat.le_refl _) _⟩
theorem cD2 {ts : List G6} (h : ts.all (fun a => bo7 a.f0 && bo7 a.f1) = true) : ∀ a ∈ ts, b65 a := fun a ha => by
 have := List.all_eq_true.1 h a ha
 rw [Bool.and_eq_true] at this
 exact ⟨of_decide_eq_true this.1, of_decide_eq_true this.2⟩
set_option maxHeartbeats 2000000 in
set_option maxRecDepth 100000 in
theorem a33.calls (r0 : ByteArray) (D2 : ByteArray) (ae6 : Option Addr) (ae1 : Nat) (J2 : List (G6)) (a71 : Option Addr) (a73 : Nat) (P8 : List ByteArray) (r : Bool) (w : World) (hG : Laid w) (a90 : Kd.C k32 w ae6 J2.length J2) (_hc0_2 : J2.length ≤ ae1) (a09 : Kd.C Kd.string w a71 P8.length P8) (a10 : P8.length ≤ a73) (h : a33.f r0 D2 J2 P8 = some r) :
  Calls Tryz.prog 36 #[.agg #[.string r0, .string D2, .slice ae6 J2.length ae1, .slice a71 P8.length a73]] w fun e w' => e = .returned (.bool r) ∧ Below w.heap.size w w' := by
 unfold a33.f at h
 split at h
 case isFalse => cases h
 case isTrue hs =>
 simp only [Bool.and_eq_true] at hs
 obtain ⟨⟨⟨_, hs1⟩, hs2⟩, hs3⟩ := hs
 injection h with h
 have HT2 := j4.mk (cD2 hs2)
 have H3 := j4.mk (show ac6.f P8 = some (ae3 P8) by
  unfold ac6.f
  rw [if_pos]
  rw [List.all_eq_true] at hs3 ⊢
  intro x hx
  have := of_decide_eq_true (hs3 x hx)
  exact decide_eq_true (by omega))
 have HSE := j4.mk (b66 r0 D2 (of_decide_eq_true hs1) _ (Nat.le_refl _))
 clear hs1 hs2 hs3
 have HG := j4.mk hG
 have HR2 := j4.mk a90
 have HR3 := j4.mk a09
 have HC3 := j4.mk a10
 have HW := j4.mk (show ∀ b : Bool, decide (1 ≤ J2.length ∧ J2.length ≤ 4) = b → O2.f (J2.length : Int) 1 4 = some b by
  intro b hb
  unfold O2.f
  by_cases g : 1 ≤ J2.length
  ·rw [if_pos (by omega), ← hb]
   exact congrArg some (decide_eq_decide.2 (by omega))
  ·rw [if_neg (by omega), ← hb, decide_eq_false (by omega)])
 have HB0 := j4.mk (Box.new w r0 D2 (.slice ae6 J2.length ae1) (.slice a71 P8.length a73))
 clear hG a90 a09 a10
 have aV0 := Tryz.underlying35
 have as2 := Tryz.underlying32
 unfold am6 at h
 cases b1 : (a43 r0 D2 || U9 r0 D2)
 ·rw [b1] at h HSE
  simp only [Bool.false_and] at h
  subst h
  clear b1
  go_enter Tryz.func36, Tryz.ntmps36
  go_wp2_with (go_at_call 72; refine (M7.calls _ _ _ false _ (HG.out.below HB0.out.2) HSE.out).mono ?_; rintro e w1 ⟨rfl, hb⟩; have HB1 := j4.mk (HB0.out.step hb); clear hb)
  go_ret
  exact ⟨rfl, HB1.out.2⟩
 rw [b1] at h HSE
 simp only [Bool.true_and] at h
 clear b1
 cases b2 : decide (1 ≤ J2.length ∧ J2.length ≤ 4)
 ·have HW' := j4.mk (HW.out _ b2)
  rw [b2] at h
  simp only [Bool.false_and] at h
  subst h
  clear b2 HW
  go_enter Tryz.func36, Tryz.ntmps36
  go_wp2_with (first | (go_at_call 72; refine (M7.calls _ _ _ true _ (HG.out.below HB0.out.2) HSE.out).mono ?_; rintro e w1 ⟨rfl, hb⟩; have HB1 := j4.mk (HB0.out.step hb); obtain ⟨_, _, kc2, kc3⟩ := HB1.out.cells; clear hb) | (go_at_call 33; (with_reducible refine (O2.calls _ 1 4 false _ HW'.out).mono ?_); rintro e w' ⟨rfl, ⟨nd, rfl⟩⟩))
  go_ret
  exact ⟨rfl, HB1.out.2.trans ((av0 _ nd).mono HB1.out.2.size)⟩
 have HW' := j4.mk (HW.out _ b2)
 rw [b2] at h
 simp only [Bool.true_and] at h
 clear b2 HW
 cases b3 : J2.all aD3
 ·have b3' : J2.all (fun a => U9 a.f0 a.f1) = false := b3
  rw [b3'] at h
  simp only [Bool.false_and] at h
  subst h
  have HA := j4.mk (fun W hG hr => b09 ae6 ae1 J2 W hG hr HT2.out)
  rw [b3] at HA
  clear b3 b3'
  go_enter Tryz.func36, Tryz.ntmps36
  go_wp2_with (first | (go_at_call 72; refine (M7.calls _ _ _ true _ (HG.out.below HB0.out.2) HSE.out).mono ?_; rintro e w1 ⟨rfl, hb⟩; have HB1 := j4.mk (HB0.out.step hb); obtain ⟨_, _, kc2, kc3⟩ := HB1.out.cells; clear hb) | (go_at_call 33; (with_reducible refine (O2.calls _ 1 4 true _ HW'.out).mono ?_); rintro e w' ⟨rfl, ⟨nd, rfl⟩⟩; have HB2 := j4.mk (HB1.out.step (av0 _ nd))) | (go_at_call 73; refine (HA.out _ (HG.out.below HB2.out.2) (Kd.a79 HR2.out HB2.out.2)).mono ?_; rintro e w3 ⟨rfl, hb⟩; have HB3 := j4.mk (HB2.out.step hb); clear hb))
  go_ret
  exact ⟨rfl, HB3.out.2⟩
 have b3' : J2.all (fun a => U9 a.f0 a.f1) = true := b3
 rw [b3'] at h
 simp only [Bool.true_and] at h
 have HA := j4.mk (fun W hG hr => b09 ae6 ae1 J2 W hG hr HT2.out)
 rw [b3] at HA
 clear b3 b3'
 have HD := j4.mk (fun W hr => bo9 ae6 ae1 J2 W hr HT2.out)
 cases b4 : ao8 J2
 ·rw [b4] at h HD
  simp only [Bool.false_and] at h
  subst h
  clear b4
  go_enter Tryz.func36, Tryz.ntmps36
  go_wp2_with (first | (go_at_call 72; refine (M7.calls _ _ _ true _ (HG.out.below HB0.out.2) HSE.out).mono ?_; rintro e w1 ⟨rfl, hb⟩; have HB1 := j4.mk (HB0.out.step hb); obtain ⟨_, _, kc2, kc3⟩ := HB1.out.cells; clear hb) | (go_at_call 33; (with_reducible refine (O2.calls _ 1 4 true _ HW'.out).mono ?_); rintro e w' ⟨rfl, ⟨nd, rfl⟩⟩; have HB2 := j4.mk (HB1.out.step (av0 _ nd))) | (go_at_call 73; refine (HA.out _ (HG.out.below HB2.out.2) (Kd.a79 HR2.out HB2.out.2)).mono ?_; rintro e w3 ⟨rfl, hb⟩; have HB3 := j4.mk (HB2.out.step hb); obtain ⟨_, _, e79, e80⟩ := HB3.out.cells; clear hb) | (go_at_call 74; refine (HD.out _ (Kd.a79 HR2.out HB3.out.2)).mono ?_; rintro e w4 ⟨rfl, hb⟩; have HB4 := j4.mk (HB3.out.step hb); clear hb))
  go_ret
  exact ⟨rfl, HB4.out.2⟩
 rw [b4] at h HD
 simp only [Bool.true_and] at h
 subst h
 clear b4
 cases b5 : ae3 P8
 all_goals
  rw [b5] at H3
  clear b5
  go_enter Tryz.func36, Tryz.ntmps36
  go_wp2_with (first | (go_at_call 72; refine (M7.calls _ _ _ true _ (HG.out.below HB0.out.2) HSE.out).mono ?_; rintro e w1 ⟨rfl, hb⟩; have HB1 := j4.mk (HB0.out.step hb); obtain ⟨_, _, kc2, kc3⟩ := HB1.out.cells; clear hb) | (go_at_call 33; (with_reducible refine (O2.calls _ 1 4 true _ HW'.out).mono ?_); rintro e w' ⟨rfl, ⟨nd, rfl⟩⟩; have HB2 := j4.mk (HB1.out.step (av0 _ nd))) | (go_at_call 73; refine (HA.out _ (HG.out.below HB2.out.2) (Kd.a79 HR2.out HB2.out.2)).mono ?_; rintro e w3 ⟨rfl, hb⟩; have HB3 := j4.mk (HB2.out.step hb); obtain ⟨_, _, e79, e80⟩ := HB3.out.cells; clear hb) | (go_at_call 74; refine (HD.out _ (Kd.a79 HR2.out HB3.out.2)).mono ?_; rintro e w4 ⟨rfl, hb⟩; have HB4 := j4.mk (HB3.out.step hb); obtain ⟨_, _, em7, em8⟩ := HB4.out.cells; clear hb) | (go_at_call 75; refine (ac6.calls a71 a73 P8 _ _ (Kd.a79 HR3.out HB4.out.2) HC3.out H3.out).mono ?_; rintro e w' ⟨rfl, ⟨nd5, rfl⟩⟩))
  go_ret
  exact ⟨rfl, (HB4.out.step (av0 _ nd5)).2⟩
end Go.Proofs.YtbncnjgflhoneaaGreatDoor.Hand
namespace Go.Proofs.YtbncnjgflhoneaaGreatDoor.F
open Go.RowKit Go.Proofs.YtbncnjgflhoneaaGreatDoor.Hand Go.Proofs.YtbncnjgflhoneaaGreatDoorW.l8 Go.Proofs.YtbncnjgflhoneaaGreatDoorW.s9 Go.Proofs.YtbncnjgflhoneaaGreatDoorW.y9
def I9.f (a0 : Int) (a1 : Int) (a2 : Int) : Option (Bool) := if a0 ≥ a1 then (some (decide (a0 ≤ a2))) else (some false)
set_option maxHeartbeats 8000000 in
set_option maxRecDepth 100000 in
theorem I9.calls (a0 : Int) (a1 : Int) (a2 : Int) (r : Bool) (w : World) (h : I9.f a0 a1 a2 = some r) :
  Calls Tryz.prog 57 #[.int .i64 a0, .int .i64 a1, .int .i64 a2] w fun e w' => e = .returned (.bool r) ∧ O7 w w' := by
 have H := h
 clear h
 unfold I9.f at H
 replace H := K2 H; rcases H with ⟨aD2, H⟩ | ⟨aD2, H⟩
 ·obtain rfl := Option.some.inj H
  go_enter Tryz.func57, Tryz.ntmps57
  go_wp2
  go_ret
  exact ⟨zs, zD⟩
 ·obtain rfl := Option.some.inj H
  go_enter Tryz.func57, Tryz.ntmps57
  go_wp2
  go_ret
  exact ⟨zs, zD⟩
def P9.l0 : Nat → ByteArray → Int → Option (Bool)
 | 0, _, _ => none
 | k + 1, x0, x3 => if x3 < (x0.size : Int) then (if 0 ≤ x3 then (if (bt x0 x3) < 97 then (if (bt x0 x3) < 48 then (some false) else (if (bt x0 x3) > 57 then (some false) else (P9.l0 k x0 (wrap64 (x3 + 1))))) else (if (bt x0 x3) > 122 then (if (bt x0 x3) < 48 then (some false) else (if (bt x0 x3) > 57 then (some false) else (P9.l0 k x0 (wrap64 (x3 + 1))))) else (P9.l0 k x0 (wrap64 (x3 + 1))))) else (none)) else ((I9.f (x0.size : Int) 1 8).bind fun t101 => (some t101))
def P9.f (k : Nat) (a0 : ByteArray) : Option (Bool) := P9.l0 k a0 0
set_option maxHeartbeats 8000000 in
set_option maxRecDepth 100000 in
theorem P9.calls (k : Nat) (a0 : ByteArray) (r : Bool) (w : World) (h : P9.f k a0 = some r) :
  Calls Tryz.prog 101 #[.string a0] w fun e w' => e = .returned (.bool r) ∧ O7 w w' := by
 have H := h
 clear h
 unfold P9.f at H
 have H' := j4.mk H
 clear H
 go_enter Tryz.func101, Tryz.ntmps101
 go_wp2
 go_loopg [3] k (fun kq v3 w' => ∃ (E8 : Int), v3 = .int .i64 E8 ∧ j4 (P9.l0 kq a0 E8 = some r) ∧ j4 (kq ≤ k) ∧ O7 w w')
 case atStart => exact ⟨(0), zs, H', ⟨Nat.le_refl _⟩, zD⟩
 case round =>
  clear H'
  obtain ⟨E8, rfl, HA, HK1, ⟨m1, rfl⟩⟩ := hrel
  cases gk with
  | zero => exact absurd HA.out (by simp [P9.l0])
  | succ k1 =>
   have H := HA.out
   clear HA
   simp only [P9.l0] at H
   replace H := K2 H; rcases H with ⟨ak5, H⟩ | ⟨ak5, H⟩
   ·replace H := S1 H; obtain ⟨aD1, H⟩ := H
    replace H := K2 H; rcases H with ⟨ap1, H⟩ | ⟨ap1, H⟩
    ·replace H := K2 H; rcases H with ⟨ak6, H⟩ | ⟨ak6, H⟩
     ·obtain rfl := Option.some.inj H
      have p4 : 0 ≤ (E8 : Int) := of_decide_eq_true za
      have q4 : E8 < (a0.size : Int) := of_decide_eq_true za
      have hx4 := V4 a0 E8
      replace p4 := eq_true p4
      replace q4 := eq_true q4
      have p6 : 0 ≤ (E8 : Int) := of_decide_eq_true za
      have q6 : E8 < (a0.size : Int) := of_decide_eq_true za
      have hx6 := V4 a0 E8
      replace p6 := eq_true p6
      replace q6 := eq_true q6
      go_wp2
      go_ret
      exact ⟨zs, zD⟩
     ·replace H := K2 H; rcases H with ⟨aF9, H⟩ | ⟨aF9, H⟩
      ·obtain rfl := Option.some.inj H
       have p4 : 0 ≤ (E8 : Int) := of_decide_eq_true za
       have q4 : E8 < (a0.size : Int) := of_decide_eq_true za
       have hx4 := V4 a0 E8
       replace p4 := eq_true p4
       replace q4 := eq_true q4
       have p6 : 0 ≤ (E8 : Int) := of_decide_eq_true za
       have q6 : E8 < (a0.size : Int) := of_decide_eq_true za
       have hx6 := V4 a0 E8
       replace p6 := eq_true p6
       replace q6 := eq_true q6
       have p8 : 0 ≤ (E8 : Int) := of_decide_eq_true za
       have q8 : E8 < (a0.size : Int) := of_decide_eq_true za
       have hx8 := V4 a0 E8
       replace p8 := eq_true p8
       replace q8 := eq_true q8
       go_wp2
       go_ret
       exact ⟨zs, zD⟩
      ·have H' := j4.mk H
       clear H
       have p4 : 0 ≤ (E8 : Int) := of_decide_eq_true za
       have q4 : E8 < (a0.size : Int) := of_decide_eq_true za
       have hx4 := V4 a0 E8
       replace p4 := eq_true p4
       replace q4 := eq_true q4
       have p6 : 0 ≤ (E8 : Int) := of_decide_eq_true za
       have q6 : E8 < (a0.size : Int) := of_decide_eq_true za
       have hx6 := V4 a0 E8
       replace p6 := eq_true p6
       replace q6 := eq_true q6
       have p8 : 0 ≤ (E8 : Int) := of_decide_eq_true za
       have q8 : E8 < (a0.size : Int) := of_decide_eq_true za
       have hx8 := V4 a0 E8
       replace p8 := eq_true p8
       replace q8 := eq_true q8
       go_wp2
       go_roundg k1
       case measure => have := HK1.out; omega
       case rel => exact ⟨(wrap64 (E8 + 1)), zs, H', ⟨by have := HK1.out; omega⟩, zD⟩
    ·replace H := K2 H; rcases H with ⟨aV1, H⟩ | ⟨aV1, H⟩
     ·replace H := K2 H; rcases H with ⟨al5, H⟩ | ⟨al5, H⟩
      ·obtain rfl := Option.some.inj H
       have p4 : 0 ≤ (E8 : Int) := of_decide_eq_true za
       have q4 : E8 < (a0.size : Int) := of_decide_eq_true za
       have hx4 := V4 a0 E8
       replace p4 := eq_true p4
       replace q4 := eq_true q4
       have p10 : 0 ≤ (E8 : Int) := of_decide_eq_true za
       have q10 : E8 < (a0.size : Int) := of_decide_eq_true za
       have dr1 := V4 a0 E8
       replace p10 := eq_true p10
       replace q10 := eq_true q10
       have p12 : 0 ≤ (E8 : Int) := of_decide_eq_true za
       have q12 : E8 < (a0.size : Int) := of_decide_eq_true za
       have cV0 := V4 a0 E8
       replace p12 := eq_true p12
       replace q12 := eq_true q12
       go_wp2
       go_ret
       exact ⟨zs, zD⟩
      ·replace H := K2 H; rcases H with ⟨aN7, H⟩ | ⟨aN7, H⟩
       ·obtain rfl := Option.some.inj H
        have p4 : 0 ≤ (E8 : Int) := of_decide_eq_true za
        have q4 : E8 < (a0.size : Int) := of_decide_eq_true za
        have hx4 := V4 a0 E8
        replace p4 := eq_true p4
        replace q4 := eq_true q4
        have p10 : 0 ≤ (E8 : Int) := of_decide_eq_true za
        have q10 : E8 < (a0.size : Int) := of_decide_eq_true za
        have dr1 := V4 a0 E8
        replace p10 := eq_true p10
        replace q10 := eq_true q10
        have p12 : 0 ≤ (E8 : Int) := of_decide_eq_true za
        have q12 : E8 < (a0.size : Int) := of_decide_eq_true za
        have cV0 := V4 a0 E8
        replace p12 := eq_true p12
        replace q12 := eq_true q12
        have p14 : 0 ≤ (E8 : Int) := of_decide_eq_true za
        have q14 : E8 < (a0.size : Int) := of_decide_eq_true za
        have dF5 := V4 a0 E8
        replace p14 := eq_true p14
        replace q14 := eq_true q14
        go_wp2
        go_ret
        exact ⟨zs, zD⟩
       ·have H' := j4.mk H
        clear H
        have p4 : 0 ≤ (E8 : Int) := of_decide_eq_true za
        have q4 : E8 < (a0.size : Int) := of_decide_eq_true za
        have hx4 := V4 a0 E8
        replace p4 := eq_true p4
        replace q4 := eq_true q4
        have p10 : 0 ≤ (E8 : Int) := of_decide_eq_true za
        have q10 : E8 < (a0.size : Int) := of_decide_eq_true za
        have dr1 := V4 a0 E8
        replace p10 := eq_true p10
        replace q10 := eq_true q10
        have p12 : 0 ≤ (E8 : Int) := of_decide_eq_true za
        have q12 : E8 < (a0.size : Int) := of_decide_eq_true za
        have cV0 := V4 a0 E8
        replace p12 := eq_true p12
        replace q12 := eq_true q12
        have p14 : 0 ≤ (E8 : Int) := of_decide_eq_true za
        have q14 : E8 < (a0.size : Int) := of_decide_eq_true za
        have dF5 := V4 a0 E8
        replace p14 := eq_true p14
        replace q14 := eq_true q14
        go_wp2
        go_roundg k1
        case measure => have := HK1.out; omega
        case rel => exact ⟨(wrap64 (E8 + 1)), zs, H', ⟨by have := HK1.out; omega⟩, zD⟩
     ·have H' := j4.mk H
      clear H
      have p4 : 0 ≤ (E8 : Int) := of_decide_eq_true za
      have q4 : E8 < (a0.size : Int) := of_decide_eq_true za
      have hx4 := V4 a0 E8
      replace p4 := eq_true p4
      replace q4 := eq_true q4
      have p10 : 0 ≤ (E8 : Int) := of_decide_eq_true za
      have q10 : E8 < (a0.size : Int) := of_decide_eq_true za
      have dr1 := V4 a0 E8
      replace p10 := eq_true p10
      replace q10 := eq_true q10
      go_wp2
      go_roundg k1
      case measure => have := HK1.out; omega
      case rel => exact ⟨(wrap64 (E8 + 1)), zs, H', ⟨by have := HK1.out; omega⟩, zD⟩
   ·replace H := S2 H; obtain ⟨t101, A16, H⟩ := H
    obtain rfl := Option.some.inj H
    go_wp2_with (first | ((with_reducible refine j6 (f := 57) rfl ?_); refine gv 34 Tryz.func57 _ (I9.calls (w := _) (h := A16.out)) ?_; rintro w' ⟨nd, rfl⟩))
    go_ret
    exact ⟨zs, zD⟩
end Go.Proofs.YtbncnjgflhoneaaGreatDoor.F
namespace Go.Proofs.YtbncnjgflhoneaaGreatDoor.F
open Go.RowKit Go.Proofs.YtbncnjgflhoneaaGreatDoor.Hand Go.Proofs.YtbncnjgflhoneaaGreatDoorW.l8 Go.Proofs.YtbncnjgflhoneaaGreatDoorW.s9 Go.Proofs.YtbncnjgflhoneaaGreatDoorW.y9
def Q8.l0 : Nat → ByteArray → Int → Option (Bool)
 | 0, _, _ => none
 | k + 1, x0, x3 => if x3 < (x0.size : Int) then (if 0 ≤ x3 then (if (bt x0 x3) < 32 then (some false) else (if (bt x0 x3) > 126 then (some false) else (Q8.l0 k x0 (wrap64 (x3 + 1))))) else (none)) else (some (decide ((x0.size : Int) ≤ 40)))
def Q8.f (k : Nat) (a0 : ByteArray) : Option (Bool) := Q8.l0 k a0 0
set_option maxHeartbeats 8000000 in
set_option maxRecDepth 100000 in
theorem Q8.calls (k : Nat) (a0 : ByteArray) (r : Bool) (w : World) (h : Q8.f k a0 = some r) :
  Calls Tryz.prog 134 #[.string a0] w fun e w' => e = .returned (.bool r) ∧ O7 w w' := by
 have H := h
 clear h
 unfold Q8.f at H
 have H' := j4.mk H
 clear H
 go_enter Tryz.func134, Tryz.ntmps134
 go_wp2
 go_loopg [3] k (fun kq v3 w' => ∃ (E8 : Int), v3 = .int .i64 E8 ∧ j4 (Q8.l0 kq a0 E8 = some r) ∧ j4 (kq ≤ k) ∧ O7 w w')
 case atStart => exact ⟨(0), zs, H', ⟨Nat.le_refl _⟩, zD⟩
 case round =>
  clear H'
  obtain ⟨E8, rfl, HA, HK1, ⟨m1, rfl⟩⟩ := hrel
  cases gk with
  | zero => exact absurd HA.out (by simp [Q8.l0])
  | succ k1 =>
   have H := HA.out
   clear HA
   simp only [Q8.l0] at H
   replace H := K2 H; rcases H with ⟨ak5, H⟩ | ⟨ak5, H⟩
   ·replace H := S1 H; obtain ⟨aD1, H⟩ := H
    replace H := K2 H; rcases H with ⟨ap1, H⟩ | ⟨ap1, H⟩
    ·obtain rfl := Option.some.inj H
     have p4 : 0 ≤ (E8 : Int) := of_decide_eq_true za
     have q4 : E8 < (a0.size : Int) := of_decide_eq_true za
     have hx4 := V4 a0 E8
     replace p4 := eq_true p4
     replace q4 := eq_true q4
     go_wp2
     go_ret
     exact ⟨zs, zD⟩
    ·replace H := K2 H; rcases H with ⟨ak6, H⟩ | ⟨ak6, H⟩
     ·obtain rfl := Option.some.inj H
      have p4 : 0 ≤ (E8 : Int) := of_decide_eq_true za
      have q4 : E8 < (a0.size : Int) := of_decide_eq_true za
      have hx4 := V4 a0 E8
      replace p4 := eq_true p4
      replace q4 := eq_true q4
      have p6 : 0 ≤ (E8 : Int) := of_decide_eq_true za
      have q6 : E8 < (a0.size : Int) := of_decide_eq_true za
      have hx6 := V4 a0 E8
      replace p6 := eq_true p6
      replace q6 := eq_true q6
      go_wp2
      go_ret
      exact ⟨zs, zD⟩
     ·have H' := j4.mk H
      clear H
      have p4 : 0 ≤ (E8 : Int) := of_decide_eq_true za
      have q4 : E8 < (a0.size : Int) := of_decide_eq_true za
      have hx4 := V4 a0 E8
      replace p4 := eq_true p4
      replace q4 := eq_true q4
      have p6 : 0 ≤ (E8 : Int) := of_decide_eq_true za
      have q6 : E8 < (a0.size : Int) := of_decide_eq_true za
      have hx6 := V4 a0 E8
      replace p6 := eq_true p6
      replace q6 := eq_true q6
      go_wp2
      go_roundg k1
      case measure => have := HK1.out; omega
      case rel => exact ⟨(wrap64 (E8 + 1)), zs, H', ⟨by have := HK1.out; omega⟩, zD⟩
   ·obtain rfl := Option.some.inj H
    go_wp2
    go_ret
    exact ⟨zs, zD⟩
def F8.l0 : Nat → List ByteArray → Int → Option (Bool)
 | 0, _, _ => none
 | k + 1, x0, x3 => if x3 < (x0.length : Int) then (if 0 ≤ x3 then ((Q8.f k (H9 ByteArray.empty x0 x3)).bind fun t102 => (if t102 = true then (F8.l0 k x0 (wrap64 (x3 + 1))) else (some false))) else (none)) else (some (decide ((x0.length : Int) ≤ 12)))
def F8.f (k : Nat) (l0 : List ByteArray) : Option (Bool) := F8.l0 k l0 0
set_option maxHeartbeats 8000000 in
set_option maxRecDepth 100000 in
theorem F8.calls (k : Nat) (A0 : Option Addr) (c0 : Nat) (l0 : List ByteArray) (r : Bool) (w : World) (hr0 : Kd.C Kd.string w A0 l0.length l0) (hc0 : l0.length ≤ c0) (h : F8.f k l0 = some r) :
  Calls Tryz.prog 100 #[.slice A0 l0.length c0] w fun e w' => e = .returned (.bool r) ∧ O7 w w' := by
 have HR0 := j4.mk hr0
 have HC0 := j4.mk hc0
 clear hr0 hc0
 have H := h
 clear h
 unfold F8.f at H
 have H' := j4.mk H
 clear H
 go_enter Tryz.func100, Tryz.ntmps100
 go_wp2
 go_loopg [3] k (fun kq v3 w' => ∃ (E8 : Int), v3 = .int .i64 E8 ∧ j4 (F8.l0 kq l0 E8 = some r) ∧ j4 (kq ≤ k) ∧ O7 w w')
 case atStart => exact ⟨(0), zs, H', ⟨Nat.le_refl _⟩, zD⟩
 case round =>
  clear H'
  obtain ⟨E8, rfl, HA, HK1, ⟨m1, rfl⟩⟩ := hrel
  cases gk with
  | zero => exact absurd HA.out (by simp [F8.l0])
  | succ k1 =>
   have H := HA.out
   clear HA
   simp only [F8.l0] at H
   replace H := K2 H; rcases H with ⟨ak5, H⟩ | ⟨ak5, H⟩
   ·replace H := S1 H; obtain ⟨aD1, H⟩ := H
    replace H := S2 H; obtain ⟨t102, A4, H⟩ := H
    replace H := itb H; rcases H with ⟨rfl, H⟩ | ⟨rfl, H⟩
    ·have H' := j4.mk H
     clear H
     have ak7 : 0 ≤ (E8 : Int) := of_decide_eq_true za
     have ak8 : E8 < (l0.length : Int) := of_decide_eq_true za
     obtain ⟨b67, aQ4, ax3⟩ := Kd.E5 HR0.out E8 ak7 ak8
     cases aQ4
     replace ak7 := eq_true ak7
     replace ak8 := eq_true ak8
     go_wp2_with (first | ((with_reducible refine j6 (f := 134) rfl ?_); refine gv 14 Tryz.func134 _ (Q8.calls (w := _) (h := A4.out)) ?_; rintro w' ⟨nd, rfl⟩))
     go_roundg k1
     case measure => have := HK1.out; omega
     case rel => exact ⟨(wrap64 (E8 + 1)), zs, H', ⟨by have := HK1.out; omega⟩, zD⟩
    ·obtain rfl := Option.some.inj H
     have ak7 : 0 ≤ (E8 : Int) := of_decide_eq_true za
     have ak8 : E8 < (l0.length : Int) := of_decide_eq_true za
     obtain ⟨b67, aQ4, ax3⟩ := Kd.E5 HR0.out E8 ak7 ak8
     cases aQ4
     replace ak7 := eq_true ak7
     replace ak8 := eq_true ak8
     go_wp2_with (first | ((with_reducible refine j6 (f := 134) rfl ?_); refine gv 14 Tryz.func134 _ (Q8.calls (w := _) (h := A4.out)) ?_; rintro w' ⟨nd, rfl⟩))
     go_ret
     exact ⟨zs, zD⟩
   ·obtain rfl := Option.some.inj H
    go_wp2
    go_ret
    exact ⟨zs, zD⟩
end Go.Proofs.YtbncnjgflhoneaaGreatDoor.F
namespace Go.Proofs.YtbncnjgflhoneaaGreatDoor.F
open Go.RowKit Go.Proofs.YtbncnjgflhoneaaGreatDoor.Hand Go.Proofs.YtbncnjgflhoneaaGreatDoorW.l8 Go.Proofs.YtbncnjgflhoneaaGreatDoorW.s9 Go.Proofs.YtbncnjgflhoneaaGreatDoorW.y9
def K1.f (r0 : ByteArray) (D2 : ByteArray) : Option (Bool) := if r0.toList = ([] : List UInt8) then (some (D2.toList == ([] : List UInt8))) else (some false)
set_option maxHeartbeats 8000000 in
set_option maxRecDepth 100000 in
theorem K1.calls (r0 : ByteArray) (D2 : ByteArray) (r : Bool) (w : World) (h : K1.f r0 D2 = some r) :
  Calls Tryz.prog 55 #[.agg #[.string r0, .string D2]] w fun e w' => e = .returned (.bool r) ∧ Below w.heap.size w w' := by
 have as2 := Tryz.underlying32
 have HB := j4.mk (Below.refl w.heap.size w)
 have H := h
 clear h
 unfold K1.f at H
 replace H := F6 H; rcases H with ⟨ak5, aJ6, H⟩ | ⟨ak5, aJ6, H⟩
 ·obtain rfl := Option.some.inj H
  go_enter Tryz.func55, Tryz.ntmps55
  go_wp2_with (first | ((with_reducible refine l9 (N := 1) rfl ?_); refine bx (cs := #[.string r0, .string D2]) (t := 32) ?_; intro j8 hg w3 o8 hb; have j5 := j4.mk (o8); have L8 := gS hg; have J7 := gS hg; replace HB := bS hb; clear hb o8 hg; have bY8 := cz2 j5.out; have bY9 := fz2 j5.out))
  go_ret
  exact ⟨zr, zB⟩
 ·obtain rfl := Option.some.inj H
  go_enter Tryz.func55, Tryz.ntmps55
  go_wp2_with (first | ((with_reducible refine l9 (N := 1) rfl ?_); refine bx (cs := #[.string r0, .string D2]) (t := 32) ?_; intro j8 hg w5 o8 hb; have j5 := j4.mk (o8); have L8 := gS hg; have J7 := gS hg; replace HB := bS hb; clear hb o8 hg; have ct4 := cz2 j5.out; have ct5 := fz2 j5.out))
  go_ret
  exact ⟨zr, zB⟩
end Go.Proofs.YtbncnjgflhoneaaGreatDoor.F
namespace Go.Proofs.YtbncnjgflhoneaaGreatDoor.Hand
open Go.RowKit Go.Proofs.YtbncnjgflhoneaaGreatDoor.F Go.Proofs.YtbncnjgflhoneaaGreatDoorW.l8 Go.Proofs.YtbncnjgflhoneaaGreatDoorW.s9 Go.Proofs.YtbncnjgflhoneaaGreatDoorW.y9
theorem Ev.exact {α : Type} {g : Nat → Option α} {r : α} (K : Nat) (h : ∀ k, K ≤ k → g k = some r) : Ev g r := ⟨K, h⟩
theorem Ev.call {α β : Type} {g : Nat → Option α} {f : Nat → α → Option β} {h : Nat → Option β} {a : α} {r : β} (hg : Ev g a) (hf : ∀ n, f n a = h n) (hh : Ev h r) : Ev (fun n => (g n).bind (f n)) r := Ev.bind hg (Ev.congr hf hh)
theorem aV2 (a b c : Int) : I9.f a b c = some (decide (b ≤ a ∧ a ≤ c)) := by
 unfold I9.f
 by_cases g : a ≥ b
 ·rw [if_pos g]
  exact congrArg some (decide_eq_decide.2 (by omega))
 ·rw [if_neg g, decide_eq_false (by omega)]
theorem b68 (a b c : Int) : O2.f a b c = some (decide (b ≤ a ∧ a ≤ c)) := by
 unfold O2.f
 by_cases g : a ≥ b
 ·rw [if_pos g]
  exact congrArg some (decide_eq_decide.2 (by omega))
 ·rw [if_neg g, decide_eq_false (by omega)]
theorem bZ3 (c : UInt8) : aq3 c = ((decide (97 ≤ c.toNat) && decide (c.toNat ≤ 122)) || (decide (48 ≤ c.toNat) && decide (c.toNat ≤ 57))) := rfl
theorem ct7 (s : ByteArray) (hs : s.size ≤ 1099511627776) : ∀ (d i k : Nat), s.size = i + d → d < k → P9.l0 k s (i : Int) = some ((s.data.toList.drop i).all aq3 && decide (1 ≤ s.size ∧ s.size ≤ 8)) := by
 intro d
 induction d with
 | zero =>
  intro i k hi hk
  obtain ⟨k, rfl⟩ : ∃ m, k = m + 1 := ⟨k - 1, by omega⟩
  rw [P9.l0, if_neg (by omega), List.drop_eq_nil_of_le (by rw [E3]; omega), aV2, Option.bind_some, List.all_nil, Bool.true_and]
  exact congrArg some (decide_eq_decide.2 (by omega))
 | succ d ih =>
  intro i k hi hk
  obtain ⟨k, rfl⟩ : ∃ m, k = m + 1 := ⟨k - 1, by omega⟩
  have hl : i < s.data.toList.length := by rw [E3]; omega
  have h2 := ih (i + 1) k (by omega) (by omega)
  rw [P9.l0, if_pos (by omega), if_pos (by omega), au0 s i hl, List.drop_eq_getElem_cons hl, List.all_cons, bZ3, Y5 (x := (i : Int) + 1) (by omega) (by omega), show ((i : Int) + 1) = ((i + 1 : Nat) : Int) by omega, h2]
  generalize (s.data.toList[i]).toNat = c
  by_cases a : (c : Int) < 97
  ·rw [if_pos a, decide_eq_false (p := 97 ≤ c) (by omega), Bool.false_and, Bool.false_or]
   by_cases b : (c : Int) < 48
   ·rw [if_pos b, decide_eq_false (p := 48 ≤ c) (by omega)]; rfl
   ·rw [if_neg b, decide_eq_true (p := 48 ≤ c) (by omega)]
    by_cases e : (c : Int) > 57
    ·rw [if_pos e, decide_eq_false (p := c ≤ 57) (by omega)]; rfl
    ·rw [if_neg e, decide_eq_true (p := c ≤ 57) (by omega)]; rfl
  ·rw [if_neg a, decide_eq_true (p := 97 ≤ c) (by omega)]
   by_cases b : (c : Int) > 122
   ·rw [if_pos b, if_neg (by omega), if_pos (by omega), decide_eq_false (p := c ≤ 122) (by omega), decide_eq_false (p := c ≤ 57) (by omega), Bool.and_false, Bool.and_false]; rfl
   ·rw [if_neg b, decide_eq_true (p := c ≤ 122) (by omega)]; rfl
theorem bp2 (s : ByteArray) (hs : s.size ≤ 1099511627776) : Ev (fun k => P9.f k s) (ap0 s) := by
 refine Ev.exact (s.size + 1) fun k hk => ?_
 have h := ct7 s hs s.size 0 k (by omega) (by omega)
 unfold ap0
 rw [Bool.and_comm]
 exact h
theorem bZ4 (s : ByteArray) (hs : s.size ≤ 1099511627776) : ∀ (d i k : Nat), s.size = i + d → d < k → Q8.l0 k s (i : Int) = some ((s.data.toList.drop i).all bO0 && decide (s.size ≤ 40)) := by
 intro d
 induction d with
 | zero =>
  intro i k hi hk
  obtain ⟨k, rfl⟩ : ∃ m, k = m + 1 := ⟨k - 1, by omega⟩
  rw [Q8.l0, if_neg (by omega), List.drop_eq_nil_of_le (by rw [E3]; omega), List.all_nil, Bool.true_and]
  exact congrArg some (decide_eq_decide.2 (by omega))
 | succ d ih =>
  intro i k hi hk
  obtain ⟨k, rfl⟩ : ∃ m, k = m + 1 := ⟨k - 1, by omega⟩
  have hl : i < s.data.toList.length := by rw [E3]; omega
  rw [Q8.l0, if_pos (by omega), if_pos (by omega), au0 s i hl, List.drop_eq_getElem_cons hl, List.all_cons]
  have h1 : bO0 s.data.toList[i] = (decide (32 ≤ (s.data.toList[i]).toNat) && decide ((s.data.toList[i]).toNat ≤ 126)) := rfl
  by_cases a : ((s.data.toList[i]).toNat : Int) < 32
  ·rw [if_pos a, h1, decide_eq_false (by omega)]
   rfl
  rw [if_neg a]
  by_cases b : ((s.data.toList[i]).toNat : Int) > 126
  ·rw [if_pos b, h1, decide_eq_false (p := (s.data.toList[i]).toNat ≤ 126) (by omega), Bool.and_false]
   rfl
  rw [if_neg b, h1, decide_eq_true (by omega), decide_eq_true (by omega), Y5 (by omega) (by omega)]
  exact ih (i + 1) k (by omega) (by omega)
theorem bO4 (s : ByteArray) (hs : s.size ≤ 1099511627776) : Ev (fun k => Q8.f k s) (aJ5 s) :=
 Ev.exact (s.size + 1) fun k hk => bZ4 s hs s.size 0 k (by omega) (by omega)
theorem bZ5 (l : List ByteArray) (hl : l.length ≤ 1099511627776) (hs : ∀ s ∈ l, s.size ≤ 1099511627776) : ∀ (d i : Nat), l.length = i + d → Ev (fun k => F8.l0 k l (i : Int)) ((l.drop i).all aJ5 && decide (l.length ≤ 12)) := by
 intro d
 induction d with
 | zero =>
  intro i hi
  refine Ev.step (f := fun _ => some (decide ((l.length : Int) ≤ 12))) (fun k => by rw [F8.l0, if_neg (by omega)]) ?_
  rw [List.drop_eq_nil_of_le (by omega), List.all_nil, Bool.true_and, show decide ((l.length : Int) ≤ 12) = decide (l.length ≤ 12) from decide_eq_decide.2 (by omega)]
  exact Ev.now _
 | succ d ih =>
  intro i hi
  have hlt : i < l.length := by omega
  refine Ev.step (f := fun k => (Q8.f k l[i]).bind fun t => if t = true then F8.l0 k l ((i + 1 : Nat) : Int) else some false)
   (fun k => by rw [F8.l0, if_pos (by omega), if_pos (by omega), aU9 _ _ _ hlt, Y5 (x := (i : Int) + 1) (by omega) (by omega)]; rfl) ?_
  rw [List.drop_eq_getElem_cons hlt, List.all_cons]
  have h1 := bO4 l[i] (hs _ (List.getElem_mem hlt))
  cases hb : aJ5 l[i]
  ·rw [hb] at h1
   exact Ev.call h1 (h := fun _ => some false) (fun n => by rw [if_neg (by decide)]) (Ev.now _)
  ·rw [hb] at h1
   rw [Bool.true_and]
   exact Ev.call h1 (fun n => by rw [if_pos rfl]) (ih (i + 1) (by omega))
theorem be6 (l : List ByteArray) (hl : l.length ≤ 1099511627776) (hs : ∀ s ∈ l, s.size ≤ 1099511627776) : Ev (fun k => F8.f k l) (ae3 l) := by
 have h := bZ5 l hl hs l.length 0 (by omega)
 unfold ae3
 rw [Bool.and_comm]
 exact h
theorem aL2 (u d : ByteArray) : K1.f u d = some (a43 u d) := by
 unfold K1.f a43
 by_cases h : u.toList = []
 ·rw [if_pos h, h]; rfl
 ·rw [if_neg h, beq_eq_false_iff_ne.2 h]; rfl
end Go.Proofs.YtbncnjgflhoneaaGreatDoor.Hand
