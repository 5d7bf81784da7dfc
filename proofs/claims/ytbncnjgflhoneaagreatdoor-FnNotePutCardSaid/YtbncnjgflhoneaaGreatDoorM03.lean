/- Of this claim, merged by program: HApart, F115, F114, HBody, F33, HLabel, HStr, F70, F34, F71, F38, F72, HMail, F57, F101, F134, F100, F55, Q1. -/
import Derived.Maps.OwnSet
import Derived.DeepKeys5
import Derived.Shelf.Strings.SlTrimAscii
import Derived.Test.YtbncnjgflhoneaaGreatDoorM02
namespace Go.Proofs.YtbncnjgflhoneaaGreatDoor.Hand
open Go.RowKit Go.Proofs.YtbncnjgflhoneaaGreatDoor.F Go.Proofs.YtbncnjgflhoneaaGreatDoorW.PrintWords Go.Proofs.YtbncnjgflhoneaaGreatDoorW.PrintLast Go.Proofs.YtbncnjgflhoneaaGreatDoorW.PrintMore
def sameB (a b : S32) : Bool := a.f0.data.toList == b.f0.data.toList && a.f1.data.toList == b.f1.data.toList
def apartB : List S32 → Bool
 | [] => true
 | a :: l => l.all (fun b => !sameB a b) && apartB l
def tinyB (s : ByteArray) : Bool := decide (s.size ≤ 1073741824)
theorem sameB_iff (a b : S32) : sameB a b = true ↔ a.f0 = b.f0 ∧ a.f1 = b.f1 := by
 have e : ∀ x y : ByteArray, (x.data.toList == y.data.toList) = true ↔ x = y := by
  intro x y
  rw [beq_iff_eq]
  constructor
  ·intro h
   cases x; cases y
   simpa using h
  ·rintro rfl; rfl
 unfold sameB
 rw [Bool.and_eq_true, e, e]
theorem laidB : laidOutB Tryz.prog = true := by kernel_rfl
theorem keyed : Maps.Keyed Tryz.prog 32 := Maps.Keyed.of_law (deep_law_gate laidB (of_decide_eq_true (by kernel_rfl)) (of_decide_eq_true (by kernel_rfl)) (by kernel_rfl) (by kernel_rfl))
theorem key_addr (u d : ByteArray) (hu : u.size ≤ maxLen) (hd : d.size ≤ maxLen) : ∃ l, keyOf Tryz.prog 32 (.agg #[.string u, .string d]) = some l := by
 have k1 : Tryz.prog.keyType 32 = true := by kernel_rfl
 have k2 : Tryz.prog.cellsOf 32 = 2 := by kernel_rfl
 have k3 : Tryz.prog.cellsOf 9 = 1 := by kernel_rfl
 obtain ⟨n, k4⟩ : ∃ n, Tryz.prog.types.size + 1 = n + 1 + 1 := ⟨Tryz.prog.types.size - 1, by kernel_rfl⟩
 unfold keyOf
 rw [Tryz.underlying32, k4]
 simp only [k1, Value.formed, Tryz.underlying32, k2, Value.cells, Program.keyLits]
 simp [k3, Tryz.underlying9, hu, hd]
set_option maxRecDepth 100000 in
noncomputable def keyL (a : S32) : Lit := (keyOf Tryz.prog 32 (.agg #[.string a.f0, .string a.f1])).getD (.bool false)
def Tiny (a : S32) : Prop := a.f0.size ≤ 1073741824 ∧ a.f1.size ≤ 1073741824
set_option maxRecDepth 100000 in
theorem keyL_of (a : S32) (h : Tiny a) : keyOf Tryz.prog 32 (.agg #[.string a.f0, .string a.f1]) = some (keyL a) := by
 obtain ⟨l, hl⟩ := key_addr a.f0 a.f1 (by have := h.1; unfold maxLen; omega) (by have := h.2; unfold maxLen; omega)
 unfold keyL
 rw [hl]
 rfl
set_option maxRecDepth 100000 in
theorem keyL_lit (a : S32) (h : Tiny a) : WideAt.IsKeyLit (keyL a) := keyed.key (keyL_of a h)
set_option maxRecDepth 100000 in
theorem keyL_same (a b : S32) (ha : Tiny a) (hb : Tiny b) : (keyL a).sameKey (keyL b) = sameB a b := by
 rw [Bool.eq_iff_iff, sameB_iff]
 constructor
 ·intro h
  have e := WideAt.sameKey_eq h
  have h2 := keyL_of b hb
  rw [← e] at h2
  have := keyed.inj (keyL_of a ha) h2
  simpa using this
 ·rintro ⟨h1, h2⟩
  have e : keyL a = keyL b := by unfold keyL; rw [h1, h2]
  rw [e]
  exact WideAt.sameKey_self (keyL_lit b hb)
theorem fold_len : ∀ (xs acc : List Lit), (xs.foldl Maps.addKey acc).length ≤ acc.length + xs.length ∧
  ((xs.foldl Maps.addKey acc).length = acc.length + xs.length ↔ xs.Pairwise (fun a b => a.sameKey b = false) ∧ ∀ x ∈ xs, acc.any (fun y => y.sameKey x) = false)
 | [], acc => by simp
 | x :: xs, acc => by
  simp only [List.foldl_cons, List.length_cons]
  by_cases h : acc.any (fun y => y.sameKey x) = true
  ·have e : Maps.addKey acc x = acc := by unfold Maps.addKey; rw [if_pos h]
   rw [e]
   obtain ⟨h1, _⟩ := fold_len xs acc
   refine ⟨by omega, ⟨fun hh => by omega, fun hh => ?_⟩⟩
   have := hh.2 x (by simp)
   rw [h] at this
   cases this
  ·have h' := Bool.eq_false_iff.2 h
   have e : Maps.addKey acc x = acc ++ [x] := by unfold Maps.addKey; rw [if_neg h]
   rw [e]
   obtain ⟨h1, h2⟩ := fold_len xs (acc ++ [x])
   rw [List.length_append, List.length_singleton] at h1 h2
   refine ⟨by omega, ?_⟩
   rw [show acc.length + (xs.length + 1) = acc.length + 1 + xs.length by omega, h2]
   simp only [List.any_append, List.any_cons, List.any_nil, Bool.or_false, List.pairwise_cons, List.mem_cons, Bool.or_eq_false_iff]
   constructor
   ·rintro ⟨p, q⟩
    exact ⟨⟨fun y hy => (q y hy).2, p⟩, fun y hy => by
     rcases hy with rfl | hy
     ·exact h'
     ·exact (q y hy).1⟩
   ·rintro ⟨⟨p, q⟩, s⟩
    exact ⟨q, fun y hy => ⟨s y (.inr hy), p y hy⟩⟩
set_option maxRecDepth 100000 in
theorem apart_iff : ∀ l : List S32, (∀ a ∈ l, Tiny a) → (apartB l = true ↔ (l.map keyL).Pairwise (fun a b => a.sameKey b = false))
 | [], _ => by simp [apartB]
 | a :: l, h => by
  rw [apartB, Bool.and_eq_true, List.map_cons, List.pairwise_cons, apart_iff l (fun b hb => h b (by simp [hb])), List.all_eq_true]
  refine and_congr_left fun _ => ?_
  constructor
  ·intro hh x hx
   obtain ⟨b, hb, rfl⟩ := List.mem_map.1 hx
   rw [keyL_same a b (h a (by simp)) (h b (by simp [hb]))]
   simpa using hh b hb
  ·intro hh b hb
   have := hh _ (List.mem_map_of_mem hb)
   rw [keyL_same a b (h a (by simp)) (h b (by simp [hb]))] at this
   simp [this]
def yes : DataW Unit := .lit (.bool true)
noncomputable def seen (l : List S32) : DataW Unit := Maps.setOf yes (l.map keyL)
set_option maxRecDepth 100000 in
theorem seen_size (l : List S32) (h : ∀ a ∈ l, Tiny a) : decide (Maps.size (seen l) = l.length) = apartB l := by
 have hk : ∀ x ∈ l.map keyL, WideAt.IsKeyLit x := by
  intro x hx
  obtain ⟨b, hb, rfl⟩ := List.mem_map.1 hx
  exact keyL_lit b (h b hb)
 have h2 := (fold_len (l.map keyL) []).2
 rw [Bool.eq_iff_iff, decide_eq_true_iff, apart_iff l h]
 unfold seen
 rw [Maps.size_setOf _ _ hk]
 simpa using h2
set_option maxRecDepth 100000 in
theorem seen_snoc (l : List S32) (a : S32) : seen (l ++ [a]) = (seen l).put (keyL a) yes := by
 unfold seen
 rw [List.map_append, List.map_singleton, Maps.setOf_snoc]
theorem rd_T32_mem (l : List S32) (k : Nat) (h : k < l.length) : rd_T32 l (k : Int) = l[k] := by
 unfold rd_T32
 simp [List.getD_eq_getElem?_getD, h]
def Has (w : World) (l : List S32) (k : Nat) (wr : World) : Prop := wr.ownsMap Tryz.prog 32 (plainElem (H := Unit) Tryz.prog 4) w.heap.size k (seen (l.take k)) ∧ Below w.heap.size w wr
set_option maxHeartbeats 1000000 in
set_option maxRecDepth 100000 in
theorem distinct_calls (A0 : Option Addr) (c0 : Nat) (l0 : List S32) (w : World) (hr0 : Kd.C k32 w A0 l0.length l0) (ht : ∀ a ∈ l0, Tiny a) :
  Calls Tryz.prog 74 #[.slice A0 l0.length c0] w fun e w' => e = .returned (.bool (apartB l0)) ∧ Below w.heap.size w w' := by
 have hm := hr0.2.1
 have HR0 := Aside0.mk hr0
 have HT := Aside0.mk ht
 have HS := Aside0.mk (seen_size l0 ht)
 clear hr0 ht
 have hmm := @run_makeMap Tryz.prog
 have hu32 := Tryz.underlying32
 have H0 := Aside0.mk (show Has w l0 0 (w.alloc (.map #[] 0)) from ⟨World.ownsMap_made _ _ _ _, (Below.refl _ _).alloc (Nat.le_refl _) _⟩)
 go_enter Tryz.func74, Tryz.ntmps74
 go_wp2
 go_loopw [9] (fun i wr => ∃ k : Nat, k ≤ l0.length ∧ i = .int .i64 k ∧ Aside0 (Has w l0 k wr)) (fun i _ => l0.length - (intOf i).toNat)
 case atStart => exact ⟨0, by omega, rfl, H0⟩
 case round =>
  clear H0
  obtain ⟨k, hk, rfl, HH⟩ := hrel
  by_cases hlt : k < l0.length
  ·obtain ⟨ad, e, hx0, hx1⟩ := at_T32 HR0.out k (by omega) (by omega)
   cases e
   rw [rd_T32_mem _ _ hlt, Int.toNat_natCast] at hx0 hx1
   replace hx0 := (HH.out.2.cell (World.block_lt_of_cell? w _ hx0)).trans hx0
   replace hx1 := (HH.out.2.cell (World.block_lt_of_cell? w _ hx1)).trans hx1
   have HK := Aside0.mk (keyL_of _ (HT.out _ (List.getElem_mem hlt)))
   have HE := Aside0.mk (show seen (l0.take (k + 1)) = (seen (l0.take k)).put (keyL l0[k]) yes by rw [List.take_succ_eq_append_getElem hlt, seen_snoc])
   generalize l0[k] = a at hx0 hx1 HK HE
   go_wp2_with (at_mapUpdate; refine wpList_mapUpdate_own _ rfl _ _ _ 132 rfl 32 4 keyed Tryz.underlying132 (plainElem (H := Unit) Tryz.prog 4) w.heap.size k (seen (l0.take k)) rfl (HH.out.1.alloc _) (by unfold maxLen; omega) _ (.bool true) (keyL a) rfl rfl HK.out yes [] (by simp [plainElem, Tryz.underlying4, yes]) ?_; intro w1 hown1 hgrow1; have HO := Aside0.mk hown1; have HG := Aside0.mk hgrow1; clear hown1 hgrow1)
   go_roundw
   case rel => exact ⟨k + 1, by omega, by go_num, ⟨⟨by rw [HE.out]; exact HO.out, (HH.out.2.alloc HH.out.2.size _).grown HG.out (by have := HH.out.2.size; simp; omega) (fun j hj => by injection hj with hj; omega)⟩⟩⟩
   case measure => simp [intOf]; omega
  ·obtain rfl : k = l0.length := by omega
   clear hlt
   have hown := HH.out.1
   rw [List.take_length] at hown
   have HO := Aside0.mk hown
   clear hown
   obtain ⟨n, hn⟩ : ∃ n, Maps.size (seen l0) = n := ⟨_, rfl⟩
   have hb := HS.out
   rw [hn] at hb
   cases hr : apartB l0
   all_goals
    rw [hr] at hb
    have HR := Aside0.mk hr
    clear hr HS
   ·have d0 : ((n : Int) == (l0.length : Int)) = false := by
     have := of_decide_eq_false hb
     exact beq_eq_false_iff_ne.2 (by omega)
    have d1 : (n == l0.length) = false := beq_eq_false_iff_ne.2 (of_decide_eq_false hb)
    clear hb
    go_wp2_with (at_len; refine wpList_len_own _ rfl _ 132 rfl 32 4 Tryz.underlying132 (plainElem (H := Unit) Tryz.prog 4) w.heap.size l0.length (seen l0) rfl HO.out ?_)
    go_ret
    exact ⟨by rw [HR.out]; rfl, HH.out.2⟩
   ·have d0 : ((n : Int) == (l0.length : Int)) = true := beq_iff_eq.2 (by have := of_decide_eq_true hb; omega)
    have d1 : (n == l0.length) = true := beq_iff_eq.2 (of_decide_eq_true hb)
    clear hb
    go_wp2_with (at_len; refine wpList_len_own _ rfl _ 132 rfl 32 4 Tryz.underlying132 (plainElem (H := Unit) Tryz.prog 4) w.heap.size l0.length (seen l0) rfl HO.out ?_)
    go_ret
    exact ⟨by rw [HR.out]; rfl, HH.out.2⟩
end Go.Proofs.YtbncnjgflhoneaaGreatDoor.Hand
namespace Go.Proofs.YtbncnjgflhoneaaGreatDoor.F
open Go.RowKit Go.Proofs.YtbncnjgflhoneaaGreatDoor.Hand Go.Proofs.YtbncnjgflhoneaaGreatDoorW.PrintWords Go.Proofs.YtbncnjgflhoneaaGreatDoorW.PrintLast Go.Proofs.YtbncnjgflhoneaaGreatDoorW.PrintMore
set_option linter.unusedVariables false
set_option linter.unusedSimpArgs false
def impl_isLine.l0 : Nat → ByteArray → Int → Int → Option (Bool)
 | 0, _, _, _ => none
 | k + 1, x0, x5, x6 => if x6 < x5 then (if 0 ≤ x6 then (if x6 < (x0.size : Int) then (if (bt x0 x6) < 32 then (some false) else (if (bt x0 x6) > 126 then (some false) else (impl_isLine.l0 k x0 x5 (wrap64 (x6 + 1))))) else (none)) else (none)) else (some (decide ((x0.size : Int) ≤ 40)))
def impl_isLine.f (k : Nat) (a0 : ByteArray) : Option (Bool) := impl_isLine.l0 k a0 (a0.size : Int) 0
set_option maxHeartbeats 8000000 in
set_option maxRecDepth 100000 in
theorem impl_isLine.calls (k : Nat) (a0 : ByteArray) (r : Bool) (w : World) (h : impl_isLine.f k a0 = some r) :
  Calls Tryz.prog 115 #[.string a0] w fun e w' => e = .returned (.bool r) ∧ Drawn0 w w' := by
 have H := h
 clear h
 unfold impl_isLine.f at H
 have H' := Aside0.mk H
 clear H
 go_enter Tryz.func115, Tryz.ntmps115
 go_wp2
 go_loopg [6] k (fun kq v6 w' => ∃ (x6_1 : Int), v6 = .int .i64 x6_1 ∧ Aside0 (impl_isLine.l0 kq a0 (a0.size : Int) x6_1 = some r) ∧ Aside0 (kq ≤ k) ∧ Drawn0 w w')
 case atStart => exact ⟨(0), zs, H', ⟨Nat.le_refl _⟩, zD⟩
 case round =>
  clear H'
  obtain ⟨x6_1, rfl, HA, HK1, ⟨m1, rfl⟩⟩ := hrel
  cases gk with
  | zero => exact absurd HA.out (by simp [impl_isLine.l0])
  | succ k1 =>
   have H := HA.out
   clear HA
   simp only [impl_isLine.l0] at H
   replace H := its_d_d H; rcases H with ⟨c2b0, H⟩ | ⟨c2b0, H⟩
   ·replace H := itn_d H; obtain ⟨c3b0, H⟩ := H
    replace H := itn_d H; obtain ⟨c4b0, H⟩ := H
    replace H := its_d_d H; rcases H with ⟨c6b0, H⟩ | ⟨c6b0, H⟩
    ·obtain rfl := Option.some.inj H
     have p5 : 0 ≤ (x6_1 : Int) := of_decide_eq_true za
     have q5 : x6_1 < (a0.size : Int) := of_decide_eq_true za
     have hx5 := bt_at a0 x6_1
     replace p5 := eq_true p5
     replace q5 := eq_true q5
     go_wp2
     go_ret
     exact ⟨zs, zD⟩
    ·replace H := its_d_d H; rcases H with ⟨c8b0, H⟩ | ⟨c8b0, H⟩
     ·obtain rfl := Option.some.inj H
      have p5 : 0 ≤ (x6_1 : Int) := of_decide_eq_true za
      have q5 : x6_1 < (a0.size : Int) := of_decide_eq_true za
      have hx5 := bt_at a0 x6_1
      replace p5 := eq_true p5
      replace q5 := eq_true q5
      have p7 : 0 ≤ (x6_1 : Int) := of_decide_eq_true za
      have q7 : x6_1 < (a0.size : Int) := of_decide_eq_true za
      have hx7 := bt_at a0 x6_1
      replace p7 := eq_true p7
      replace q7 := eq_true q7
      go_wp2
      go_ret
      exact ⟨zs, zD⟩
     ·have H' := Aside0.mk H
      clear H
      have p5 : 0 ≤ (x6_1 : Int) := of_decide_eq_true za
      have q5 : x6_1 < (a0.size : Int) := of_decide_eq_true za
      have hx5 := bt_at a0 x6_1
      replace p5 := eq_true p5
      replace q5 := eq_true q5
      have p7 : 0 ≤ (x6_1 : Int) := of_decide_eq_true za
      have q7 : x6_1 < (a0.size : Int) := of_decide_eq_true za
      have hx7 := bt_at a0 x6_1
      replace p7 := eq_true p7
      replace q7 := eq_true q7
      go_wp2
      go_roundg k1
      case measure => have := HK1.out; omega
      case rel => exact ⟨(wrap64 (x6_1 + 1)), zs, H', ⟨by have := HK1.out; omega⟩, zD⟩
   ·obtain rfl := Option.some.inj H
    go_wp2
    go_ret
    exact ⟨zs, zD⟩
def impl_isBody_1.f (k : Nat) (a0 : ByteArray) : Option (Bool) := (impl_isLine.f k a0).bind fun t101 => (some (!t101))
set_option maxHeartbeats 8000000 in
set_option maxRecDepth 100000 in
theorem impl_isBody_1.calls (k : Nat) (a0 : ByteArray) (r : Bool) (w : World) (h : impl_isBody_1.f k a0 = some r) :
  Calls Tryz.prog 114 #[.string a0] w fun e w' => e = .returned (.bool r) ∧ Drawn0 w w' := by
 have H := h
 clear h
 unfold impl_isBody_1.f at H
 replace H := bnd H; obtain ⟨t101, A2, H⟩ := H
 obtain rfl := Option.some.inj H
 go_enter Tryz.func114, Tryz.ntmps114
 go_wp2_with (first | ((with_reducible refine gate_callee (f := 115) rfl ?_); refine gv 4 Tryz.func115 _ (impl_isLine.calls (w := _) (h := A2.out)) ?_; rintro w' ⟨nd, rfl⟩))
 go_ret
 exact ⟨zs, zD⟩
end Go.Proofs.YtbncnjgflhoneaaGreatDoor.F
namespace Go.Proofs.YtbncnjgflhoneaaGreatDoor.Hand
open Go.RowKit Go.Proofs.YtbncnjgflhoneaaGreatDoor.F Go.Proofs.YtbncnjgflhoneaaGreatDoorW.PrintWords Go.Proofs.YtbncnjgflhoneaaGreatDoorW.PrintLast Go.Proofs.YtbncnjgflhoneaaGreatDoorW.PrintMore
def smallB (s : ByteArray) : Bool := decide (s.size ≤ 1099511627776)
def signB (c : UInt8) : Bool := 32 ≤ c && c ≤ 126
def lineB (s : ByteArray) : Bool := s.data.toList.all signB && decide (s.size ≤ 40)
def bodyB (l : List ByteArray) : Bool := decide (l.length ≤ 12) && l.all lineB
def impl_isBody.f (l : List ByteArray) : Option Bool := if l.all smallB = true then some (bodyB l) else none
theorem wrapIn {x : Int} (h0 : 0 ≤ x) (h1 : x ≤ 9223372036854775807) : wrap64 x = x := by
 unfold wrap64
 omega
theorem bt_get (s : ByteArray) (i : Nat) (h : i < s.data.toList.length) : bt s i = ((s.data.toList[i]).toNat : Int) := by
 have h' : i < s.size := by rw [data_length] at h; exact h
 unfold bt
 rw [dif_pos (by simpa using h')]
 simp [ByteArray.getElem_eq_getElem_data]
theorem line_from (s : ByteArray) (hs : s.size ≤ 1099511627776) : ∀ (d i k : Nat), s.size = i + d → d < k → impl_isLine.l0 k s (s.size : Int) (i : Int) = some ((s.data.toList.drop i).all signB && decide (s.size ≤ 40)) := by
 intro d
 induction d with
 | zero =>
  intro i k hi hk
  obtain ⟨k, rfl⟩ : ∃ m, k = m + 1 := ⟨k - 1, by omega⟩
  rw [impl_isLine.l0, if_neg (by omega), List.drop_eq_nil_of_le (by rw [data_length]; omega), List.all_nil, Bool.true_and]
  exact congrArg some (decide_eq_decide.2 (by omega))
 | succ d ih =>
  intro i k hi hk
  obtain ⟨k, rfl⟩ : ∃ m, k = m + 1 := ⟨k - 1, by omega⟩
  have hl : i < s.data.toList.length := by rw [data_length]; omega
  rw [impl_isLine.l0, if_pos (by omega), if_pos (by omega), if_pos (by omega), bt_get s i hl, List.drop_eq_getElem_cons hl, List.all_cons]
  have h1 : signB s.data.toList[i] = (decide (32 ≤ (s.data.toList[i]).toNat) && decide ((s.data.toList[i]).toNat ≤ 126)) := rfl
  by_cases a : ((s.data.toList[i]).toNat : Int) < 32
  ·rw [if_pos a, h1, decide_eq_false (by omega)]
   rfl
  rw [if_neg a]
  by_cases b : ((s.data.toList[i]).toNat : Int) > 126
  ·rw [if_pos b, h1, decide_eq_false (p := (s.data.toList[i]).toNat ≤ 126) (by omega), Bool.and_false]
   rfl
  rw [if_neg b, h1, decide_eq_true (by omega), decide_eq_true (by omega), wrapIn (by omega) (by omega)]
  exact ih (i + 1) k (by omega) (by omega)
theorem line_tells (s : ByteArray) (hs : s.size ≤ 1099511627776) : impl_isLine.f (s.size + 1) s = some (lineB s) := line_from s hs s.size 0 _ (by omega) (by omega)
theorem notline_tells (s : ByteArray) (hs : s.size ≤ 1099511627776) : impl_isBody_1.f (s.size + 1) s = some (!lineB s) := by
 unfold impl_isBody_1.f
 rw [line_tells s hs]
 rfl
theorem rdOf_mem {α : Type} (d : α) (l : List α) (k : Nat) (h : k < l.length) : rdOf d l (k : Int) = l[k] := by
 unfold rdOf
 simp [List.getD_eq_getElem?_getD, h]
set_option maxHeartbeats 1000000 in
set_option maxRecDepth 100000 in
theorem index_calls (A0 : Option Addr) (c0 : Nat) (l0 : List ByteArray) (w : World) (hr0 : Kd.C Kd.string w A0 l0.length l0) (hs : ∀ s ∈ l0, s.size ≤ 1099511627776) :
  Calls Tryz.prog 148 #[.slice A0 l0.length c0, .func (Fn.func 114) #[] #[]] w fun e w' => ∃ v : Int, e = .returned (.int .i64 v) ∧ (decide (0 ≤ v) = !l0.all lineB) ∧ Drawn0 w w' := by
 have hm := hr0.2.1
 have HR0 := Aside0.mk hr0
 have HS := Aside0.mk hs
 clear hr0 hs
 go_enter Tryz.func148, Tryz.ntmps148
 go_wp2
 go_loopw [8] (fun i wr => ∃ k : Nat, k ≤ l0.length ∧ i = .int .i64 k ∧ Aside0 ((l0.take k).all lineB = true) ∧ Drawn0 w wr) (fun i _ => l0.length - (intOf i).toNat)
 case atStart => exact ⟨0, by omega, rfl, ⟨by simp⟩, Drawn0.refl _⟩
 case round =>
  obtain ⟨k, hk, rfl, HA, ⟨m, rfl⟩⟩ := hrel
  by_cases hlt : k < l0.length
  ·obtain ⟨ad, e, hx⟩ := Kd.at_string HR0.out k (by omega) (by omega)
   cases e
   rw [rdOf_mem _ _ _ hlt, Int.toNat_natCast] at hx
   have hz : (l0[k]).size ≤ 1099511627776 := HS.out _ (List.getElem_mem hlt)
   have ht : l0.take (k + 1) = l0.take k ++ [l0[k]] := List.take_succ_eq_append_getElem hlt
   have HL := Aside0.mk (notline_tells _ hz)
   by_cases hb : lineB l0[k] = true
   ·rw [hb] at HL
    have HN := Aside0.mk (show (l0.take (k + 1)).all lineB = true by rw [ht, List.all_append, HA.out]; simp [hb])
    clear ht hz hb
    go_wp2_with (go_at_call 114; (with_reducible refine (impl_isBody_1.calls _ _ (!true) _ HL.out).mono ?_); rintro e w' ⟨rfl, ⟨nd, rfl⟩⟩)
    go_roundw
    case rel => exact ⟨k + 1, by omega, by go_num, HN, by repeat (first | exact Drawn0.refl _ | apply Drawn0.step)⟩
    case measure => simp [intOf]; omega
   ·have hb := Bool.eq_false_iff.2 hb
    rw [hb] at HL
    have HN := Aside0.mk (show l0.all lineB = false by
     rw [Bool.eq_false_iff]
     intro h
     have := (List.all_eq_true.1 h) _ (List.getElem_mem hlt)
     rw [hb] at this
     cases this)
    clear ht hz hb
    go_wp2_with (go_at_call 114; (with_reducible refine (impl_isBody_1.calls _ _ (!false) _ HL.out).mono ?_); rintro e w' ⟨rfl, ⟨nd, rfl⟩⟩)
    go_ret
    exact ⟨_, rfl, by rw [HN.out]; simp, by repeat (first | exact Drawn0.refl _ | apply Drawn0.step)⟩
  ·obtain rfl : k = l0.length := by omega
   have HN := Aside0.mk (show l0.all lineB = true by have := HA.out; rwa [List.take_length] at this)
   clear hlt
   go_wp2
   go_ret
   exact ⟨_, rfl, by rw [HN.out]; rfl, by repeat (first | exact Drawn0.refl _ | apply Drawn0.step)⟩
set_option maxHeartbeats 1000000 in
set_option maxRecDepth 100000 in
theorem contains_calls (A0 : Option Addr) (c0 : Nat) (l0 : List ByteArray) (w : World) (hr0 : Kd.C Kd.string w A0 l0.length l0) (hs : ∀ s ∈ l0, s.size ≤ 1099511627776) :
  Calls Tryz.prog 113 #[.slice A0 l0.length c0, .func (Fn.func 114) #[] #[]] w fun e w' => e = .returned (.bool (!l0.all lineB)) ∧ Drawn0 w w' := by
 have HR0 := Aside0.mk hr0
 have HS := Aside0.mk hs
 clear hr0 hs
 go_enter Tryz.func113, Tryz.ntmps113
 go_wp2_with (go_at_call 148; refine (index_calls A0 c0 l0 _ HR0.out HS.out).mono ?_; rintro e w' ⟨v, rfl, hv, ⟨nd, rfl⟩⟩)
 go_ret
 exact ⟨rfl, by repeat (first | exact Drawn0.refl _ | apply Drawn0.step)⟩
set_option maxHeartbeats 1000000 in
set_option maxRecDepth 100000 in
theorem impl_isBody.calls (A0 : Option Addr) (c0 : Nat) (l0 : List ByteArray) (r : Bool) (w : World) (hr0 : Kd.C Kd.string w A0 l0.length l0) (_hc0 : l0.length ≤ c0) (h : impl_isBody.f l0 = some r) :
  Calls Tryz.prog 75 #[.slice A0 l0.length c0] w fun e w' => e = .returned (.bool r) ∧ Drawn0 w w' := by
 unfold impl_isBody.f at h
 split at h
 ·rename_i hs
  have hs : ∀ s ∈ l0, s.size ≤ 1099511627776 := fun s hm => by simpa [smallB] using List.all_eq_true.1 hs s hm
  have HS := Aside0.mk hs
  have HR0 := Aside0.mk hr0
  clear hs hr0
  injection h with h
  unfold bodyB at h
  by_cases c1 : l0.length ≤ 12
  ·rw [decide_eq_true c1, Bool.true_and] at h
   subst h
   have c1b0 : decide ((l0.length : Int) ≤ 12) = true := decide_eq_true (by omega)
   have c1b1 : decide (l0.length ≤ 12) = true := decide_eq_true c1
   clear c1
   go_enter Tryz.func75, Tryz.ntmps75
   go_wp2_with (go_at_call 113; refine (contains_calls A0 c0 l0 _ HR0.out HS.out).mono ?_; rintro e w' ⟨rfl, ⟨nd, rfl⟩⟩)
   go_ret
   exact ⟨by first | rfl | simp, by repeat (first | exact Drawn0.refl _ | apply Drawn0.step)⟩
  ·rw [decide_eq_false c1, Bool.false_and] at h
   subst h
   have c1b0 : decide ((l0.length : Int) ≤ 12) = false := decide_eq_false (by omega)
   have c1b1 : decide (l0.length ≤ 12) = false := decide_eq_false c1
   clear c1
   go_enter Tryz.func75, Tryz.ntmps75
   go_wp2
   go_ret
   exact ⟨rfl, Drawn0.refl _⟩
 ·cases h
end Go.Proofs.YtbncnjgflhoneaaGreatDoor.Hand
namespace Go.Proofs.YtbncnjgflhoneaaGreatDoor.F
open Go.RowKit Go.Proofs.YtbncnjgflhoneaaGreatDoor.Hand Go.Proofs.YtbncnjgflhoneaaGreatDoorW.PrintWords Go.Proofs.YtbncnjgflhoneaaGreatDoorW.PrintLast Go.Proofs.YtbncnjgflhoneaaGreatDoorW.PrintMore
set_option linter.unusedVariables false
set_option linter.unusedSimpArgs false
def impl_within.f (a0 : Int) (a1 : Int) (a2 : Int) : Option (Bool) := if a0 ≥ a1 then (some (decide (a0 ≤ a2))) else (some false)
set_option maxHeartbeats 8000000 in
set_option maxRecDepth 100000 in
theorem impl_within.calls (a0 : Int) (a1 : Int) (a2 : Int) (r : Bool) (w : World) (h : impl_within.f a0 a1 a2 = some r) :
  Calls Tryz.prog 33 #[.int .i64 a0, .int .i64 a1, .int .i64 a2] w fun e w' => e = .returned (.bool r) ∧ Drawn0 w w' := by
 have H := h
 clear h
 unfold impl_within.f at H
 replace H := its_d_d H; rcases H with ⟨c4b0, H⟩ | ⟨c4b0, H⟩
 ·obtain rfl := Option.some.inj H
  go_enter Tryz.func33, Tryz.ntmps33
  go_wp2
  go_ret
  exact ⟨zs, zD⟩
 ·obtain rfl := Option.some.inj H
  go_enter Tryz.func33, Tryz.ntmps33
  go_wp2
  go_ret
  exact ⟨zs, zD⟩
end Go.Proofs.YtbncnjgflhoneaaGreatDoor.F
namespace Go.Proofs.YtbncnjgflhoneaaGreatDoor.Hand
open Go.RowKit Go.Proofs.YtbncnjgflhoneaaGreatDoor.F Go.Proofs.YtbncnjgflhoneaaGreatDoorW.PrintWords Go.Proofs.YtbncnjgflhoneaaGreatDoorW.PrintLast Go.Proofs.YtbncnjgflhoneaaGreatDoorW.PrintMore
def letterB (c : UInt8) : Bool := (97 ≤ c && c ≤ 122) || (48 ≤ c && c ≤ 57)
def labelB (s : ByteArray) : Bool := decide (1 ≤ s.size ∧ s.size ≤ 8) && s.data.toList.all letterB
def impl_isLabel.f (s : ByteArray) : Option Bool := some (labelB s)
theorem bel_drewN (w : World) (n : Nat) : Below w.heap.size w (w.drewN n) := ⟨rfl, rfl, rfl, Nat.le_refl _, fun _ _ => rfl⟩
def signs : ByteArray := ⟨#[97, 98, 99, 100, 101, 102, 103, 104, 105, 106, 107, 108, 109, 110, 111, 112, 113, 114, 115, 116, 117, 118, 119, 120, 121, 122, 48, 49, 50, 51, 52, 53, 54, 55, 56, 57]⟩
theorem signs_letter (c : UInt8) : signs.data.toList.contains c = letterB c := by
 have h : ∀ n : Fin 256, signs.data.toList.contains (UInt8.ofNat n.val) = letterB (UInt8.ofNat n.val) := by decide +kernel
 have := h ⟨c.toNat, c.toNat_lt⟩
 simpa using this
theorem dropWhile_nil {α : Type} (p : α → Bool) : ∀ l : List α, l.dropWhile p = [] ↔ l.all p = true
 | [] => by simp
 | a :: l => by
  rw [List.dropWhile_cons]
  by_cases h : p a = true
  ·rw [if_pos h, dropWhile_nil p l]; simp [h]
  ·rw [if_neg h]; simp [h]
theorem dropWhile_all {α : Type} (p : α → Bool) : ∀ l : List α, (l.dropWhile p).all p = l.all p
 | [] => rfl
 | a :: l => by
  rw [List.dropWhile_cons]
  by_cases h : p a = true
  ·rw [if_pos h, dropWhile_all p l]; simp [h]
  ·rw [if_neg h]
theorem trim_nil (l : List UInt8) : Lib.trimS l signs.data.toList = [] ↔ l.all letterB = true := by
 have e : (fun c => signs.data.toList.contains c) = letterB := funext signs_letter
 unfold Lib.trimS Lib.trimLeftS Lib.trimRightS
 rw [e, dropWhile_nil, List.all_reverse, dropWhile_all, List.all_reverse]
theorem trim_calls (s : ByteArray) (w : World) (hs : s.size ≤ 8) :
  Calls Tryz.prog 111 #[.string s, .string signs] w fun e w' => e = .returned (.string ⟨(Lib.trimS s.data.toList signs.data.toList).toArray⟩) ∧ Below w.heap.size w w' :=
 Any.strings_Trim_laid Tryz.lays160 (by kernel_rfl) s signs w (by omega) (by decide) (ascii_of_all (by decide))
theorem trim_yes (s : ByteArray) (w : World) (hs : s.size ≤ 8) (h : s.data.toList.all letterB = true) :
  Calls Tryz.prog 111 #[.string s, .string signs] w fun e w' => e = .returned (.string ⟨#[]⟩) ∧ Below w.heap.size w w' := by
 refine (trim_calls s w hs).mono fun e w' ⟨h1, h2⟩ => ⟨?_, h2⟩
 rw [(trim_nil _).2 h] at h1
 exact h1
theorem trim_no (s : ByteArray) (w : World) (hs : s.size ≤ 8) (h : ¬ s.data.toList.all letterB = true) :
  Calls Tryz.prog 111 #[.string s, .string signs] w fun e w' => ∃ x : ByteArray, e = .returned (.string x) ∧ x.toList.isEmpty = false ∧ Below w.heap.size w w' := by
 refine (trim_calls s w hs).mono fun e w' ⟨h1, h2⟩ => ⟨_, h1, ?_, h2⟩
 rw [Lib.toList_data]
 cases hq : Lib.trimS s.data.toList signs.data.toList with
 | nil => exact absurd ((trim_nil _).1 hq) h
 | cons a l => simp
set_option maxHeartbeats 1000000 in
set_option maxRecDepth 100000 in
theorem impl_isLabel.calls (a0 : ByteArray) (r : Bool) (w : World) (h : impl_isLabel.f a0 = some r) :
  Calls Tryz.prog 69 #[.string a0] w fun e w' => e = .returned (.bool r) ∧ Below w.heap.size w w' := by
 have h := Option.some.inj h
 unfold labelB at h
 by_cases c1 : 1 ≤ a0.size ∧ a0.size ≤ 8
 ·rw [decide_eq_true c1, Bool.true_and] at h
  have hw := Aside0.mk (show impl_within.f (a0.size : Int) 1 8 = some true by unfold impl_within.f; rw [if_pos (by omega), decide_eq_true (by omega)])
  have h8 := Aside0.mk c1.2
  clear c1
  by_cases c2 : a0.data.toList.all letterB = true
  ·rw [c2] at h
   subst h
   have c2 := Aside0.mk c2
   go_enter Tryz.func69, Tryz.ntmps69
   go_wp2_with (first | (go_at_call 33; (with_reducible refine (impl_within.calls _ 1 8 true _ hw.out).mono ?_); rintro e w' ⟨rfl, ⟨nd, rfl⟩⟩) | (go_at_call 111; refine (trim_yes a0 _ h8.out c2.out).mono ?_; rintro e w1 ⟨rfl, hb⟩))
   go_ret
   exact ⟨rfl, (bel_drewN w nd).trans hb⟩
  ·rw [Bool.eq_false_iff.2 c2] at h
   subst h
   have c2 := Aside0.mk c2
   go_enter Tryz.func69, Tryz.ntmps69
   go_wp2_with (first | (go_at_call 33; (with_reducible refine (impl_within.calls _ 1 8 true _ hw.out).mono ?_); rintro e w' ⟨rfl, ⟨nd, rfl⟩⟩) | (go_at_call 111; refine (trim_no a0 _ h8.out c2.out).mono ?_; rintro e w1 ⟨x, rfl, hx, hb⟩))
   go_ret
   exact ⟨rfl, (bel_drewN w nd).trans hb⟩
 ·rw [decide_eq_false c1, Bool.false_and] at h
  subst h
  have hw := Aside0.mk (show impl_within.f (a0.size : Int) 1 8 = some false by
   unfold impl_within.f
   by_cases d : (a0.size : Int) ≥ 1
   ·rw [if_pos d, decide_eq_false (by omega)]
   ·rw [if_neg d])
  clear c1
  go_enter Tryz.func69, Tryz.ntmps69
  go_wp2_with (first | (go_at_call 33; (with_reducible refine (impl_within.calls _ 1 8 false _ hw.out).mono ?_); rintro e w' ⟨rfl, ⟨nd, rfl⟩⟩))
  go_ret
  exact ⟨rfl, bel_drewN w nd⟩
end Go.Proofs.YtbncnjgflhoneaaGreatDoor.Hand
namespace Go.Proofs.YtbncnjgflhoneaaGreatDoor.Hand
open Go.RowKit Go.Proofs.YtbncnjgflhoneaaGreatDoorW.PrintWords Go.Proofs.YtbncnjgflhoneaaGreatDoorW.PrintLast Go.Proofs.YtbncnjgflhoneaaGreatDoorW.PrintMore
def strings_Split.f (s sep : ByteArray) : Option (List ByteArray) := if s.size < 4294967281 ∧ 1 ≤ sep.size then some (Lib.splitB sep 0 (Lib.countB s sep) s) else none
theorem split_reps (r : List ByteArray) (w : World) (base : Nat) (ok : Nat → Prop) : Reps (Kd.string.M w base ok) Kd.string.sz r (r.map Value.string) := by
 refine ⟨by simp [Kd.string, Kd.scalar], fun j p hj => ?_⟩
 show ((r.map Value.string).drop (j * 1)).take 1 = [Value.string p]
 rw [Nat.mul_one]
 have hl := (List.getElem?_eq_some_iff.1 hj).1
 rw [List.take_one, List.head?_drop, List.getElem?_map, hj]
 rfl
theorem strings_Split.calls (a0 a1 : ByteArray) (r : List ByteArray) (w : World) (hG : Laid w) (h : strings_Split.f a0 a1 = some r) :
  Calls Tryz.prog 42 #[.string a0, .string a1] w fun e w' => ∃ v0_ : Value, e = .returned (v0_) ∧ Kd.R Kd.string 9 w' w.heap.size (fun _ => True) v0_ r ∧ Below w.heap.size w w' := by
 unfold strings_Split.f at h
 split at h
 ·rename_i hs
  obtain ⟨hs, h1⟩ := hs
  injection h with h
  have hl := Lib.splitB_all a1 h1 0 _ a0 rfl
  rw [h] at hl
  have hc : Lib.countB a0 a1 ≤ a0.size := Lib.countB_le a1 h1 _ a0 (Nat.le_refl _)
  obtain ⟨m, hm⟩ := hG.mx
  refine (Tryz.strings_Split a0 a1 m w hs hm h1).mono fun e w' ⟨he, hw⟩ => ?_
  rw [h] at hw
  subst hw
  rw [← hl] at he
  refine ⟨_, he, ⟨fun _ _ => trivial, OwnRow.lit w w.heap.size (by exact split_reps r w w.heap.size (fun _ => True)) (Nat.le_refl _) (by omega)⟩, (Below.refl _ _).alloc (Nat.le_refl _) _⟩
 ·cases h
def strings_Cut.f (s sep : ByteArray) : Option (ByteArray × ByteArray × Bool) := if s.size < 4294967281 then some (⟨(Lib.cut s.data.toList sep.data.toList).1.toArray⟩, ⟨(Lib.cut s.data.toList sep.data.toList).2.1.toArray⟩, (Lib.cut s.data.toList sep.data.toList).2.2) else none
theorem strings_Cut.calls (a0 a1 r1 r2 : ByteArray) (r3 : Bool) (w : World) (hG : Laid w) (h : strings_Cut.f a0 a1 = some (r1, r2, r3)) :
  Calls Tryz.prog 39 #[.string a0, .string a1] w fun e w' => e = .returned (.tuple #[.string r1, .string r2, .bool r3]) ∧ Drawn0 w w' := by
 unfold strings_Cut.f at h
 split at h
 ·rename_i hs
  injection h with h
  injection h with h1 h
  injection h with h2 h3
  subst h1 h2 h3
  obtain ⟨m, hm⟩ := hG.mx
  exact (Tryz.strings_Cut a0 a1 m w hs hm).mono fun e w' h => ⟨h.1, by obtain ⟨n, hn⟩ := h.2; exact ⟨n, hn⟩⟩
 ·cases h
end Go.Proofs.YtbncnjgflhoneaaGreatDoor.Hand
namespace Go.Proofs.YtbncnjgflhoneaaGreatDoor.F
open Go.RowKit Go.Proofs.YtbncnjgflhoneaaGreatDoor.Hand Go.Proofs.YtbncnjgflhoneaaGreatDoorW.PrintWords Go.Proofs.YtbncnjgflhoneaaGreatDoorW.PrintLast Go.Proofs.YtbncnjgflhoneaaGreatDoorW.PrintMore
set_option linter.unusedVariables false
set_option linter.unusedSimpArgs false
def impl_DomainOk.l0 : Nat → List ByteArray → List ByteArray → Int → Int → Option (Bool)
 | 0, _, _, _, _ => none
 | k + 1, x3, x8, x9, x10 => if x10 < x9 then (if 0 ≤ x10 then (if x10 < (x8.length : Int) then ((impl_isLabel.f (rdOf ByteArray.empty x8 x10)).bind fun t105 => (if t105 = true then (impl_DomainOk.l0 k x3 x8 x9 (wrap64 (x10 + 1))) else (some false))) else (none)) else (none)) else (some (decide ((x3.length : Int) ≤ 3)))
def impl_DomainOk.f (k : Nat) (a0 : ByteArray) : Option (Bool) := (strings_Split.f a0 (⟨#[46]⟩ : ByteArray)).bind fun t101 => (impl_DomainOk.l0 k t101 t101 (t101.length : Int) 0)
set_option maxHeartbeats 8000000 in
set_option maxRecDepth 100000 in
theorem impl_DomainOk.calls (k : Nat) (a0 : ByteArray) (r : Bool) (w : World) (hG : Laid w) (h : impl_DomainOk.f k a0 = some r) :
  Calls Tryz.prog 70 #[.string a0] w fun e w' => e = .returned (.bool r) ∧ Below w.heap.size w w' := by
 have HG := Aside0.mk hG
 clear hG
 have HB := Aside0.mk (Below.refl w.heap.size w)
 have H := h
 clear h
 unfold impl_DomainOk.f at H
 replace H := bnd H; obtain ⟨t101, A2, H⟩ := H
 have H' := Aside0.mk H
 clear H
 go_enter Tryz.func70, Tryz.ntmps70
 go_wp2_with (first | ((with_reducible refine gate_callee (f := 42) rfl ?_); refine gl 7 Tryz.func42 _ ((strings_Split.calls (w := _) (hG := gB) (h := A2.out)).mono ?_); rintro e w3 ⟨v102, rfl, ho0, hb⟩; refine ⟨_, rfl, ?_⟩; have HO103 := lS ho0; replace HB := bS hb; clear hb ho0; obtain ⟨Ao4, co4, eo4⟩ := Kd.R_slice HO103.out; subst eo4))
 go_loopg [10] k (fun kq v10 w' => ∃ (x10_1 : Int), v10 = .int .i64 x10_1 ∧ Aside0 (impl_DomainOk.l0 kq t101 t101 (t101.length : Int) x10_1 = some r) ∧ Aside0 (kq ≤ k) ∧ Aside0 (Kd.R Kd.string 9 w' w.heap.size (fun _ => True) (.slice Ao4 t101.length co4) t101) ∧ Aside0 (Kd.R Kd.string 9 w' w.heap.size (fun _ => True) (.slice Ao4 t101.length co4) t101) ∧ Aside0 (Below w.heap.size w w'))
 case atStart => exact ⟨(0), zs, H', ⟨Nat.le_refl _⟩, ⟨rO HO103⟩, ⟨rO HO103⟩, ⟨zB⟩⟩
 case round =>
  clear H'
  obtain ⟨x10_1, rfl, HA, HK1, HO_3, HO_8, HB⟩ := hrel
  cases gk with
  | zero => exact absurd HA.out (by simp [impl_DomainOk.l0])
  | succ k1 =>
   have H := HA.out
   clear HA
   simp only [impl_DomainOk.l0] at H
   replace H := its_d_d H; rcases H with ⟨c5b0, H⟩ | ⟨c5b0, H⟩
   ·replace H := itn_d H; obtain ⟨c6b0, H⟩ := H
    replace H := itn_d H; obtain ⟨c7b0, H⟩ := H
    replace H := bnd H; obtain ⟨t105, A8, H⟩ := H
    replace H := itb H; rcases H with ⟨rfl, H⟩ | ⟨rfl, H⟩
    ·have H' := Aside0.mk H
     clear H
     have p104 : 0 ≤ (x10_1 : Int) := of_decide_eq_true za
     have q104 : x10_1 < (t101.length : Int) := of_decide_eq_true za
     obtain ⟨ad104, e104, hx104_0⟩ := Kd.at_string (Kd.R_reads' HO_8.out).2.2 x10_1 p104 q104
     cases e104
     replace p104 := eq_true p104
     replace q104 := eq_true q104
     go_wp2_with (first | ((with_reducible refine gate_callee (f := 69) rfl ?_); refine gv 15 Tryz.func69 _ (impl_isLabel.calls (w := _) (h := A8.out)) ?_; intro w10 hb; replace HO_3 := rS HO_3 hb; replace HO_8 := rS HO_8 hb; replace HB := bS hb; clear hb))
     go_roundg k1
     case measure => have := HK1.out; omega
     case rel => exact ⟨(wrap64 (x10_1 + 1)), zs, H', ⟨by have := HK1.out; omega⟩, ⟨rO HO_3⟩, ⟨rO HO_8⟩, ⟨zB⟩⟩
    ·obtain rfl := Option.some.inj H
     have p104 : 0 ≤ (x10_1 : Int) := of_decide_eq_true za
     have q104 : x10_1 < (t101.length : Int) := of_decide_eq_true za
     obtain ⟨ad104, e104, hx104_0⟩ := Kd.at_string (Kd.R_reads' HO_8.out).2.2 x10_1 p104 q104
     cases e104
     replace p104 := eq_true p104
     replace q104 := eq_true q104
     go_wp2_with (first | ((with_reducible refine gate_callee (f := 69) rfl ?_); refine gv 15 Tryz.func69 _ (impl_isLabel.calls (w := _) (h := A8.out)) ?_; intro w11 hb; replace HO_3 := rS HO_3 hb; replace HO_8 := rS HO_8 hb; replace HB := bS hb; clear hb))
     go_ret
     exact ⟨zr, zB⟩
   ·obtain rfl := Option.some.inj H
    go_wp2
    go_ret
    exact ⟨zr, zB⟩
def impl_AddrOk.f (k : Nat) (a0_0 : ByteArray) (a0_1 : ByteArray) : Option (Bool) := (impl_isLabel.f a0_0).bind fun t102 => (if t102 = true then ((impl_DomainOk.f k a0_1).bind fun t103 => (some t103)) else (some false))
set_option maxHeartbeats 8000000 in
set_option maxRecDepth 100000 in
theorem impl_AddrOk.calls (k : Nat) (a0_0 : ByteArray) (a0_1 : ByteArray) (r : Bool) (w : World) (hG : Laid w) (h : impl_AddrOk.f k a0_0 a0_1 = some r) :
  Calls Tryz.prog 34 #[.agg #[.string a0_0, .string a0_1]] w fun e w' => e = .returned (.bool r) ∧ Below w.heap.size w w' := by
 have hu32 := Tryz.underlying32
 have HG := Aside0.mk hG
 clear hG
 have HB := Aside0.mk (Below.refl w.heap.size w)
 have H := h
 clear h
 unfold impl_AddrOk.f at H
 replace H := bnd H; obtain ⟨t102, A2, H⟩ := H
 replace H := itb H; rcases H with ⟨rfl, H⟩ | ⟨rfl, H⟩
 ·replace H := bnd H; obtain ⟨t103, A4, H⟩ := H
  obtain rfl := Option.some.inj H
  go_enter Tryz.func34, Tryz.ntmps34
  go_wp2_with (first | ((with_reducible refine gate_dst (N := 1) rfl ?_); refine bx (cs := #[.string a0_0, .string a0_1]) (t := 32) ?_; intro gb101 hg w5 hbox hb; have BK101 := Aside0.mk (hbox); have GW101 := gS hg; have GE101 := gS hg; replace HB := bS hb; clear hb hbox hg; have hcz6 := cz2 BK101.out; have hfz6 := fz2 BK101.out) | ((with_reducible refine gate_callee (f := 69) rfl ?_); refine gv 5 Tryz.func69 _ (impl_isLabel.calls (w := _) (h := A2.out)) ?_; intro w7 hb; replace BK101 := kS BK101 hb; replace HB := bS hb; clear hb; have hcz8 := cz2 BK101.out; have hfz8 := fz2 BK101.out) | (go_at_call 70; refine (impl_DomainOk.calls (w := _) (hG := gB) (h := A4.out)).mono ?_; rintro e w9 ⟨rfl, hb⟩; replace BK101 := kS BK101 hb; replace HB := bS hb; clear hb))
  go_ret
  exact ⟨zr, zB⟩
 ·obtain rfl := Option.some.inj H
  go_enter Tryz.func34, Tryz.ntmps34
  go_wp2_with (first | ((with_reducible refine gate_dst (N := 1) rfl ?_); refine bx (cs := #[.string a0_0, .string a0_1]) (t := 32) ?_; intro gb101 hg w10 hbox hb; have BK101 := Aside0.mk (hbox); have GW101 := gS hg; have GE101 := gS hg; replace HB := bS hb; clear hb hbox hg; have hcz11 := cz2 BK101.out; have hfz11 := fz2 BK101.out) | ((with_reducible refine gate_callee (f := 69) rfl ?_); refine gv 5 Tryz.func69 _ (impl_isLabel.calls (w := _) (h := A2.out)) ?_; intro w12 hb; replace BK101 := kS BK101 hb; replace HB := bS hb; clear hb))
  go_ret
  exact ⟨zr, zB⟩
end Go.Proofs.YtbncnjgflhoneaaGreatDoor.F
namespace Go.Proofs.YtbncnjgflhoneaaGreatDoor.F
open Go.RowKit Go.Proofs.YtbncnjgflhoneaaGreatDoor.Hand Go.Proofs.YtbncnjgflhoneaaGreatDoorW.PrintWords Go.Proofs.YtbncnjgflhoneaaGreatDoorW.PrintLast Go.Proofs.YtbncnjgflhoneaaGreatDoorW.PrintMore
set_option linter.unusedVariables false
set_option linter.unusedSimpArgs false
def impl_MailOk_1.f (k : Nat) (a0_0 : ByteArray) (a0_1 : ByteArray) : Option (Bool) := (impl_AddrOk.f k a0_0 a0_1).bind fun t102 => (some (!t102))
set_option maxHeartbeats 8000000 in
set_option maxRecDepth 100000 in
theorem impl_MailOk_1.calls (k : Nat) (a0_0 : ByteArray) (a0_1 : ByteArray) (r : Bool) (w : World) (hG : Laid w) (h : impl_MailOk_1.f k a0_0 a0_1 = some r) :
  Calls Tryz.prog 71 #[.agg #[.string a0_0, .string a0_1]] w fun e w' => e = .returned (.bool r) ∧ Below w.heap.size w w' := by
 have hu32 := Tryz.underlying32
 have HG := Aside0.mk hG
 clear hG
 have HB := Aside0.mk (Below.refl w.heap.size w)
 have H := h
 clear h
 unfold impl_MailOk_1.f at H
 replace H := bnd H; obtain ⟨t102, A2, H⟩ := H
 obtain rfl := Option.some.inj H
 go_enter Tryz.func71, Tryz.ntmps71
 go_wp2_with (first | ((with_reducible refine gate_dst (N := 1) rfl ?_); refine bx (cs := #[.string a0_0, .string a0_1]) (t := 32) ?_; intro gb101 hg w3 hbox hb; have BK101 := Aside0.mk (hbox); have GW101 := gS hg; have GE101 := gS hg; replace HB := bS hb; clear hb hbox hg; have hcz4 := cz2 BK101.out; have hfz4 := fz2 BK101.out) | ((with_reducible refine gate_callee (f := 34) rfl ?_); refine gv 4 Tryz.func34 _ (impl_AddrOk.calls (w := _) (hG := gB) (h := A2.out)) ?_; intro w5 hb; replace BK101 := kS BK101 hb; replace HB := bS hb; clear hb))
 go_ret
 exact ⟨zr, zB⟩
attribute [local go_sem high] eqA32
def impl_Addr_null.f (a0_0 : ByteArray) (a0_1 : ByteArray) : Option (Bool) := some (a0_0.toList == ([] : List UInt8) && (a0_1.toList == ([] : List UInt8)))
set_option maxHeartbeats 8000000 in
set_option maxRecDepth 100000 in
theorem impl_Addr_null.calls (a0_0 : ByteArray) (a0_1 : ByteArray) (r : Bool) (w : World) (h : impl_Addr_null.f a0_0 a0_1 = some r) :
  Calls Tryz.prog 38 #[.agg #[.string a0_0, .string a0_1]] w fun e w' => e = .returned (.bool r) ∧ Below w.heap.size w w' := by
 have hu32 := Tryz.underlying32
 have HB := Aside0.mk (Below.refl w.heap.size w)
 have H := h
 clear h
 unfold impl_Addr_null.f at H
 obtain rfl := Option.some.inj H
 go_enter Tryz.func38, Tryz.ntmps38
 go_wp2_with (first | ((with_reducible refine gate_dst (N := 1) rfl ?_); refine bx (cs := #[.string a0_0, .string a0_1]) (t := 32) ?_; intro gb101 hg w2 hbox hb; have BK101 := Aside0.mk (hbox); have GW101 := gS hg; have GE101 := gS hg; replace HB := bS hb; clear hb hbox hg; have hcz3 := cz2 BK101.out; have hfz3 := fz2 BK101.out))
 go_ret
 exact ⟨zr, zB⟩
end Go.Proofs.YtbncnjgflhoneaaGreatDoor.F
namespace Go.Proofs.YtbncnjgflhoneaaGreatDoor.F
open Go.RowKit Go.Proofs.YtbncnjgflhoneaaGreatDoor.Hand Go.Proofs.YtbncnjgflhoneaaGreatDoorW.PrintWords Go.Proofs.YtbncnjgflhoneaaGreatDoorW.PrintLast Go.Proofs.YtbncnjgflhoneaaGreatDoorW.PrintMore
set_option linter.unusedVariables false
set_option linter.unusedSimpArgs false
def impl_Addr_sender.f (k : Nat) (a0_0 : ByteArray) (a0_1 : ByteArray) : Option (Bool) := (impl_Addr_null.f a0_0 a0_1).bind fun t102 => (if t102 = true then (some true) else ((impl_AddrOk.f k a0_0 a0_1).bind fun t103 => (some t103)))
set_option maxHeartbeats 8000000 in
set_option maxRecDepth 100000 in
theorem impl_Addr_sender.calls (k : Nat) (a0_0 : ByteArray) (a0_1 : ByteArray) (r : Bool) (w : World) (hG : Laid w) (h : impl_Addr_sender.f k a0_0 a0_1 = some r) :
  Calls Tryz.prog 72 #[.agg #[.string a0_0, .string a0_1]] w fun e w' => e = .returned (.bool r) ∧ Below w.heap.size w w' := by
 have hu32 := Tryz.underlying32
 have HG := Aside0.mk hG
 clear hG
 have HB := Aside0.mk (Below.refl w.heap.size w)
 have H := h
 clear h
 unfold impl_Addr_sender.f at H
 replace H := bnd H; obtain ⟨t102, A2, H⟩ := H
 replace H := itb H; rcases H with ⟨rfl, H⟩ | ⟨rfl, H⟩
 ·obtain rfl := Option.some.inj H
  go_enter Tryz.func72, Tryz.ntmps72
  go_wp2_with (first | ((with_reducible refine gate_dst (N := 1) rfl ?_); refine bx (cs := #[.string a0_0, .string a0_1]) (t := 32) ?_; intro gb101 hg w4 hbox hb; have BK101 := Aside0.mk (hbox); have GW101 := gS hg; have GE101 := gS hg; replace HB := bS hb; clear hb hbox hg; have hcz5 := cz2 BK101.out; have hfz5 := fz2 BK101.out) | ((with_reducible refine gate_callee (f := 38) rfl ?_); refine gv 4 Tryz.func38 _ (impl_Addr_null.calls (w := _) (h := A2.out)) ?_; intro w6 hb; replace BK101 := kS BK101 hb; replace HB := bS hb; clear hb))
  go_ret
  exact ⟨zr, zB⟩
 ·replace H := bnd H; obtain ⟨t103, A7, H⟩ := H
  obtain rfl := Option.some.inj H
  go_enter Tryz.func72, Tryz.ntmps72
  go_wp2_with (first | ((with_reducible refine gate_dst (N := 1) rfl ?_); refine bx (cs := #[.string a0_0, .string a0_1]) (t := 32) ?_; intro gb101 hg w8 hbox hb; have BK101 := Aside0.mk (hbox); have GW101 := gS hg; have GE101 := gS hg; replace HB := bS hb; clear hb hbox hg; have hcz9 := cz2 BK101.out; have hfz9 := fz2 BK101.out) | ((with_reducible refine gate_callee (f := 38) rfl ?_); refine gv 4 Tryz.func38 _ (impl_Addr_null.calls (w := _) (h := A2.out)) ?_; intro w10 hb; replace BK101 := kS BK101 hb; replace HB := bS hb; clear hb; have hcz11 := cz2 BK101.out; have hfz11 := fz2 BK101.out) | (go_at_call 34; refine (impl_AddrOk.calls (w := _) (hG := gB) (h := A7.out)).mono ?_; rintro e w12 ⟨rfl, hb⟩; replace BK101 := kS BK101 hb; replace HB := bS hb; clear hb))
  go_ret
  exact ⟨zr, zB⟩
end Go.Proofs.YtbncnjgflhoneaaGreatDoor.F
namespace Go.Proofs.YtbncnjgflhoneaaGreatDoor.Hand
open Go.RowKit Go.Proofs.YtbncnjgflhoneaaGreatDoor.F Go.Proofs.YtbncnjgflhoneaaGreatDoorW.PrintWords Go.Proofs.YtbncnjgflhoneaaGreatDoorW.PrintLast Go.Proofs.YtbncnjgflhoneaaGreatDoorW.PrintMore
def labelsOf (d : ByteArray) : List ByteArray := Lib.splitB ⟨#[46]⟩ 0 (Lib.countB d ⟨#[46]⟩) d
def domainB (d : ByteArray) : Bool := (labelsOf d).all labelB && decide ((labelsOf d).length ≤ 3)
def addrB (u d : ByteArray) : Bool := labelB u && domainB d
def nullB (u d : ByteArray) : Bool := u.toList == [] && d.toList == []
def mailB (u d : ByteArray) (ts : List S32) (body : List ByteArray) : Bool := (nullB u d || addrB u d) && decide (1 ≤ ts.length ∧ ts.length ≤ 4) && ts.all (fun a => addrB a.f0 a.f1) && apartB ts && bodyB body
def impl_MailOk.f (u d : ByteArray) (ts : List S32) (body : List ByteArray) : Option Bool := if (tinyB u && tinyB d && ts.all (fun a => tinyB a.f0 && tinyB a.f1) && body.all tinyB) = true then some (mailB u d ts body) else none
theorem labels_length (d : ByteArray) : (labelsOf d).length ≤ d.size + 1 := by
 unfold labelsOf
 rw [Lib.splitB_all ⟨#[46]⟩ (by decide) 0 _ d rfl]
 have := Lib.countB_le ⟨#[46]⟩ (by decide) _ d (Nat.le_refl _)
 omega
theorem domain_from (L : List ByteArray) (hL : L.length ≤ 1099511627776) : ∀ (e i k : Nat), L.length = i + e → e < k → impl_DomainOk.l0 k L L (L.length : Int) (i : Int) = some ((L.drop i).all labelB && decide (L.length ≤ 3)) := by
 intro e
 induction e with
 | zero =>
  intro i k hi hk
  obtain ⟨k, rfl⟩ : ∃ m, k = m + 1 := ⟨k - 1, by omega⟩
  rw [impl_DomainOk.l0, if_neg (by omega), List.drop_eq_nil_of_le (by omega), List.all_nil, Bool.true_and]
  exact congrArg some (decide_eq_decide.2 (by omega))
 | succ e ih =>
  intro i k hi hk
  obtain ⟨k, rfl⟩ : ∃ m, k = m + 1 := ⟨k - 1, by omega⟩
  have hl : i < L.length := by omega
  rw [impl_DomainOk.l0, if_pos (by omega), if_pos (by omega), if_pos (by omega), rdOf_mem _ _ _ hl, List.drop_eq_getElem_cons hl, List.all_cons]
  unfold impl_isLabel.f
  rw [Option.bind_some]
  by_cases h : labelB L[i] = true
  ·rw [if_pos h, h, wrapIn (by omega) (by omega), Bool.true_and]
   exact ih (i + 1) k (by omega) (by omega)
  ·rw [if_neg h, Bool.eq_false_iff.2 h]
   rfl
theorem domain_tells (d : ByteArray) (hd : d.size ≤ 1073741824) (k : Nat) (hk : d.size + 2 ≤ k) : impl_DomainOk.f k d = some (domainB d) := by
 have hl := labels_length d
 unfold impl_DomainOk.f strings_Split.f
 rw [if_pos ⟨by omega, by decide⟩, Option.bind_some]
 exact domain_from (labelsOf d) (by omega) (labelsOf d).length 0 k (by omega) (by omega)
theorem addr_tells (u d : ByteArray) (hd : d.size ≤ 1073741824) (k : Nat) (hk : d.size + 2 ≤ k) : impl_AddrOk.f k u d = some (addrB u d) := by
 unfold impl_AddrOk.f impl_isLabel.f addrB
 rw [Option.bind_some]
 by_cases h : labelB u = true
 ·rw [if_pos h, h, domain_tells d hd k hk]
  rfl
 ·rw [if_neg h, Bool.eq_false_iff.2 h]
  rfl
theorem sender_tells (u d : ByteArray) (hd : d.size ≤ 1073741824) (k : Nat) (hk : d.size + 2 ≤ k) : impl_Addr_sender.f k u d = some (nullB u d || addrB u d) := by
 unfold impl_Addr_sender.f impl_Addr_null.f
 rw [Option.bind_some]
 show (if nullB u d = true then _ else _) = _
 by_cases h : nullB u d = true
 ·rw [if_pos h, h]
  rfl
 ·rw [if_neg h, Bool.eq_false_iff.2 h, addr_tells u d hd k hk]
  rfl
theorem bad_tells (u d : ByteArray) (hd : d.size ≤ 1073741824) (k : Nat) (hk : d.size + 2 ≤ k) : impl_MailOk_1.f k u d = some (!addrB u d) := by
 unfold impl_MailOk_1.f
 rw [addr_tells u d hd k hk]
 rfl
def goodB (a : S32) : Bool := addrB a.f0 a.f1
set_option maxHeartbeats 1000000 in
set_option maxRecDepth 100000 in
theorem index_addr (A0 : Option Addr) (c0 : Nat) (l0 : List S32) (w : World) (hG : Laid w) (hr0 : Kd.C k32 w A0 l0.length l0) (hs : ∀ a ∈ l0, Tiny a) :
  Calls Tryz.prog 112 #[.slice A0 l0.length c0, .func (Fn.func 71) #[] #[]] w fun e w' => ∃ v : Int, e = .returned (.int .i64 v) ∧ (decide (0 ≤ v) = !l0.all goodB) ∧ Below w.heap.size w w' := by
 have hm := hr0.2.1
 have HR0 := Aside0.mk hr0
 have HS := Aside0.mk hs
 have HG := Aside0.mk hG
 clear hr0 hs hG
 go_enter Tryz.func112, Tryz.ntmps112
 go_wp2
 go_loopw [8] (fun i wr => ∃ k : Nat, k ≤ l0.length ∧ i = .int .i64 k ∧ Aside0 ((l0.take k).all goodB = true) ∧ Aside0 (Below w.heap.size w wr)) (fun i _ => l0.length - (intOf i).toNat)
 case atStart => exact ⟨0, by omega, rfl, ⟨by simp⟩, ⟨Below.refl _ _⟩⟩
 case round =>
  obtain ⟨k, hk, rfl, HA, HB⟩ := hrel
  by_cases hlt : k < l0.length
  ·obtain ⟨ad, e, hx0, hx1⟩ := at_T32 HR0.out k (by omega) (by omega)
   cases e
   rw [rd_T32_mem _ _ hlt, Int.toNat_natCast] at hx0 hx1
   replace hx0 := (HB.out.cell (World.block_lt_of_cell? w _ hx0)).trans hx0
   replace hx1 := (HB.out.cell (World.block_lt_of_cell? w _ hx1)).trans hx1
   have hu32 := Tryz.underlying32
   have hz := HS.out _ (List.getElem_mem hlt)
   have ht : l0.take (k + 1) = l0.take k ++ [l0[k]] := List.take_succ_eq_append_getElem hlt
   have hmem := List.getElem_mem hlt
   have HL := Aside0.mk (bad_tells l0[k].f0 l0[k].f1 hz.2 _ (Nat.le_refl _))
   by_cases hb : goodB l0[k] = true
   ·have hb' : addrB l0[k].f0 l0[k].f1 = true := hb
    rw [hb'] at HL
    have HN := Aside0.mk (show (l0.take (k + 1)).all goodB = true by rw [ht, List.all_append, HA.out]; simp [hb])
    clear ht hz hb hb'
    generalize l0[k] = a at *
    go_wp2_with (go_at_call 71; (with_reducible refine (impl_MailOk_1.calls _ _ _ (!true) _ (HG.out.below HB.out) HL.out).mono ?_); rintro e w1 ⟨rfl, hb⟩; have HB1 := Aside0.mk hb; clear hb)
    go_roundw
    case rel => exact ⟨k + 1, by omega, by go_num, HN, ⟨HB.out.trans (HB1.out.mono HB.out.size)⟩⟩
    case measure => simp [intOf]; omega
   ·have hb := Bool.eq_false_iff.2 hb
    have hb' : addrB l0[k].f0 l0[k].f1 = false := hb
    rw [hb'] at HL
    have HN := Aside0.mk (show l0.all goodB = false by
     rw [Bool.eq_false_iff]
     intro h
     have := (List.all_eq_true.1 h) _ hmem
     rw [hb] at this
     cases this)
    clear ht hz hb hb' hmem
    generalize l0[k] = a at *
    go_wp2_with (go_at_call 71; (with_reducible refine (impl_MailOk_1.calls _ _ _ (!false) _ (HG.out.below HB.out) HL.out).mono ?_); rintro e w1 ⟨rfl, hb⟩; have HB1 := Aside0.mk hb; clear hb)
    go_ret
    exact ⟨_, rfl, by rw [HN.out]; simp, HB.out.trans (HB1.out.mono HB.out.size)⟩
  ·obtain rfl : k = l0.length := by omega
   have HN := Aside0.mk (show l0.all goodB = true by have := HA.out; rwa [List.take_length] at this)
   clear hlt
   go_wp2
   go_ret
   exact ⟨_, rfl, by rw [HN.out]; rfl, HB.out⟩
set_option maxHeartbeats 1000000 in
set_option maxRecDepth 100000 in
theorem contains_addr (A0 : Option Addr) (c0 : Nat) (l0 : List S32) (w : World) (hG : Laid w) (hr0 : Kd.C k32 w A0 l0.length l0) (hs : ∀ a ∈ l0, Tiny a) :
  Calls Tryz.prog 73 #[.slice A0 l0.length c0, .func (Fn.func 71) #[] #[]] w fun e w' => e = .returned (.bool (!l0.all goodB)) ∧ Below w.heap.size w w' := by
 have HR0 := Aside0.mk hr0
 have HS := Aside0.mk hs
 have HG := Aside0.mk hG
 clear hr0 hs hG
 go_enter Tryz.func73, Tryz.ntmps73
 go_wp2_with (go_at_call 112; refine (index_addr A0 c0 l0 _ HG.out HR0.out HS.out).mono ?_; rintro e w' ⟨v, rfl, hv, hb⟩; have HB := Aside0.mk hb; clear hb)
 go_ret
 exact ⟨rfl, HB.out⟩
def Box (w : World) (u d : ByteArray) (v2 v3 : Value) (W : World) : Prop := W.heap[w.heap.size]? = some (.cells #[.string u, .string d, v2, v3] 35 (0, 0)) ∧ Below w.heap.size w W
theorem Box.step {w W W1 : World} {u d : ByteArray} {v2 v3 : Value} (h : Box w u d v2 v3 W) (hb : Below W.heap.size W W1) : Box w u d v2 v3 W1 := by
 have hlt : w.heap.size < W.heap.size := by
  rcases Nat.lt_or_ge w.heap.size W.heap.size with h' | h'
  ·exact h'
  ·have := h.1
   simp [Array.getElem?_eq_none h'] at this
 exact ⟨(hb.block _ hlt).trans h.1, h.2.trans (hb.mono (by omega))⟩
theorem Box.cells {w W : World} {u d : ByteArray} {v2 v3 : Value} (h : Box w u d v2 v3 W) : W.cell? ⟨w.heap.size, 0, none⟩ = some (.string u) ∧ W.cell? ⟨w.heap.size, 1, none⟩ = some (.string d) ∧ W.cell? ⟨w.heap.size, 2, none⟩ = some v2 ∧ W.cell? ⟨w.heap.size, 3, none⟩ = some v3 := by
 refine ⟨?_, ?_, ?_, ?_⟩ <;> (rw [Lib.cell_of_heap h.1]; rfl)
theorem Box.new (w : World) (u d : ByteArray) (v2 v3 : Value) : Box w u d v2 v3 (w.alloc (.cells #[.string u, .string d, v2, v3] 35)) := ⟨heap_alloc_new w _, (Below.refl _ _).alloc (Nat.le_refl _) _⟩
theorem all_tiny {ts : List S32} (h : ts.all (fun a => tinyB a.f0 && tinyB a.f1) = true) : ∀ a ∈ ts, Tiny a := fun a ha => by
 have := List.all_eq_true.1 h a ha
 rw [Bool.and_eq_true] at this
 exact ⟨of_decide_eq_true this.1, of_decide_eq_true this.2⟩
set_option maxHeartbeats 2000000 in
set_option maxRecDepth 100000 in
theorem impl_MailOk.calls (a0_0 : ByteArray) (a0_1 : ByteArray) (A0_2 : Option Addr) (c0_2 : Nat) (l0_2 : List (S32)) (A0_3 : Option Addr) (c0_3 : Nat) (l0_3 : List ByteArray) (r : Bool) (w : World) (hG : Laid w) (hr0_2 : Kd.C k32 w A0_2 l0_2.length l0_2) (_hc0_2 : l0_2.length ≤ c0_2) (hr0_3 : Kd.C Kd.string w A0_3 l0_3.length l0_3) (hc0_3 : l0_3.length ≤ c0_3) (h : impl_MailOk.f a0_0 a0_1 l0_2 l0_3 = some r) :
  Calls Tryz.prog 36 #[.agg #[.string a0_0, .string a0_1, .slice A0_2 l0_2.length c0_2, .slice A0_3 l0_3.length c0_3]] w fun e w' => e = .returned (.bool r) ∧ Below w.heap.size w w' := by
 unfold impl_MailOk.f at h
 split at h
 case isFalse => cases h
 case isTrue hs =>
 simp only [Bool.and_eq_true] at hs
 obtain ⟨⟨⟨_, hs1⟩, hs2⟩, hs3⟩ := hs
 injection h with h
 have HT2 := Aside0.mk (all_tiny hs2)
 have H3 := Aside0.mk (show impl_isBody.f l0_3 = some (bodyB l0_3) by
  unfold impl_isBody.f
  rw [if_pos]
  rw [List.all_eq_true] at hs3 ⊢
  intro x hx
  have := of_decide_eq_true (hs3 x hx)
  exact decide_eq_true (by omega))
 have HSE := Aside0.mk (sender_tells a0_0 a0_1 (of_decide_eq_true hs1) _ (Nat.le_refl _))
 clear hs1 hs2 hs3
 have HG := Aside0.mk hG
 have HR2 := Aside0.mk hr0_2
 have HR3 := Aside0.mk hr0_3
 have HC3 := Aside0.mk hc0_3
 have HW := Aside0.mk (show ∀ b : Bool, decide (1 ≤ l0_2.length ∧ l0_2.length ≤ 4) = b → impl_within.f (l0_2.length : Int) 1 4 = some b by
  intro b hb
  unfold impl_within.f
  by_cases g : 1 ≤ l0_2.length
  ·rw [if_pos (by omega), ← hb]
   exact congrArg some (decide_eq_decide.2 (by omega))
  ·rw [if_neg (by omega), ← hb, decide_eq_false (by omega)])
 have HB0 := Aside0.mk (Box.new w a0_0 a0_1 (.slice A0_2 l0_2.length c0_2) (.slice A0_3 l0_3.length c0_3))
 clear hG hr0_2 hr0_3 hc0_3
 have hu35 := Tryz.underlying35
 have hu32 := Tryz.underlying32
 unfold mailB at h
 cases b1 : (nullB a0_0 a0_1 || addrB a0_0 a0_1)
 ·rw [b1] at h HSE
  simp only [Bool.false_and] at h
  subst h
  clear b1
  go_enter Tryz.func36, Tryz.ntmps36
  go_wp2_with (go_at_call 72; refine (impl_Addr_sender.calls _ _ _ false _ (HG.out.below HB0.out.2) HSE.out).mono ?_; rintro e w1 ⟨rfl, hb⟩; have HB1 := Aside0.mk (HB0.out.step hb); clear hb)
  go_ret
  exact ⟨rfl, HB1.out.2⟩
 rw [b1] at h HSE
 simp only [Bool.true_and] at h
 clear b1
 cases b2 : decide (1 ≤ l0_2.length ∧ l0_2.length ≤ 4)
 ·have HW' := Aside0.mk (HW.out _ b2)
  rw [b2] at h
  simp only [Bool.false_and] at h
  subst h
  clear b2 HW
  go_enter Tryz.func36, Tryz.ntmps36
  go_wp2_with (first | (go_at_call 72; refine (impl_Addr_sender.calls _ _ _ true _ (HG.out.below HB0.out.2) HSE.out).mono ?_; rintro e w1 ⟨rfl, hb⟩; have HB1 := Aside0.mk (HB0.out.step hb); obtain ⟨_, _, kc2, kc3⟩ := HB1.out.cells; clear hb) | (go_at_call 33; (with_reducible refine (impl_within.calls _ 1 4 false _ HW'.out).mono ?_); rintro e w' ⟨rfl, ⟨nd, rfl⟩⟩))
  go_ret
  exact ⟨rfl, HB1.out.2.trans ((bel_drewN _ nd).mono HB1.out.2.size)⟩
 have HW' := Aside0.mk (HW.out _ b2)
 rw [b2] at h
 simp only [Bool.true_and] at h
 clear b2 HW
 cases b3 : l0_2.all goodB
 ·have b3' : l0_2.all (fun a => addrB a.f0 a.f1) = false := b3
  rw [b3'] at h
  simp only [Bool.false_and] at h
  subst h
  have HA := Aside0.mk (fun W hG hr => contains_addr A0_2 c0_2 l0_2 W hG hr HT2.out)
  rw [b3] at HA
  clear b3 b3'
  go_enter Tryz.func36, Tryz.ntmps36
  go_wp2_with (first | (go_at_call 72; refine (impl_Addr_sender.calls _ _ _ true _ (HG.out.below HB0.out.2) HSE.out).mono ?_; rintro e w1 ⟨rfl, hb⟩; have HB1 := Aside0.mk (HB0.out.step hb); obtain ⟨_, _, kc2, kc3⟩ := HB1.out.cells; clear hb) | (go_at_call 33; (with_reducible refine (impl_within.calls _ 1 4 true _ HW'.out).mono ?_); rintro e w' ⟨rfl, ⟨nd, rfl⟩⟩; have HB2 := Aside0.mk (HB1.out.step (bel_drewN _ nd))) | (go_at_call 73; refine (HA.out _ (HG.out.below HB2.out.2) (Kd.C_below HR2.out HB2.out.2)).mono ?_; rintro e w3 ⟨rfl, hb⟩; have HB3 := Aside0.mk (HB2.out.step hb); clear hb))
  go_ret
  exact ⟨rfl, HB3.out.2⟩
 have b3' : l0_2.all (fun a => addrB a.f0 a.f1) = true := b3
 rw [b3'] at h
 simp only [Bool.true_and] at h
 have HA := Aside0.mk (fun W hG hr => contains_addr A0_2 c0_2 l0_2 W hG hr HT2.out)
 rw [b3] at HA
 clear b3 b3'
 have HD := Aside0.mk (fun W hr => distinct_calls A0_2 c0_2 l0_2 W hr HT2.out)
 cases b4 : apartB l0_2
 ·rw [b4] at h HD
  simp only [Bool.false_and] at h
  subst h
  clear b4
  go_enter Tryz.func36, Tryz.ntmps36
  go_wp2_with (first | (go_at_call 72; refine (impl_Addr_sender.calls _ _ _ true _ (HG.out.below HB0.out.2) HSE.out).mono ?_; rintro e w1 ⟨rfl, hb⟩; have HB1 := Aside0.mk (HB0.out.step hb); obtain ⟨_, _, kc2, kc3⟩ := HB1.out.cells; clear hb) | (go_at_call 33; (with_reducible refine (impl_within.calls _ 1 4 true _ HW'.out).mono ?_); rintro e w' ⟨rfl, ⟨nd, rfl⟩⟩; have HB2 := Aside0.mk (HB1.out.step (bel_drewN _ nd))) | (go_at_call 73; refine (HA.out _ (HG.out.below HB2.out.2) (Kd.C_below HR2.out HB2.out.2)).mono ?_; rintro e w3 ⟨rfl, hb⟩; have HB3 := Aside0.mk (HB2.out.step hb); obtain ⟨_, _, kc2', kc3'⟩ := HB3.out.cells; clear hb) | (go_at_call 74; refine (HD.out _ (Kd.C_below HR2.out HB3.out.2)).mono ?_; rintro e w4 ⟨rfl, hb⟩; have HB4 := Aside0.mk (HB3.out.step hb); clear hb))
  go_ret
  exact ⟨rfl, HB4.out.2⟩
 rw [b4] at h HD
 simp only [Bool.true_and] at h
 subst h
 clear b4
 cases b5 : bodyB l0_3
 all_goals
  rw [b5] at H3

  clear b5
  go_enter Tryz.func36, Tryz.ntmps36
  go_wp2_with (first | (go_at_call 72; refine (impl_Addr_sender.calls _ _ _ true _ (HG.out.below HB0.out.2) HSE.out).mono ?_; rintro e w1 ⟨rfl, hb⟩; have HB1 := Aside0.mk (HB0.out.step hb); obtain ⟨_, _, kc2, kc3⟩ := HB1.out.cells; clear hb) | (go_at_call 33; (with_reducible refine (impl_within.calls _ 1 4 true _ HW'.out).mono ?_); rintro e w' ⟨rfl, ⟨nd, rfl⟩⟩; have HB2 := Aside0.mk (HB1.out.step (bel_drewN _ nd))) | (go_at_call 73; refine (HA.out _ (HG.out.below HB2.out.2) (Kd.C_below HR2.out HB2.out.2)).mono ?_; rintro e w3 ⟨rfl, hb⟩; have HB3 := Aside0.mk (HB2.out.step hb); obtain ⟨_, _, kc2', kc3'⟩ := HB3.out.cells; clear hb) | (go_at_call 74; refine (HD.out _ (Kd.C_below HR2.out HB3.out.2)).mono ?_; rintro e w4 ⟨rfl, hb⟩; have HB4 := Aside0.mk (HB3.out.step hb); obtain ⟨_, _, kc2'', kc3''⟩ := HB4.out.cells; clear hb) | (go_at_call 75; refine (impl_isBody.calls A0_3 c0_3 l0_3 _ _ (Kd.C_below HR3.out HB4.out.2) HC3.out H3.out).mono ?_; rintro e w' ⟨rfl, ⟨nd5, rfl⟩⟩))
  go_ret
  exact ⟨rfl, (HB4.out.step (bel_drewN _ nd5)).2⟩
end Go.Proofs.YtbncnjgflhoneaaGreatDoor.Hand
namespace Go.Proofs.YtbncnjgflhoneaaGreatDoor.F
open Go.RowKit Go.Proofs.YtbncnjgflhoneaaGreatDoor.Hand Go.Proofs.YtbncnjgflhoneaaGreatDoorW.PrintWords Go.Proofs.YtbncnjgflhoneaaGreatDoorW.PrintLast Go.Proofs.YtbncnjgflhoneaaGreatDoorW.PrintMore
set_option linter.unusedVariables false
set_option linter.unusedSimpArgs false
def spec_l1In.f (a0 : Int) (a1 : Int) (a2 : Int) : Option (Bool) := if a0 ≥ a1 then (some (decide (a0 ≤ a2))) else (some false)
set_option maxHeartbeats 8000000 in
set_option maxRecDepth 100000 in
theorem spec_l1In.calls (a0 : Int) (a1 : Int) (a2 : Int) (r : Bool) (w : World) (h : spec_l1In.f a0 a1 a2 = some r) :
  Calls Tryz.prog 57 #[.int .i64 a0, .int .i64 a1, .int .i64 a2] w fun e w' => e = .returned (.bool r) ∧ Drawn0 w w' := by
 have H := h
 clear h
 unfold spec_l1In.f at H
 replace H := its_d_d H; rcases H with ⟨c4b0, H⟩ | ⟨c4b0, H⟩
 ·obtain rfl := Option.some.inj H
  go_enter Tryz.func57, Tryz.ntmps57
  go_wp2
  go_ret
  exact ⟨zs, zD⟩
 ·obtain rfl := Option.some.inj H
  go_enter Tryz.func57, Tryz.ntmps57
  go_wp2
  go_ret
  exact ⟨zs, zD⟩
def spec_l1Word.l0 : Nat → ByteArray → Int → Option (Bool)
 | 0, _, _ => none
 | k + 1, x0, x3 => if x3 < (x0.size : Int) then (if 0 ≤ x3 then (if (bt x0 x3) < 97 then (if (bt x0 x3) < 48 then (some false) else (if (bt x0 x3) > 57 then (some false) else (spec_l1Word.l0 k x0 (wrap64 (x3 + 1))))) else (if (bt x0 x3) > 122 then (if (bt x0 x3) < 48 then (some false) else (if (bt x0 x3) > 57 then (some false) else (spec_l1Word.l0 k x0 (wrap64 (x3 + 1))))) else (spec_l1Word.l0 k x0 (wrap64 (x3 + 1))))) else (none)) else ((spec_l1In.f (x0.size : Int) 1 8).bind fun t101 => (some t101))
def spec_l1Word.f (k : Nat) (a0 : ByteArray) : Option (Bool) := spec_l1Word.l0 k a0 0
set_option maxHeartbeats 8000000 in
set_option maxRecDepth 100000 in
theorem spec_l1Word.calls (k : Nat) (a0 : ByteArray) (r : Bool) (w : World) (h : spec_l1Word.f k a0 = some r) :
  Calls Tryz.prog 101 #[.string a0] w fun e w' => e = .returned (.bool r) ∧ Drawn0 w w' := by
 have H := h
 clear h
 unfold spec_l1Word.f at H
 have H' := Aside0.mk H
 clear H
 go_enter Tryz.func101, Tryz.ntmps101
 go_wp2
 go_loopg [3] k (fun kq v3 w' => ∃ (x3_1 : Int), v3 = .int .i64 x3_1 ∧ Aside0 (spec_l1Word.l0 kq a0 x3_1 = some r) ∧ Aside0 (kq ≤ k) ∧ Drawn0 w w')
 case atStart => exact ⟨(0), zs, H', ⟨Nat.le_refl _⟩, zD⟩
 case round =>
  clear H'
  obtain ⟨x3_1, rfl, HA, HK1, ⟨m1, rfl⟩⟩ := hrel
  cases gk with
  | zero => exact absurd HA.out (by simp [spec_l1Word.l0])
  | succ k1 =>
   have H := HA.out
   clear HA
   simp only [spec_l1Word.l0] at H
   replace H := its_d_d H; rcases H with ⟨c2b0, H⟩ | ⟨c2b0, H⟩
   ·replace H := itn_d H; obtain ⟨c3b0, H⟩ := H
    replace H := its_d_d H; rcases H with ⟨c5b0, H⟩ | ⟨c5b0, H⟩
    ·replace H := its_d_d H; rcases H with ⟨c7b0, H⟩ | ⟨c7b0, H⟩
     ·obtain rfl := Option.some.inj H
      have p4 : 0 ≤ (x3_1 : Int) := of_decide_eq_true za
      have q4 : x3_1 < (a0.size : Int) := of_decide_eq_true za
      have hx4 := bt_at a0 x3_1
      replace p4 := eq_true p4
      replace q4 := eq_true q4
      have p6 : 0 ≤ (x3_1 : Int) := of_decide_eq_true za
      have q6 : x3_1 < (a0.size : Int) := of_decide_eq_true za
      have hx6 := bt_at a0 x3_1
      replace p6 := eq_true p6
      replace q6 := eq_true q6
      go_wp2
      go_ret
      exact ⟨zs, zD⟩
     ·replace H := its_d_d H; rcases H with ⟨c9b0, H⟩ | ⟨c9b0, H⟩
      ·obtain rfl := Option.some.inj H
       have p4 : 0 ≤ (x3_1 : Int) := of_decide_eq_true za
       have q4 : x3_1 < (a0.size : Int) := of_decide_eq_true za
       have hx4 := bt_at a0 x3_1
       replace p4 := eq_true p4
       replace q4 := eq_true q4
       have p6 : 0 ≤ (x3_1 : Int) := of_decide_eq_true za
       have q6 : x3_1 < (a0.size : Int) := of_decide_eq_true za
       have hx6 := bt_at a0 x3_1
       replace p6 := eq_true p6
       replace q6 := eq_true q6
       have p8 : 0 ≤ (x3_1 : Int) := of_decide_eq_true za
       have q8 : x3_1 < (a0.size : Int) := of_decide_eq_true za
       have hx8 := bt_at a0 x3_1
       replace p8 := eq_true p8
       replace q8 := eq_true q8
       go_wp2
       go_ret
       exact ⟨zs, zD⟩
      ·have H' := Aside0.mk H
       clear H
       have p4 : 0 ≤ (x3_1 : Int) := of_decide_eq_true za
       have q4 : x3_1 < (a0.size : Int) := of_decide_eq_true za
       have hx4 := bt_at a0 x3_1
       replace p4 := eq_true p4
       replace q4 := eq_true q4
       have p6 : 0 ≤ (x3_1 : Int) := of_decide_eq_true za
       have q6 : x3_1 < (a0.size : Int) := of_decide_eq_true za
       have hx6 := bt_at a0 x3_1
       replace p6 := eq_true p6
       replace q6 := eq_true q6
       have p8 : 0 ≤ (x3_1 : Int) := of_decide_eq_true za
       have q8 : x3_1 < (a0.size : Int) := of_decide_eq_true za
       have hx8 := bt_at a0 x3_1
       replace p8 := eq_true p8
       replace q8 := eq_true q8
       go_wp2
       go_roundg k1
       case measure => have := HK1.out; omega
       case rel => exact ⟨(wrap64 (x3_1 + 1)), zs, H', ⟨by have := HK1.out; omega⟩, zD⟩
    ·replace H := its_d_d H; rcases H with ⟨c11b0, H⟩ | ⟨c11b0, H⟩
     ·replace H := its_d_d H; rcases H with ⟨c13b0, H⟩ | ⟨c13b0, H⟩
      ·obtain rfl := Option.some.inj H
       have p4 : 0 ≤ (x3_1 : Int) := of_decide_eq_true za
       have q4 : x3_1 < (a0.size : Int) := of_decide_eq_true za
       have hx4 := bt_at a0 x3_1
       replace p4 := eq_true p4
       replace q4 := eq_true q4
       have p10 : 0 ≤ (x3_1 : Int) := of_decide_eq_true za
       have q10 : x3_1 < (a0.size : Int) := of_decide_eq_true za
       have hx10 := bt_at a0 x3_1
       replace p10 := eq_true p10
       replace q10 := eq_true q10
       have p12 : 0 ≤ (x3_1 : Int) := of_decide_eq_true za
       have q12 : x3_1 < (a0.size : Int) := of_decide_eq_true za
       have hx12 := bt_at a0 x3_1
       replace p12 := eq_true p12
       replace q12 := eq_true q12
       go_wp2
       go_ret
       exact ⟨zs, zD⟩
      ·replace H := its_d_d H; rcases H with ⟨c15b0, H⟩ | ⟨c15b0, H⟩
       ·obtain rfl := Option.some.inj H
        have p4 : 0 ≤ (x3_1 : Int) := of_decide_eq_true za
        have q4 : x3_1 < (a0.size : Int) := of_decide_eq_true za
        have hx4 := bt_at a0 x3_1
        replace p4 := eq_true p4
        replace q4 := eq_true q4
        have p10 : 0 ≤ (x3_1 : Int) := of_decide_eq_true za
        have q10 : x3_1 < (a0.size : Int) := of_decide_eq_true za
        have hx10 := bt_at a0 x3_1
        replace p10 := eq_true p10
        replace q10 := eq_true q10
        have p12 : 0 ≤ (x3_1 : Int) := of_decide_eq_true za
        have q12 : x3_1 < (a0.size : Int) := of_decide_eq_true za
        have hx12 := bt_at a0 x3_1
        replace p12 := eq_true p12
        replace q12 := eq_true q12
        have p14 : 0 ≤ (x3_1 : Int) := of_decide_eq_true za
        have q14 : x3_1 < (a0.size : Int) := of_decide_eq_true za
        have hx14 := bt_at a0 x3_1
        replace p14 := eq_true p14
        replace q14 := eq_true q14
        go_wp2
        go_ret
        exact ⟨zs, zD⟩
       ·have H' := Aside0.mk H
        clear H
        have p4 : 0 ≤ (x3_1 : Int) := of_decide_eq_true za
        have q4 : x3_1 < (a0.size : Int) := of_decide_eq_true za
        have hx4 := bt_at a0 x3_1
        replace p4 := eq_true p4
        replace q4 := eq_true q4
        have p10 : 0 ≤ (x3_1 : Int) := of_decide_eq_true za
        have q10 : x3_1 < (a0.size : Int) := of_decide_eq_true za
        have hx10 := bt_at a0 x3_1
        replace p10 := eq_true p10
        replace q10 := eq_true q10
        have p12 : 0 ≤ (x3_1 : Int) := of_decide_eq_true za
        have q12 : x3_1 < (a0.size : Int) := of_decide_eq_true za
        have hx12 := bt_at a0 x3_1
        replace p12 := eq_true p12
        replace q12 := eq_true q12
        have p14 : 0 ≤ (x3_1 : Int) := of_decide_eq_true za
        have q14 : x3_1 < (a0.size : Int) := of_decide_eq_true za
        have hx14 := bt_at a0 x3_1
        replace p14 := eq_true p14
        replace q14 := eq_true q14
        go_wp2
        go_roundg k1
        case measure => have := HK1.out; omega
        case rel => exact ⟨(wrap64 (x3_1 + 1)), zs, H', ⟨by have := HK1.out; omega⟩, zD⟩
     ·have H' := Aside0.mk H
      clear H
      have p4 : 0 ≤ (x3_1 : Int) := of_decide_eq_true za
      have q4 : x3_1 < (a0.size : Int) := of_decide_eq_true za
      have hx4 := bt_at a0 x3_1
      replace p4 := eq_true p4
      replace q4 := eq_true q4
      have p10 : 0 ≤ (x3_1 : Int) := of_decide_eq_true za
      have q10 : x3_1 < (a0.size : Int) := of_decide_eq_true za
      have hx10 := bt_at a0 x3_1
      replace p10 := eq_true p10
      replace q10 := eq_true q10
      go_wp2
      go_roundg k1
      case measure => have := HK1.out; omega
      case rel => exact ⟨(wrap64 (x3_1 + 1)), zs, H', ⟨by have := HK1.out; omega⟩, zD⟩
   ·replace H := bnd H; obtain ⟨t101, A16, H⟩ := H
    obtain rfl := Option.some.inj H
    go_wp2_with (first | ((with_reducible refine gate_callee (f := 57) rfl ?_); refine gv 34 Tryz.func57 _ (spec_l1In.calls (w := _) (h := A16.out)) ?_; rintro w' ⟨nd, rfl⟩))
    go_ret
    exact ⟨zs, zD⟩
end Go.Proofs.YtbncnjgflhoneaaGreatDoor.F
namespace Go.Proofs.YtbncnjgflhoneaaGreatDoor.F
open Go.RowKit Go.Proofs.YtbncnjgflhoneaaGreatDoor.Hand Go.Proofs.YtbncnjgflhoneaaGreatDoorW.PrintWords Go.Proofs.YtbncnjgflhoneaaGreatDoorW.PrintLast Go.Proofs.YtbncnjgflhoneaaGreatDoorW.PrintMore
set_option linter.unusedVariables false
set_option linter.unusedSimpArgs false
def spec_l2LineOk.l0 : Nat → ByteArray → Int → Option (Bool)
 | 0, _, _ => none
 | k + 1, x0, x3 => if x3 < (x0.size : Int) then (if 0 ≤ x3 then (if (bt x0 x3) < 32 then (some false) else (if (bt x0 x3) > 126 then (some false) else (spec_l2LineOk.l0 k x0 (wrap64 (x3 + 1))))) else (none)) else (some (decide ((x0.size : Int) ≤ 40)))
def spec_l2LineOk.f (k : Nat) (a0 : ByteArray) : Option (Bool) := spec_l2LineOk.l0 k a0 0
set_option maxHeartbeats 8000000 in
set_option maxRecDepth 100000 in
theorem spec_l2LineOk.calls (k : Nat) (a0 : ByteArray) (r : Bool) (w : World) (h : spec_l2LineOk.f k a0 = some r) :
  Calls Tryz.prog 134 #[.string a0] w fun e w' => e = .returned (.bool r) ∧ Drawn0 w w' := by
 have H := h
 clear h
 unfold spec_l2LineOk.f at H
 have H' := Aside0.mk H
 clear H
 go_enter Tryz.func134, Tryz.ntmps134
 go_wp2
 go_loopg [3] k (fun kq v3 w' => ∃ (x3_1 : Int), v3 = .int .i64 x3_1 ∧ Aside0 (spec_l2LineOk.l0 kq a0 x3_1 = some r) ∧ Aside0 (kq ≤ k) ∧ Drawn0 w w')
 case atStart => exact ⟨(0), zs, H', ⟨Nat.le_refl _⟩, zD⟩
 case round =>
  clear H'
  obtain ⟨x3_1, rfl, HA, HK1, ⟨m1, rfl⟩⟩ := hrel
  cases gk with
  | zero => exact absurd HA.out (by simp [spec_l2LineOk.l0])
  | succ k1 =>
   have H := HA.out
   clear HA
   simp only [spec_l2LineOk.l0] at H
   replace H := its_d_d H; rcases H with ⟨c2b0, H⟩ | ⟨c2b0, H⟩
   ·replace H := itn_d H; obtain ⟨c3b0, H⟩ := H
    replace H := its_d_d H; rcases H with ⟨c5b0, H⟩ | ⟨c5b0, H⟩
    ·obtain rfl := Option.some.inj H
     have p4 : 0 ≤ (x3_1 : Int) := of_decide_eq_true za
     have q4 : x3_1 < (a0.size : Int) := of_decide_eq_true za
     have hx4 := bt_at a0 x3_1
     replace p4 := eq_true p4
     replace q4 := eq_true q4
     go_wp2
     go_ret
     exact ⟨zs, zD⟩
    ·replace H := its_d_d H; rcases H with ⟨c7b0, H⟩ | ⟨c7b0, H⟩
     ·obtain rfl := Option.some.inj H
      have p4 : 0 ≤ (x3_1 : Int) := of_decide_eq_true za
      have q4 : x3_1 < (a0.size : Int) := of_decide_eq_true za
      have hx4 := bt_at a0 x3_1
      replace p4 := eq_true p4
      replace q4 := eq_true q4
      have p6 : 0 ≤ (x3_1 : Int) := of_decide_eq_true za
      have q6 : x3_1 < (a0.size : Int) := of_decide_eq_true za
      have hx6 := bt_at a0 x3_1
      replace p6 := eq_true p6
      replace q6 := eq_true q6
      go_wp2
      go_ret
      exact ⟨zs, zD⟩
     ·have H' := Aside0.mk H
      clear H
      have p4 : 0 ≤ (x3_1 : Int) := of_decide_eq_true za
      have q4 : x3_1 < (a0.size : Int) := of_decide_eq_true za
      have hx4 := bt_at a0 x3_1
      replace p4 := eq_true p4
      replace q4 := eq_true q4
      have p6 : 0 ≤ (x3_1 : Int) := of_decide_eq_true za
      have q6 : x3_1 < (a0.size : Int) := of_decide_eq_true za
      have hx6 := bt_at a0 x3_1
      replace p6 := eq_true p6
      replace q6 := eq_true q6
      go_wp2
      go_roundg k1
      case measure => have := HK1.out; omega
      case rel => exact ⟨(wrap64 (x3_1 + 1)), zs, H', ⟨by have := HK1.out; omega⟩, zD⟩
   ·obtain rfl := Option.some.inj H
    go_wp2
    go_ret
    exact ⟨zs, zD⟩
def spec_l2BodyOk.l0 : Nat → List ByteArray → Int → Option (Bool)
 | 0, _, _ => none
 | k + 1, x0, x3 => if x3 < (x0.length : Int) then (if 0 ≤ x3 then ((spec_l2LineOk.f k (rdOf ByteArray.empty x0 x3)).bind fun t102 => (if t102 = true then (spec_l2BodyOk.l0 k x0 (wrap64 (x3 + 1))) else (some false))) else (none)) else (some (decide ((x0.length : Int) ≤ 12)))
def spec_l2BodyOk.f (k : Nat) (l0 : List ByteArray) : Option (Bool) := spec_l2BodyOk.l0 k l0 0
set_option maxHeartbeats 8000000 in
set_option maxRecDepth 100000 in
theorem spec_l2BodyOk.calls (k : Nat) (A0 : Option Addr) (c0 : Nat) (l0 : List ByteArray) (r : Bool) (w : World) (hr0 : Kd.C Kd.string w A0 l0.length l0) (hc0 : l0.length ≤ c0) (h : spec_l2BodyOk.f k l0 = some r) :
  Calls Tryz.prog 100 #[.slice A0 l0.length c0] w fun e w' => e = .returned (.bool r) ∧ Drawn0 w w' := by
 have HR0 := Aside0.mk hr0
 have HC0 := Aside0.mk hc0
 clear hr0 hc0
 have H := h
 clear h
 unfold spec_l2BodyOk.f at H
 have H' := Aside0.mk H
 clear H
 go_enter Tryz.func100, Tryz.ntmps100
 go_wp2
 go_loopg [3] k (fun kq v3 w' => ∃ (x3_1 : Int), v3 = .int .i64 x3_1 ∧ Aside0 (spec_l2BodyOk.l0 kq l0 x3_1 = some r) ∧ Aside0 (kq ≤ k) ∧ Drawn0 w w')
 case atStart => exact ⟨(0), zs, H', ⟨Nat.le_refl _⟩, zD⟩
 case round =>
  clear H'
  obtain ⟨x3_1, rfl, HA, HK1, ⟨m1, rfl⟩⟩ := hrel
  cases gk with
  | zero => exact absurd HA.out (by simp [spec_l2BodyOk.l0])
  | succ k1 =>
   have H := HA.out
   clear HA
   simp only [spec_l2BodyOk.l0] at H
   replace H := its_d_d H; rcases H with ⟨c2b0, H⟩ | ⟨c2b0, H⟩
   ·replace H := itn_d H; obtain ⟨c3b0, H⟩ := H
    replace H := bnd H; obtain ⟨t102, A4, H⟩ := H
    replace H := itb H; rcases H with ⟨rfl, H⟩ | ⟨rfl, H⟩
    ·have H' := Aside0.mk H
     clear H
     have p101 : 0 ≤ (x3_1 : Int) := of_decide_eq_true za
     have q101 : x3_1 < (l0.length : Int) := of_decide_eq_true za
     obtain ⟨ad101, e101, hx101_0⟩ := Kd.at_string HR0.out x3_1 p101 q101
     cases e101
     replace p101 := eq_true p101
     replace q101 := eq_true q101
     go_wp2_with (first | ((with_reducible refine gate_callee (f := 134) rfl ?_); refine gv 14 Tryz.func134 _ (spec_l2LineOk.calls (w := _) (h := A4.out)) ?_; rintro w' ⟨nd, rfl⟩))
     go_roundg k1
     case measure => have := HK1.out; omega
     case rel => exact ⟨(wrap64 (x3_1 + 1)), zs, H', ⟨by have := HK1.out; omega⟩, zD⟩
    ·obtain rfl := Option.some.inj H
     have p101 : 0 ≤ (x3_1 : Int) := of_decide_eq_true za
     have q101 : x3_1 < (l0.length : Int) := of_decide_eq_true za
     obtain ⟨ad101, e101, hx101_0⟩ := Kd.at_string HR0.out x3_1 p101 q101
     cases e101
     replace p101 := eq_true p101
     replace q101 := eq_true q101
     go_wp2_with (first | ((with_reducible refine gate_callee (f := 134) rfl ?_); refine gv 14 Tryz.func134 _ (spec_l2LineOk.calls (w := _) (h := A4.out)) ?_; rintro w' ⟨nd, rfl⟩))
     go_ret
     exact ⟨zs, zD⟩
   ·obtain rfl := Option.some.inj H
    go_wp2
    go_ret
    exact ⟨zs, zD⟩
end Go.Proofs.YtbncnjgflhoneaaGreatDoor.F
namespace Go.Proofs.YtbncnjgflhoneaaGreatDoor.F
open Go.RowKit Go.Proofs.YtbncnjgflhoneaaGreatDoor.Hand Go.Proofs.YtbncnjgflhoneaaGreatDoorW.PrintWords Go.Proofs.YtbncnjgflhoneaaGreatDoorW.PrintLast Go.Proofs.YtbncnjgflhoneaaGreatDoorW.PrintMore
set_option linter.unusedVariables false
set_option linter.unusedSimpArgs false
def spec_l1Null.f (a0_0 : ByteArray) (a0_1 : ByteArray) : Option (Bool) := if a0_0.toList = ([] : List UInt8) then (some (a0_1.toList == ([] : List UInt8))) else (some false)
set_option maxHeartbeats 8000000 in
set_option maxRecDepth 100000 in
theorem spec_l1Null.calls (a0_0 : ByteArray) (a0_1 : ByteArray) (r : Bool) (w : World) (h : spec_l1Null.f a0_0 a0_1 = some r) :
  Calls Tryz.prog 55 #[.agg #[.string a0_0, .string a0_1]] w fun e w' => e = .returned (.bool r) ∧ Below w.heap.size w w' := by
 have hu32 := Tryz.underlying32
 have HB := Aside0.mk (Below.refl w.heap.size w)
 have H := h
 clear h
 unfold spec_l1Null.f at H
 replace H := its_qn_qn H; rcases H with ⟨c2b0, c2b1, H⟩ | ⟨c2b0, c2b1, H⟩
 ·obtain rfl := Option.some.inj H
  go_enter Tryz.func55, Tryz.ntmps55
  go_wp2_with (first | ((with_reducible refine gate_dst (N := 1) rfl ?_); refine bx (cs := #[.string a0_0, .string a0_1]) (t := 32) ?_; intro gb101 hg w3 hbox hb; have BK101 := Aside0.mk (hbox); have GW101 := gS hg; have GE101 := gS hg; replace HB := bS hb; clear hb hbox hg; have hcz4 := cz2 BK101.out; have hfz4 := fz2 BK101.out))
  go_ret
  exact ⟨zr, zB⟩
 ·obtain rfl := Option.some.inj H
  go_enter Tryz.func55, Tryz.ntmps55
  go_wp2_with (first | ((with_reducible refine gate_dst (N := 1) rfl ?_); refine bx (cs := #[.string a0_0, .string a0_1]) (t := 32) ?_; intro gb101 hg w5 hbox hb; have BK101 := Aside0.mk (hbox); have GW101 := gS hg; have GE101 := gS hg; replace HB := bS hb; clear hb hbox hg; have hcz6 := cz2 BK101.out; have hfz6 := fz2 BK101.out))
  go_ret
  exact ⟨zr, zB⟩
end Go.Proofs.YtbncnjgflhoneaaGreatDoor.F
namespace Go.Proofs.YtbncnjgflhoneaaGreatDoor.Hand
open Go.RowKit Go.Proofs.YtbncnjgflhoneaaGreatDoor.F Go.Proofs.YtbncnjgflhoneaaGreatDoorW.PrintWords Go.Proofs.YtbncnjgflhoneaaGreatDoorW.PrintLast Go.Proofs.YtbncnjgflhoneaaGreatDoorW.PrintMore
theorem Ev.exact {α : Type} {g : Nat → Option α} {r : α} (K : Nat) (h : ∀ k, K ≤ k → g k = some r) : Ev g r := ⟨K, h⟩
theorem Ev.call {α β : Type} {g : Nat → Option α} {f : Nat → α → Option β} {h : Nat → Option β} {a : α} {r : β} (hg : Ev g a) (hf : ∀ n, f n a = h n) (hh : Ev h r) : Ev (fun n => (g n).bind (f n)) r := Ev.bind hg (Ev.congr hf hh)
theorem in_tells (a b c : Int) : spec_l1In.f a b c = some (decide (b ≤ a ∧ a ≤ c)) := by
 unfold spec_l1In.f
 by_cases g : a ≥ b
 ·rw [if_pos g]
  exact congrArg some (decide_eq_decide.2 (by omega))
 ·rw [if_neg g, decide_eq_false (by omega)]
theorem within_tells (a b c : Int) : impl_within.f a b c = some (decide (b ≤ a ∧ a ≤ c)) := by
 unfold impl_within.f
 by_cases g : a ≥ b
 ·rw [if_pos g]
  exact congrArg some (decide_eq_decide.2 (by omega))
 ·rw [if_neg g, decide_eq_false (by omega)]
theorem letterB_eq (c : UInt8) : letterB c = ((decide (97 ≤ c.toNat) && decide (c.toNat ≤ 122)) || (decide (48 ≤ c.toNat) && decide (c.toNat ≤ 57))) := rfl
theorem word_from (s : ByteArray) (hs : s.size ≤ 1099511627776) : ∀ (d i k : Nat), s.size = i + d → d < k → spec_l1Word.l0 k s (i : Int) = some ((s.data.toList.drop i).all letterB && decide (1 ≤ s.size ∧ s.size ≤ 8)) := by
 intro d
 induction d with
 | zero =>
  intro i k hi hk
  obtain ⟨k, rfl⟩ : ∃ m, k = m + 1 := ⟨k - 1, by omega⟩
  rw [spec_l1Word.l0, if_neg (by omega), List.drop_eq_nil_of_le (by rw [data_length]; omega), in_tells, Option.bind_some, List.all_nil, Bool.true_and]
  exact congrArg some (decide_eq_decide.2 (by omega))
 | succ d ih =>
  intro i k hi hk
  obtain ⟨k, rfl⟩ : ∃ m, k = m + 1 := ⟨k - 1, by omega⟩
  have hl : i < s.data.toList.length := by rw [data_length]; omega
  have h2 := ih (i + 1) k (by omega) (by omega)
  rw [spec_l1Word.l0, if_pos (by omega), if_pos (by omega), bt_get s i hl, List.drop_eq_getElem_cons hl, List.all_cons, letterB_eq, wrapIn (x := (i : Int) + 1) (by omega) (by omega), show ((i : Int) + 1) = ((i + 1 : Nat) : Int) by omega, h2]
  generalize (s.data.toList[i]).toNat = c
  by_cases a : (c : Int) < 97
  ·rw [if_pos a, decide_eq_false (p := 97 ≤ c) (by omega), Bool.false_and, Bool.false_or]
   by_cases b : (c : Int) < 48
   ·rw [if_pos b, decide_eq_false (p := 48 ≤ c) (by omega)]; rfl
   ·rw [if_neg b, decide_eq_true (p := 48 ≤ c) (by omega)]
    by_cases e : (c : Int) > 57
    ·rw [if_pos e, decide_eq_false (p := c ≤ 57) (by omega)]; rfl
    ·rw [if_neg e, decide_eq_true (p := c ≤ 57) (by omega)]; rfl
  ·rw [if_neg a, decide_eq_true (p := 97 ≤ c) (by omega)]
   by_cases b : (c : Int) > 122
   ·rw [if_pos b, if_neg (by omega), if_pos (by omega), decide_eq_false (p := c ≤ 122) (by omega), decide_eq_false (p := c ≤ 57) (by omega), Bool.and_false, Bool.and_false]; rfl
   ·rw [if_neg b, decide_eq_true (p := c ≤ 122) (by omega)]; rfl
theorem word_tells (s : ByteArray) (hs : s.size ≤ 1099511627776) : Ev (fun k => spec_l1Word.f k s) (labelB s) := by
 refine Ev.exact (s.size + 1) fun k hk => ?_
 have h := word_from s hs s.size 0 k (by omega) (by omega)
 unfold labelB
 rw [Bool.and_comm]
 exact h
theorem sline_from (s : ByteArray) (hs : s.size ≤ 1099511627776) : ∀ (d i k : Nat), s.size = i + d → d < k → spec_l2LineOk.l0 k s (i : Int) = some ((s.data.toList.drop i).all signB && decide (s.size ≤ 40)) := by
 intro d
 induction d with
 | zero =>
  intro i k hi hk
  obtain ⟨k, rfl⟩ : ∃ m, k = m + 1 := ⟨k - 1, by omega⟩
  rw [spec_l2LineOk.l0, if_neg (by omega), List.drop_eq_nil_of_le (by rw [data_length]; omega), List.all_nil, Bool.true_and]
  exact congrArg some (decide_eq_decide.2 (by omega))
 | succ d ih =>
  intro i k hi hk
  obtain ⟨k, rfl⟩ : ∃ m, k = m + 1 := ⟨k - 1, by omega⟩
  have hl : i < s.data.toList.length := by rw [data_length]; omega
  rw [spec_l2LineOk.l0, if_pos (by omega), if_pos (by omega), bt_get s i hl, List.drop_eq_getElem_cons hl, List.all_cons]
  have h1 : signB s.data.toList[i] = (decide (32 ≤ (s.data.toList[i]).toNat) && decide ((s.data.toList[i]).toNat ≤ 126)) := rfl
  by_cases a : ((s.data.toList[i]).toNat : Int) < 32
  ·rw [if_pos a, h1, decide_eq_false (by omega)]
   rfl
  rw [if_neg a]
  by_cases b : ((s.data.toList[i]).toNat : Int) > 126
  ·rw [if_pos b, h1, decide_eq_false (p := (s.data.toList[i]).toNat ≤ 126) (by omega), Bool.and_false]
   rfl
  rw [if_neg b, h1, decide_eq_true (by omega), decide_eq_true (by omega), wrapIn (by omega) (by omega)]
  exact ih (i + 1) k (by omega) (by omega)
theorem sline_tells (s : ByteArray) (hs : s.size ≤ 1099511627776) : Ev (fun k => spec_l2LineOk.f k s) (lineB s) :=
 Ev.exact (s.size + 1) fun k hk => sline_from s hs s.size 0 k (by omega) (by omega)
theorem sbody_from (l : List ByteArray) (hl : l.length ≤ 1099511627776) (hs : ∀ s ∈ l, s.size ≤ 1099511627776) : ∀ (d i : Nat), l.length = i + d → Ev (fun k => spec_l2BodyOk.l0 k l (i : Int)) ((l.drop i).all lineB && decide (l.length ≤ 12)) := by
 intro d
 induction d with
 | zero =>
  intro i hi
  refine Ev.step (f := fun _ => some (decide ((l.length : Int) ≤ 12))) (fun k => by rw [spec_l2BodyOk.l0, if_neg (by omega)]) ?_
  rw [List.drop_eq_nil_of_le (by omega), List.all_nil, Bool.true_and, show decide ((l.length : Int) ≤ 12) = decide (l.length ≤ 12) from decide_eq_decide.2 (by omega)]
  exact Ev.now _
 | succ d ih =>
  intro i hi
  have hlt : i < l.length := by omega
  refine Ev.step (f := fun k => (spec_l2LineOk.f k l[i]).bind fun t => if t = true then spec_l2BodyOk.l0 k l ((i + 1 : Nat) : Int) else some false)
   (fun k => by rw [spec_l2BodyOk.l0, if_pos (by omega), if_pos (by omega), rdOf_mem _ _ _ hlt, wrapIn (x := (i : Int) + 1) (by omega) (by omega)]; rfl) ?_
  rw [List.drop_eq_getElem_cons hlt, List.all_cons]
  have h1 := sline_tells l[i] (hs _ (List.getElem_mem hlt))
  cases hb : lineB l[i]
  ·rw [hb] at h1
   exact Ev.call h1 (h := fun _ => some false) (fun n => by rw [if_neg (by decide)]) (Ev.now _)
  ·rw [hb] at h1
   rw [Bool.true_and]
   exact Ev.call h1 (fun n => by rw [if_pos rfl]) (ih (i + 1) (by omega))
theorem sbody_tells (l : List ByteArray) (hl : l.length ≤ 1099511627776) (hs : ∀ s ∈ l, s.size ≤ 1099511627776) : Ev (fun k => spec_l2BodyOk.f k l) (bodyB l) := by
 have h := sbody_from l hl hs l.length 0 (by omega)
 unfold bodyB
 rw [Bool.and_comm]
 exact h
theorem snull_tells (u d : ByteArray) : spec_l1Null.f u d = some (nullB u d) := by
 unfold spec_l1Null.f nullB
 by_cases h : u.toList = []
 ·rw [if_pos h, h]; rfl
 ·rw [if_neg h, beq_eq_false_iff_ne.2 h]; rfl
end Go.Proofs.YtbncnjgflhoneaaGreatDoor.Hand
