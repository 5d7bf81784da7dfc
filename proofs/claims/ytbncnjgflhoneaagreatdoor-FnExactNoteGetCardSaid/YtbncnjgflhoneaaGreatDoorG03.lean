/- Of this claim, merged by program: HApart, F115, F114, HBody, F33, HLabel, HStr, F70, F34, F71, F38, F72. -/
import Derived.Maps.OwnSet
import Derived.DeepKeys5
import Derived.Shelf.Strings.SlTrimAscii
import Derived.Test.YtbncnjgflhoneaaGreatDoorG02
namespace Go.Proofs.YtbncnjgflhoneaaGreatDoor.Hand
open Go.RowKit Go.Proofs.YtbncnjgflhoneaaGreatDoor.F Go.Proofs.YtbncnjgflhoneaaGreatDoorW.PrintWords Go.Proofs.YtbncnjgflhoneaaGreatDoorW.PrintLast Go.Proofs.YtbncnjgflhoneaaGreatDoorW.PrintMore
def sameB (a b : S32) : Bool := a.f0.data.toList == b.f0.data.toList && a.f1.data.toList == b.f1.data.toList
def apartB : List S32 → Bool
  | [] => true
  | a :: l => l.all (fun b => !sameB a b) && apartB l
def tinyB (s : ByteArray) : Bool := decide (s.size ≤ 1073741824)
theorem sameB_iff (a b : S32) : sameB a b = true ↔ a.f0 = b.f0 ∧ a.f1 = b.f1 := by
  have e : ∀ x y : ByteArray, (x.data.toList == y.data.toList) = true ↔ x = y := by
    intro x y
    rw [beq_iff_eq]
    constructor
    · intro h
      cases x; cases y
      simpa using h
    · rintro rfl; rfl
  unfold sameB
  rw [Bool.and_eq_true, e, e]
theorem laidB : laidOutB Tryz.prog = true := by kernel_rfl
theorem keyed : Maps.Keyed Tryz.prog 32 := Maps.Keyed.of_law (deep_law_gate laidB (of_decide_eq_true (by kernel_rfl)) (of_decide_eq_true (by kernel_rfl)) (by kernel_rfl) (by kernel_rfl))
theorem key_addr (u d : ByteArray) (hu : u.size ≤ maxLen) (hd : d.size ≤ maxLen) : ∃ l, keyOf Tryz.prog 32 (.agg #[.string u, .string d]) = some l := by
  have k1 : Tryz.prog.keyType 32 = true := by kernel_rfl
  have k2 : Tryz.prog.cellsOf 32 = 2 := by kernel_rfl
  have k3 : Tryz.prog.cellsOf 9 = 1 := by kernel_rfl
  obtain ⟨n, k4⟩ : ∃ n, Tryz.prog.types.size + 1 = n + 1 + 1 := ⟨Tryz.prog.types.size - 1, by kernel_rfl⟩
  unfold keyOf
  rw [Tryz.underlying32, k4]
  simp only [k1, Value.formed, Tryz.underlying32, k2, Value.cells, Program.keyLits]
  simp [k3, Tryz.underlying9, hu, hd]
set_option maxRecDepth 100000 in
noncomputable def keyL (a : S32) : Lit := (keyOf Tryz.prog 32 (.agg #[.string a.f0, .string a.f1])).getD (.bool false)
def Tiny (a : S32) : Prop := a.f0.size ≤ 1073741824 ∧ a.f1.size ≤ 1073741824
set_option maxRecDepth 100000 in
theorem keyL_of (a : S32) (h : Tiny a) : keyOf Tryz.prog 32 (.agg #[.string a.f0, .string a.f1]) = some (keyL a) := by
  obtain ⟨l, hl⟩ := key_addr a.f0 a.f1 (by have := h.1; unfold maxLen; omega) (by have := h.2; unfold maxLen; omega)
  unfold keyL
  rw [hl]
  rfl
set_option maxRecDepth 100000 in
theorem keyL_lit (a : S32) (h : Tiny a) : WideAt.IsKeyLit (keyL a) := keyed.key (keyL_of a h)
set_option maxRecDepth 100000 in
theorem keyL_same (a b : S32) (ha : Tiny a) (hb : Tiny b) : (keyL a).sameKey (keyL b) = sameB a b := by
  rw [Bool.eq_iff_iff, sameB_iff]
  constructor
  · intro h
    have e := WideAt.sameKey_eq h
    have h2 := keyL_of b hb
    rw [← e] at h2
    have := keyed.inj (keyL_of a ha) h2
    simpa using this
  · rintro ⟨h1, h2⟩
    have e : keyL a = keyL b := by unfold keyL; rw [h1, h2]
    rw [e]
    exact WideAt.sameKey_self (keyL_lit b hb)
theorem fold_len : ∀ (xs acc : List Lit), (xs.foldl Maps.addKey acc).length ≤ acc.length + xs.length ∧
    ((xs.foldl Maps.addKey acc).length = acc.length + xs.length ↔ xs.Pairwise (fun a b => a.sameKey b = false) ∧ ∀ x ∈ xs, acc.any (fun y => y.sameKey x) = false)
  | [], acc => by simp
  | x :: xs, acc => by
    simp only [List.foldl_cons, List.length_cons]
    by_cases h : acc.any (fun y => y.sameKey x) = true
    · have e : Maps.addKey acc x = acc := by unfold Maps.addKey; rw [if_pos h]
      rw [e]
      obtain ⟨h1, _⟩ := fold_len xs acc
      refine ⟨by omega, ⟨fun hh => by omega, fun hh => ?_⟩⟩
      have := hh.2 x (by simp)
      rw [h] at this
      cases this
    · have h' := Bool.eq_false_iff.2 h
      have e : Maps.addKey acc x = acc ++ [x] := by unfold Maps.addKey; rw [if_neg h]
      rw [e]
      obtain ⟨h1, h2⟩ := fold_len xs (acc ++ [x])
      rw [List.length_append, List.length_singleton] at h1 h2
      refine ⟨by omega, ?_⟩
      rw [show acc.length + (xs.length + 1) = acc.length + 1 + xs.length by omega, h2]
      simp only [List.any_append, List.any_cons, List.any_nil, Bool.or_false, List.pairwise_cons, List.mem_cons, Bool.or_eq_false_iff]
      constructor
      · rintro ⟨p, q⟩
        exact ⟨⟨fun y hy => (q y hy).2, p⟩, fun y hy => by
          rcases hy with rfl | hy
          · exact h'
          · exact (q y hy).1⟩
      · rintro ⟨⟨p, q⟩, s⟩
        exact ⟨q, fun y hy => ⟨s y (.inr hy), p y hy⟩⟩
set_option maxRecDepth 100000 in
theorem apart_iff : ∀ l : List S32, (∀ a ∈ l, Tiny a) → (apartB l = true ↔ (l.map keyL).Pairwise (fun a b => a.sameKey b = false))
  | [], _ => by simp [apartB]
  | a :: l, h => by
    rw [apartB, Bool.and_eq_true, List.map_cons, List.pairwise_cons, apart_iff l (fun b hb => h b (by simp [hb])), List.all_eq_true]
    refine and_congr_left fun _ => ?_
    constructor
    · intro hh x hx
      obtain ⟨b, hb, rfl⟩ := List.mem_map.1 hx
      rw [keyL_same a b (h a (by simp)) (h b (by simp [hb]))]
      simpa using hh b hb
    · intro hh b hb
      have := hh _ (List.mem_map_of_mem hb)
      rw [keyL_same a b (h a (by simp)) (h b (by simp [hb]))] at this
      simp [this]
def yes : DataW Unit := .lit (.bool true)
noncomputable def seen (l : List S32) : DataW Unit := Maps.setOf yes (l.map keyL)
set_option maxRecDepth 100000 in
theorem seen_size (l : List S32) (h : ∀ a ∈ l, Tiny a) : decide (Maps.size (seen l) = l.length) = apartB l := by
  have hk : ∀ x ∈ l.map keyL, WideAt.IsKeyLit x := by
    intro x hx
    obtain ⟨b, hb, rfl⟩ := List.mem_map.1 hx
    exact keyL_lit b (h b hb)
  have h2 := (fold_len (l.map keyL) []).2
  rw [Bool.eq_iff_iff, decide_eq_true_iff, apart_iff l h]
  unfold seen
  rw [Maps.size_setOf _ _ hk]
  simpa using h2
set_option maxRecDepth 100000 in
theorem seen_snoc (l : List S32) (a : S32) : seen (l ++ [a]) = (seen l).put (keyL a) yes := by
  unfold seen
  rw [List.map_append, List.map_singleton, Maps.setOf_snoc]
theorem rd_T32_mem (l : List S32) (k : Nat) (h : k < l.length) : rd_T32 l (k : Int) = l[k] := by
  unfold rd_T32
  simp [List.getD_eq_getElem?_getD, h]
def Has (w : World) (l : List S32) (k : Nat) (wr : World) : Prop := wr.ownsMap Tryz.prog 32 (plainElem (H := Unit) Tryz.prog 4) w.heap.size k (seen (l.take k)) ∧ Below w.heap.size w wr
set_option maxHeartbeats 1000000 in
set_option maxRecDepth 100000 in
theorem distinct_calls (A0 : Option Addr) (c0 : Nat) (l0 : List S32) (w : World) (hr0 : Kd.C k32 w A0 l0.length l0) (ht : ∀ a ∈ l0, Tiny a) :
    Calls Tryz.prog 74 #[.slice A0 l0.length c0] w fun e w' => e = .returned (.bool (apartB l0)) ∧ Below w.heap.size w w' := by
  have hm := hr0.2.1
  have HR0 := Aside0.mk hr0
  have HT := Aside0.mk ht
  have HS := Aside0.mk (seen_size l0 ht)
  clear hr0 ht
  have hmm := @run_makeMap Tryz.prog
  have hu32 := Tryz.underlying32
  have H0 := Aside0.mk (show Has w l0 0 (w.alloc (.map #[] 0)) from ⟨World.ownsMap_made _ _ _ _, (Below.refl _ _).alloc (Nat.le_refl _) _⟩)
  go_enter Tryz.func74, Tryz.ntmps74
  go_wp2
  go_loopw [9] (fun i wr => ∃ k : Nat, k ≤ l0.length ∧ i = .int .i64 k ∧ Aside0 (Has w l0 k wr)) (fun i _ => l0.length - (intOf i).toNat)
  case atStart => exact ⟨0, by omega, rfl, H0⟩
  case round =>
    clear H0
    obtain ⟨k, hk, rfl, HH⟩ := hrel
    by_cases hlt : k < l0.length
    · obtain ⟨ad, e, hx0, hx1⟩ := at_T32 HR0.out k (by omega) (by omega)
      cases e
      rw [rd_T32_mem _ _ hlt, Int.toNat_natCast] at hx0 hx1
      replace hx0 := (HH.out.2.cell (World.block_lt_of_cell? w _ hx0)).trans hx0
      replace hx1 := (HH.out.2.cell (World.block_lt_of_cell? w _ hx1)).trans hx1
      have HK := Aside0.mk (keyL_of _ (HT.out _ (List.getElem_mem hlt)))
      have HE := Aside0.mk (show seen (l0.take (k + 1)) = (seen (l0.take k)).put (keyL l0[k]) yes by rw [List.take_succ_eq_append_getElem hlt, seen_snoc])
      generalize l0[k] = a at hx0 hx1 HK HE
      go_wp2_with (at_mapUpdate; refine wpList_mapUpdate_own _ rfl _ _ _ 132 rfl 32 4 keyed Tryz.underlying132 (plainElem (H := Unit) Tryz.prog 4) w.heap.size k (seen (l0.take k)) rfl (HH.out.1.alloc _) (by unfold maxLen; omega) _ (.bool true) (keyL a) rfl rfl HK.out yes [] (by simp [plainElem, Tryz.underlying4, yes]) ?_; intro w1 hown1 hgrow1; have HO := Aside0.mk hown1; have HG := Aside0.mk hgrow1; clear hown1 hgrow1)
      go_roundw
      case rel => exact ⟨k + 1, by omega, by go_num, ⟨⟨by rw [HE.out]; exact HO.out, (HH.out.2.alloc HH.out.2.size _).grown HG.out (by have := HH.out.2.size; simp; omega) (fun j hj => by injection hj with hj; omega)⟩⟩⟩
      case measure => simp [intOf]; omega
    · obtain rfl : k = l0.length := by omega
      clear hlt
      have hown := HH.out.1
      rw [List.take_length] at hown
      have HO := Aside0.mk hown
      clear hown
      obtain ⟨n, hn⟩ : ∃ n, Maps.size (seen l0) = n := ⟨_, rfl⟩
      have hb := HS.out
      rw [hn] at hb
      cases hr : apartB l0
      all_goals
        rw [hr] at hb
        have HR := Aside0.mk hr
        clear hr HS
      · have d0 : ((n : Int) == (l0.length : Int)) = false := by
          have := of_decide_eq_false hb
          exact beq_eq_false_iff_ne.2 (by omega)
        have d1 : (n == l0.length) = false := beq_eq_false_iff_ne.2 (of_decide_eq_false hb)
        clear hb
        go_wp2_with (at_len; refine wpList_len_own _ rfl _ 132 rfl 32 4 Tryz.underlying132 (plainElem (H := Unit) Tryz.prog 4) w.heap.size l0.length (seen l0) rfl HO.out ?_)
        go_ret
        exact ⟨by rw [HR.out]; rfl, HH.out.2⟩
      · have d0 : ((n : Int) == (l0.length : Int)) = true := beq_iff_eq.2 (by have := of_decide_eq_true hb; omega)
        have d1 : (n == l0.length) = true := beq_iff_eq.2 (of_decide_eq_true hb)
        clear hb
        go_wp2_with (at_len; refine wpList_len_own _ rfl _ 132 rfl 32 4 Tryz.underlying132 (plainElem (H := Unit) Tryz.prog 4) w.heap.size l0.length (seen l0) rfl HO.out ?_)
        go_ret
        exact ⟨by rw [HR.out]; rfl, HH.out.2⟩
end Go.Proofs.YtbncnjgflhoneaaGreatDoor.Hand
namespace Go.Proofs.YtbncnjgflhoneaaGreatDoor.F
open Go.RowKit Go.Proofs.YtbncnjgflhoneaaGreatDoor.Hand Go.Proofs.YtbncnjgflhoneaaGreatDoorW.PrintWords Go.Proofs.YtbncnjgflhoneaaGreatDoorW.PrintLast Go.Proofs.YtbncnjgflhoneaaGreatDoorW.PrintMore
attribute [local go_sem] max2_int min2_int max_two min_two max_three min_three max_four min_four
set_option linter.unusedVariables false
set_option linter.unusedSimpArgs false
def impl_isLine.l0 : Nat → ByteArray → Int → Int → Option (Bool)
 | 0, _, _, _ => none
 | k + 1, x0, x5, x6 => if x6 < x5 then (if 0 ≤ x6 then (if x6 < (x0.size : Int) then (if (bt x0 x6) < 32 then (some false) else (if (bt x0 x6) > 126 then (some false) else (impl_isLine.l0 k x0 x5 (wrap64 (x6 + 1))))) else (none)) else (none)) else (some (decide ((x0.size : Int) ≤ 40)))
def impl_isLine.f (k : Nat) (a0 : ByteArray) : Option (Bool) := impl_isLine.l0 k a0 (a0.size : Int) 0
theorem impl_isLine.mono_l : ∀ k, (∀ y0 y1 y2, LeO (impl_isLine.l0 k y0 y1 y2) (impl_isLine.l0 (k + 1) y0 y1 y2))
 | 0 => fun _ _ _ r h => by simp [impl_isLine.l0] at h
 | k + 1 => by
  have ih0 := impl_isLine.mono_l k
  ·intro y0 y1 y2
   unfold impl_isLine.l0
   repeat' with_reducible first | apply ih0 | exact LeO.refl _ | exact LeO.none _ | apply LeO.ite | refine LeO.bind ?_ fun _ => ?_
theorem impl_isLine.mono : ∀ a0 k, LeO (impl_isLine.f k a0) (impl_isLine.f (k + 1) a0) := by
 intro a0 k
 have ih0 := impl_isLine.mono_l k
 unfold impl_isLine.f
 repeat' with_reducible first | apply ih0 | exact LeO.refl _ | exact LeO.none _ | apply LeO.ite | refine LeO.bind ?_ fun _ => ?_
set_option maxHeartbeats 8000000 in
set_option maxRecDepth 100000 in
theorem impl_isLine.calls (k : Nat) (a0 : ByteArray) (r : Bool) (w : World) (h : impl_isLine.f k a0 = some r) :
  Calls Tryz.prog 115 #[.string a0] w fun e w' => e = .returned (.bool r) ∧ Drawn0 w w' := by
 have H := h
 clear h
 unfold impl_isLine.f at H
 have H' := Aside0.mk H
 clear H
 go_enter Tryz.func115, Tryz.ntmps115
 go_wp2
 go_loopg [6] k (fun kq v6 w' => ∃ (x6_1 : Int), v6 = .int .i64 x6_1 ∧ Aside0 (impl_isLine.l0 kq a0 (a0.size : Int) x6_1 = some r) ∧ Aside0 (kq ≤ k) ∧ Drawn0 w w')
 case atStart => exact ⟨(0), zs, H', ⟨Nat.le_refl _⟩, zD⟩
 case round =>
  clear H'
  obtain ⟨x6_1, rfl, HA, HK1, ⟨m1, rfl⟩⟩ := hrel
  cases gk with
  | zero => exact absurd HA.out (by simp [impl_isLine.l0])
  | succ k1 =>
   have H := HA.out
   clear HA
   simp only [impl_isLine.l0] at H
   replace H := its_d_d H; rcases H with ⟨c2b0, H⟩ | ⟨c2b0, H⟩
   ·replace H := itn_d H; obtain ⟨c3b0, H⟩ := H
    replace H := itn_d H; obtain ⟨c4b0, H⟩ := H
    replace H := its_d_d H; rcases H with ⟨c6b0, H⟩ | ⟨c6b0, H⟩
    ·obtain rfl := Option.some.inj H
     have p5 : 0 ≤ (x6_1 : Int) := of_decide_eq_true za
     have q5 : x6_1 < (a0.size : Int) := of_decide_eq_true za
     have hx5 := bt_at a0 x6_1
     replace p5 := eq_true p5
     replace q5 := eq_true q5
     go_wp2
     go_ret
     exact ⟨zs, zD⟩
    ·replace H := its_d_d H; rcases H with ⟨c8b0, H⟩ | ⟨c8b0, H⟩
     ·obtain rfl := Option.some.inj H
      have p5 : 0 ≤ (x6_1 : Int) := of_decide_eq_true za
      have q5 : x6_1 < (a0.size : Int) := of_decide_eq_true za
      have hx5 := bt_at a0 x6_1
      replace p5 := eq_true p5
      replace q5 := eq_true q5
      have p7 : 0 ≤ (x6_1 : Int) := of_decide_eq_true za
      have q7 : x6_1 < (a0.size : Int) := of_decide_eq_true za
      have hx7 := bt_at a0 x6_1
      replace p7 := eq_true p7
      replace q7 := eq_true q7
      go_wp2
      go_ret
      exact ⟨zs, zD⟩
     ·have H' := Aside0.mk H
      clear H
      have p5 : 0 ≤ (x6_1 : Int) := of_decide_eq_true za
      have q5 : x6_1 < (a0.size : Int) := of_decide_eq_true za
      have hx5 := bt_at a0 x6_1
      replace p5 := eq_true p5
      replace q5 := eq_true q5
      have p7 : 0 ≤ (x6_1 : Int) := of_decide_eq_true za
      have q7 : x6_1 < (a0.size : Int) := of_decide_eq_true za
      have hx7 := bt_at a0 x6_1
      replace p7 := eq_true p7
      replace q7 := eq_true q7
      go_wp2
      go_roundg k1
      case measure => have := HK1.out; omega
      case rel => exact ⟨(wrap64 (x6_1 + 1)), zs, H', ⟨by have := HK1.out; omega⟩, zD⟩
   ·obtain rfl := Option.some.inj H
    go_wp2
    go_ret
    exact ⟨zs, zD⟩
def impl_isBody_1.f (k : Nat) (a0 : ByteArray) : Option (Bool) := (impl_isLine.f k a0).bind fun t101 => (some (!t101))
theorem impl_isBody_1.mono : ∀ a0 k, LeO (impl_isBody_1.f k a0) (impl_isBody_1.f (k + 1) a0) := by
 intro a0 k
 unfold impl_isBody_1.f
 repeat' with_reducible first | apply impl_isLine.mono | exact LeO.refl _ | exact LeO.none _ | apply LeO.ite | refine LeO.bind ?_ fun _ => ?_
set_option maxHeartbeats 8000000 in
set_option maxRecDepth 100000 in
theorem impl_isBody_1.calls (k : Nat) (a0 : ByteArray) (r : Bool) (w : World) (h : impl_isBody_1.f k a0 = some r) :
  Calls Tryz.prog 114 #[.string a0] w fun e w' => e = .returned (.bool r) ∧ Drawn0 w w' := by
 have H := h
 clear h
 unfold impl_isBody_1.f at H
 replace H := bnd H; obtain ⟨t101, A2, H⟩ := H
 obtain rfl := Option.some.inj H
 go_enter Tryz.func114, Tryz.ntmps114
 go_wp2_with (first | ((with_reducible refine gate_callee (f := 115) rfl ?_); refine gv 4 Tryz.func115 _ (impl_isLine.calls (w := _) (h := A2.out)) ?_; rintro w' ⟨nd, rfl⟩))
 go_ret
 exact ⟨zs, zD⟩
end Go.Proofs.YtbncnjgflhoneaaGreatDoor.F
namespace Go.Proofs.YtbncnjgflhoneaaGreatDoor.Hand
open Go.RowKit Go.Proofs.YtbncnjgflhoneaaGreatDoor.F Go.Proofs.YtbncnjgflhoneaaGreatDoorW.PrintWords Go.Proofs.YtbncnjgflhoneaaGreatDoorW.PrintLast Go.Proofs.YtbncnjgflhoneaaGreatDoorW.PrintMore
def smallB (s : ByteArray) : Bool := decide (s.size ≤ 1099511627776)
def signB (c : UInt8) : Bool := 32 ≤ c && c ≤ 126
def lineB (s : ByteArray) : Bool := s.data.toList.all signB && decide (s.size ≤ 40)
def bodyB (l : List ByteArray) : Bool := decide (l.length ≤ 12) && l.all lineB
def impl_isBody.f (l : List ByteArray) : Option Bool := if l.all smallB = true then some (bodyB l) else none
theorem wrapIn {x : Int} (h0 : 0 ≤ x) (h1 : x ≤ 9223372036854775807) : wrap64 x = x := by
  unfold wrap64
  omega
theorem bt_get (s : ByteArray) (i : Nat) (h : i < s.data.toList.length) : bt s i = ((s.data.toList[i]).toNat : Int) := by
  have h' : i < s.size := by rw [data_length] at h; exact h
  unfold bt
  rw [dif_pos (by simpa using h')]
  simp [ByteArray.getElem_eq_getElem_data]
theorem line_from (s : ByteArray) (hs : s.size ≤ 1099511627776) : ∀ (d i k : Nat), s.size = i + d → d < k → impl_isLine.l0 k s (s.size : Int) (i : Int) = some ((s.data.toList.drop i).all signB && decide (s.size ≤ 40)) := by
  intro d
  induction d with
  | zero =>
    intro i k hi hk
    obtain ⟨k, rfl⟩ : ∃ m, k = m + 1 := ⟨k - 1, by omega⟩
    rw [impl_isLine.l0, if_neg (by omega), List.drop_eq_nil_of_le (by rw [data_length]; omega), List.all_nil, Bool.true_and]
    exact congrArg some (decide_eq_decide.2 (by omega))
  | succ d ih =>
    intro i k hi hk
    obtain ⟨k, rfl⟩ : ∃ m, k = m + 1 := ⟨k - 1, by omega⟩
    have hl : i < s.data.toList.length := by rw [data_length]; omega
    rw [impl_isLine.l0, if_pos (by omega), if_pos (by omega), if_pos (by omega), bt_get s i hl, List.drop_eq_getElem_cons hl, List.all_cons]
    have h1 : signB s.data.toList[i] = (decide (32 ≤ (s.data.toList[i]).toNat) && decide ((s.data.toList[i]).toNat ≤ 126)) := rfl
    by_cases a : ((s.data.toList[i]).toNat : Int) < 32
    · rw [if_pos a, h1, decide_eq_false (by omega)]
      rfl
    rw [if_neg a]
    by_cases b : ((s.data.toList[i]).toNat : Int) > 126
    · rw [if_pos b, h1, decide_eq_false (p := (s.data.toList[i]).toNat ≤ 126) (by omega), Bool.and_false]
      rfl
    rw [if_neg b, h1, decide_eq_true (by omega), decide_eq_true (by omega), wrapIn (by omega) (by omega)]
    exact ih (i + 1) k (by omega) (by omega)
theorem line_tells (s : ByteArray) (hs : s.size ≤ 1099511627776) : impl_isLine.f (s.size + 1) s = some (lineB s) := line_from s hs s.size 0 _ (by omega) (by omega)
theorem notline_tells (s : ByteArray) (hs : s.size ≤ 1099511627776) : impl_isBody_1.f (s.size + 1) s = some (!lineB s) := by
  unfold impl_isBody_1.f
  rw [line_tells s hs]
  rfl
theorem rdOf_mem {α : Type} (d : α) (l : List α) (k : Nat) (h : k < l.length) : rdOf d l (k : Int) = l[k] := by
  unfold rdOf
  simp [List.getD_eq_getElem?_getD, h]
set_option maxHeartbeats 1000000 in
set_option maxRecDepth 100000 in
theorem index_calls (A0 : Option Addr) (c0 : Nat) (l0 : List ByteArray) (w : World) (hr0 : Kd.C Kd.string w A0 l0.length l0) (hs : ∀ s ∈ l0, s.size ≤ 1099511627776) :
    Calls Tryz.prog 148 #[.slice A0 l0.length c0, .func (Fn.func 114) #[] #[]] w fun e w' => ∃ v : Int, e = .returned (.int .i64 v) ∧ (decide (0 ≤ v) = !l0.all lineB) ∧ Drawn0 w w' := by
  have hm := hr0.2.1
  have HR0 := Aside0.mk hr0
  have HS := Aside0.mk hs
  clear hr0 hs
  go_enter Tryz.func148, Tryz.ntmps148
  go_wp2
  go_loopw [8] (fun i wr => ∃ k : Nat, k ≤ l0.length ∧ i = .int .i64 k ∧ Aside0 ((l0.take k).all lineB = true) ∧ Drawn0 w wr) (fun i _ => l0.length - (intOf i).toNat)
  case atStart => exact ⟨0, by omega, rfl, ⟨by simp⟩, Drawn0.refl _⟩
  case round =>
    obtain ⟨k, hk, rfl, HA, ⟨m, rfl⟩⟩ := hrel
    by_cases hlt : k < l0.length
    · obtain ⟨ad, e, hx⟩ := Kd.at_string HR0.out k (by omega) (by omega)
      cases e
      rw [rdOf_mem _ _ _ hlt, Int.toNat_natCast] at hx
      have hz : (l0[k]).size ≤ 1099511627776 := HS.out _ (List.getElem_mem hlt)
      have ht : l0.take (k + 1) = l0.take k ++ [l0[k]] := List.take_succ_eq_append_getElem hlt
      have HL := Aside0.mk (notline_tells _ hz)
      by_cases hb : lineB l0[k] = true
      · rw [hb] at HL
        have HN := Aside0.mk (show (l0.take (k + 1)).all lineB = true by rw [ht, List.all_append, HA.out]; simp [hb])
        clear ht hz hb
        go_wp2_with (go_at_call 114; (with_reducible refine (impl_isBody_1.calls _ _ (!true) _ HL.out).mono ?_); rintro e w' ⟨rfl, ⟨nd, rfl⟩⟩)
        go_roundw
        case rel => exact ⟨k + 1, by omega, by go_num, HN, by repeat (first | exact Drawn0.refl _ | apply Drawn0.step)⟩
        case measure => simp [intOf]; omega
      · have hb := Bool.eq_false_iff.2 hb
        rw [hb] at HL
        have HN := Aside0.mk (show l0.all lineB = false by
          rw [Bool.eq_false_iff]
          intro h
          have := (List.all_eq_true.1 h) _ (List.getElem_mem hlt)
          rw [hb] at this
          cases this)
        clear ht hz hb
        go_wp2_with (go_at_call 114; (with_reducible refine (impl_isBody_1.calls _ _ (!false) _ HL.out).mono ?_); rintro e w' ⟨rfl, ⟨nd, rfl⟩⟩)
        go_ret
        exact ⟨_, rfl, by rw [HN.out]; simp, by repeat (first | exact Drawn0.refl _ | apply Drawn0.step)⟩
    · obtain rfl : k = l0.length := by omega
      have HN := Aside0.mk (show l0.all lineB = true by have := HA.out; rwa [List.take_length] at this)
      clear hlt
      go_wp2
      go_ret
      exact ⟨_, rfl, by rw [HN.out]; rfl, by repeat (first | exact Drawn0.refl _ | apply Drawn0.step)⟩
set_option maxHeartbeats 1000000 in
set_option maxRecDepth 100000 in
theorem contains_calls (A0 : Option Addr) (c0 : Nat) (l0 : List ByteArray) (w : World) (hr0 : Kd.C Kd.string w A0 l0.length l0) (hs : ∀ s ∈ l0, s.size ≤ 1099511627776) :
    Calls Tryz.prog 113 #[.slice A0 l0.length c0, .func (Fn.func 114) #[] #[]] w fun e w' => e = .returned (.bool (!l0.all lineB)) ∧ Drawn0 w w' := by
  have HR0 := Aside0.mk hr0
  have HS := Aside0.mk hs
  clear hr0 hs
  go_enter Tryz.func113, Tryz.ntmps113
  go_wp2_with (go_at_call 148; refine (index_calls A0 c0 l0 _ HR0.out HS.out).mono ?_; rintro e w' ⟨v, rfl, hv, ⟨nd, rfl⟩⟩)
  go_ret
  exact ⟨rfl, by repeat (first | exact Drawn0.refl _ | apply Drawn0.step)⟩
set_option maxHeartbeats 1000000 in
set_option maxRecDepth 100000 in
theorem impl_isBody.calls (A0 : Option Addr) (c0 : Nat) (l0 : List ByteArray) (r : Bool) (w : World) (hr0 : Kd.C Kd.string w A0 l0.length l0) (_hc0 : l0.length ≤ c0) (h : impl_isBody.f l0 = some r) :
    Calls Tryz.prog 75 #[.slice A0 l0.length c0] w fun e w' => e = .returned (.bool r) ∧ Drawn0 w w' := by
  unfold impl_isBody.f at h
  split at h
  · rename_i hs
    have hs : ∀ s ∈ l0, s.size ≤ 1099511627776 := fun s hm => by simpa [smallB] using List.all_eq_true.1 hs s hm
    have HS := Aside0.mk hs
    have HR0 := Aside0.mk hr0
    clear hs hr0
    injection h with h
    unfold bodyB at h
    by_cases c1 : l0.length ≤ 12
    · rw [decide_eq_true c1, Bool.true_and] at h
      subst h
      have c1b0 : decide ((l0.length : Int) ≤ 12) = true := decide_eq_true (by omega)
      have c1b1 : decide (l0.length ≤ 12) = true := decide_eq_true c1
      clear c1
      go_enter Tryz.func75, Tryz.ntmps75
      go_wp2_with (go_at_call 113; refine (contains_calls A0 c0 l0 _ HR0.out HS.out).mono ?_; rintro e w' ⟨rfl, ⟨nd, rfl⟩⟩)
      go_ret
      exact ⟨by first | rfl | simp, by repeat (first | exact Drawn0.refl _ | apply Drawn0.step)⟩
    · rw [decide_eq_false c1, Bool.false_and] at h
      subst h
      have c1b0 : decide ((l0.length : Int) ≤ 12) = false := decide_eq_false (by omega)
      have c1b1 : decide (l0.length ≤ 12) = false := decide_eq_false c1
      clear c1
      go_enter Tryz.func75, Tryz.ntmps75
      go_wp2
      go_ret
      exact ⟨rfl, Drawn0.refl _⟩
  · cases h
end Go.Proofs.YtbncnjgflhoneaaGreatDoor.Hand
namespace Go.Proofs.YtbncnjgflhoneaaGreatDoor.F
open Go.RowKit Go.Proofs.YtbncnjgflhoneaaGreatDoor.Hand Go.Proofs.YtbncnjgflhoneaaGreatDoorW.PrintWords Go.Proofs.YtbncnjgflhoneaaGreatDoorW.PrintLast Go.Proofs.YtbncnjgflhoneaaGreatDoorW.PrintMore
attribute [local go_sem] max2_int min2_int max_two min_two max_three min_three max_four min_four
set_option linter.unusedVariables false
set_option linter.unusedSimpArgs false
def impl_within.f (a0 : Int) (a1 : Int) (a2 : Int) : Option (Bool) := if a0 ≥ a1 then (some (decide (a0 ≤ a2))) else (some false)
set_option maxHeartbeats 8000000 in
set_option maxRecDepth 100000 in
theorem impl_within.calls (a0 : Int) (a1 : Int) (a2 : Int) (r : Bool) (w : World) (h : impl_within.f a0 a1 a2 = some r) :
  Calls Tryz.prog 33 #[.int .i64 a0, .int .i64 a1, .int .i64 a2] w fun e w' => e = .returned (.bool r) ∧ Drawn0 w w' := by
 have H := h
 clear h
 unfold impl_within.f at H
 replace H := its_d_d H; rcases H with ⟨c4b0, H⟩ | ⟨c4b0, H⟩
 ·obtain rfl := Option.some.inj H
  go_enter Tryz.func33, Tryz.ntmps33
  go_wp2
  go_ret
  exact ⟨zs, zD⟩
 ·obtain rfl := Option.some.inj H
  go_enter Tryz.func33, Tryz.ntmps33
  go_wp2
  go_ret
  exact ⟨zs, zD⟩
end Go.Proofs.YtbncnjgflhoneaaGreatDoor.F
namespace Go.Proofs.YtbncnjgflhoneaaGreatDoor.Hand
open Go.RowKit Go.Proofs.YtbncnjgflhoneaaGreatDoor.F Go.Proofs.YtbncnjgflhoneaaGreatDoorW.PrintWords Go.Proofs.YtbncnjgflhoneaaGreatDoorW.PrintLast Go.Proofs.YtbncnjgflhoneaaGreatDoorW.PrintMore
def letterB (c : UInt8) : Bool := (97 ≤ c && c ≤ 122) || (48 ≤ c && c ≤ 57)
def labelB (s : ByteArray) : Bool := decide (1 ≤ s.size ∧ s.size ≤ 8) && s.data.toList.all letterB
def impl_isLabel.f (s : ByteArray) : Option Bool := some (labelB s)
theorem bel_drewN (w : World) (n : Nat) : Below w.heap.size w (w.drewN n) := ⟨rfl, rfl, rfl, Nat.le_refl _, fun _ _ => rfl⟩
def signs : ByteArray := ⟨#[97, 98, 99, 100, 101, 102, 103, 104, 105, 106, 107, 108, 109, 110, 111, 112, 113, 114, 115, 116, 117, 118, 119, 120, 121, 122, 48, 49, 50, 51, 52, 53, 54, 55, 56, 57]⟩
theorem signs_letter (c : UInt8) : signs.data.toList.contains c = letterB c := by
  have h : ∀ n : Fin 256, signs.data.toList.contains (UInt8.ofNat n.val) = letterB (UInt8.ofNat n.val) := by decide +kernel
  have := h ⟨c.toNat, c.toNat_lt⟩
  simpa using this
theorem dropWhile_nil {α : Type} (p : α → Bool) : ∀ l : List α, l.dropWhile p = [] ↔ l.all p = true
  | [] => by simp
  | a :: l => by
    rw [List.dropWhile_cons]
    by_cases h : p a = true
    · rw [if_pos h, dropWhile_nil p l]; simp [h]
    · rw [if_neg h]; simp [h]
theorem dropWhile_all {α : Type} (p : α → Bool) : ∀ l : List α, (l.dropWhile p).all p = l.all p
  | [] => rfl
  | a :: l => by
    rw [List.dropWhile_cons]
    by_cases h : p a = true
    · rw [if_pos h, dropWhile_all p l]; simp [h]
    · rw [if_neg h]
theorem trim_nil (l : List UInt8) : Lib.trimS l signs.data.toList = [] ↔ l.all letterB = true := by
  have e : (fun c => signs.data.toList.contains c) = letterB := funext signs_letter
  unfold Lib.trimS Lib.trimLeftS Lib.trimRightS
  rw [e, dropWhile_nil, List.all_reverse, dropWhile_all, List.all_reverse]
theorem trim_calls (s : ByteArray) (w : World) (hs : s.size ≤ 8) :
    Calls Tryz.prog 111 #[.string s, .string signs] w fun e w' => e = .returned (.string ⟨(Lib.trimS s.data.toList signs.data.toList).toArray⟩) ∧ Below w.heap.size w w' :=
  Any.strings_Trim_laid Tryz.lays160 (by kernel_rfl) s signs w (by omega) (by decide) (ascii_of_all (by decide))
theorem trim_yes (s : ByteArray) (w : World) (hs : s.size ≤ 8) (h : s.data.toList.all letterB = true) :
    Calls Tryz.prog 111 #[.string s, .string signs] w fun e w' => e = .returned (.string ⟨#[]⟩) ∧ Below w.heap.size w w' := by
  refine (trim_calls s w hs).mono fun e w' ⟨h1, h2⟩ => ⟨?_, h2⟩
  rw [(trim_nil _).2 h] at h1
  exact h1
theorem trim_no (s : ByteArray) (w : World) (hs : s.size ≤ 8) (h : ¬ s.data.toList.all letterB = true) :
    Calls Tryz.prog 111 #[.string s, .string signs] w fun e w' => ∃ x : ByteArray, e = .returned (.string x) ∧ x.toList.isEmpty = false ∧ Below w.heap.size w w' := by
  refine (trim_calls s w hs).mono fun e w' ⟨h1, h2⟩ => ⟨_, h1, ?_, h2⟩
  rw [Lib.toList_data]
  cases hq : Lib.trimS s.data.toList signs.data.toList with
  | nil => exact absurd ((trim_nil _).1 hq) h
  | cons a l => simp
set_option maxHeartbeats 1000000 in
set_option maxRecDepth 100000 in
theorem impl_isLabel.calls (a0 : ByteArray) (r : Bool) (w : World) (h : impl_isLabel.f a0 = some r) :
    Calls Tryz.prog 69 #[.string a0] w fun e w' => e = .returned (.bool r) ∧ Below w.heap.size w w' := by
  have h := Option.some.inj h
  unfold labelB at h
  by_cases c1 : 1 ≤ a0.size ∧ a0.size ≤ 8
  · rw [decide_eq_true c1, Bool.true_and] at h
    have hw := Aside0.mk (show impl_within.f (a0.size : Int) 1 8 = some true by unfold impl_within.f; rw [if_pos (by omega), decide_eq_true (by omega)])
    have h8 := Aside0.mk c1.2
    clear c1
    by_cases c2 : a0.data.toList.all letterB = true
    · rw [c2] at h
      subst h
      have c2 := Aside0.mk c2
      go_enter Tryz.func69, Tryz.ntmps69
      go_wp2_with (first | (go_at_call 33; (with_reducible refine (impl_within.calls _ 1 8 true _ hw.out).mono ?_); rintro e w' ⟨rfl, ⟨nd, rfl⟩⟩) | (go_at_call 111; refine (trim_yes a0 _ h8.out c2.out).mono ?_; rintro e w1 ⟨rfl, hb⟩))
      go_ret
      exact ⟨rfl, (bel_drewN w nd).trans hb⟩
    · rw [Bool.eq_false_iff.2 c2] at h
      subst h
      have c2 := Aside0.mk c2
      go_enter Tryz.func69, Tryz.ntmps69
      go_wp2_with (first | (go_at_call 33; (with_reducible refine (impl_within.calls _ 1 8 true _ hw.out).mono ?_); rintro e w' ⟨rfl, ⟨nd, rfl⟩⟩) | (go_at_call 111; refine (trim_no a0 _ h8.out c2.out).mono ?_; rintro e w1 ⟨x, rfl, hx, hb⟩))
      go_ret
      exact ⟨rfl, (bel_drewN w nd).trans hb⟩
  · rw [decide_eq_false c1, Bool.false_and] at h
    subst h
    have hw := Aside0.mk (show impl_within.f (a0.size : Int) 1 8 = some false by
      unfold impl_within.f
      by_cases d : (a0.size : Int) ≥ 1
      · rw [if_pos d, decide_eq_false (by omega)]
      · rw [if_neg d])
    clear c1
    go_enter Tryz.func69, Tryz.ntmps69
    go_wp2_with (first | (go_at_call 33; (with_reducible refine (impl_within.calls _ 1 8 false _ hw.out).mono ?_); rintro e w' ⟨rfl, ⟨nd, rfl⟩⟩))
    go_ret
    exact ⟨rfl, bel_drewN w nd⟩
end Go.Proofs.YtbncnjgflhoneaaGreatDoor.Hand
namespace Go.Proofs.YtbncnjgflhoneaaGreatDoor.Hand
open Go.RowKit Go.Proofs.YtbncnjgflhoneaaGreatDoorW.PrintWords Go.Proofs.YtbncnjgflhoneaaGreatDoorW.PrintLast Go.Proofs.YtbncnjgflhoneaaGreatDoorW.PrintMore
def strings_Split.f (s sep : ByteArray) : Option (List ByteArray) := if s.size < 4294967281 ∧ 1 ≤ sep.size then some (Lib.splitB sep 0 (Lib.countB s sep) s) else none
theorem split_reps (r : List ByteArray) (w : World) (base : Nat) (ok : Nat → Prop) : Reps (Kd.string.M w base ok) Kd.string.sz r (r.map Value.string) := by
  refine ⟨by simp [Kd.string, Kd.scalar], fun j p hj => ?_⟩
  show ((r.map Value.string).drop (j * 1)).take 1 = [Value.string p]
  rw [Nat.mul_one]
  have hl := (List.getElem?_eq_some_iff.1 hj).1
  rw [List.take_one, List.head?_drop, List.getElem?_map, hj]
  rfl
theorem strings_Split.calls (a0 a1 : ByteArray) (r : List ByteArray) (w : World) (hG : Laid w) (h : strings_Split.f a0 a1 = some r) :
    Calls Tryz.prog 42 #[.string a0, .string a1] w fun e w' => ∃ v0_ : Value, e = .returned (v0_) ∧ Kd.R Kd.string 9 w' w.heap.size (fun _ => True) v0_ r ∧ Below w.heap.size w w' := by
  unfold strings_Split.f at h
  split at h
  · rename_i hs
    obtain ⟨hs, h1⟩ := hs
    injection h with h
    have hl := Lib.splitB_all a1 h1 0 _ a0 rfl
    rw [h] at hl
    have hc : Lib.countB a0 a1 ≤ a0.size := Lib.countB_le a1 h1 _ a0 (Nat.le_refl _)
    obtain ⟨m, hm⟩ := hG.mx
    refine (Tryz.strings_Split a0 a1 m w hs hm h1).mono fun e w' ⟨he, hw⟩ => ?_
    rw [h] at hw
    subst hw
    rw [← hl] at he
    refine ⟨_, he, ⟨fun _ _ => trivial, OwnRow.lit w w.heap.size (by exact split_reps r w w.heap.size (fun _ => True)) (Nat.le_refl _) (by omega)⟩, (Below.refl _ _).alloc (Nat.le_refl _) _⟩
  · cases h
def strings_Cut.f (s sep : ByteArray) : Option (ByteArray × ByteArray × Bool) := if s.size < 4294967281 then some (⟨(Lib.cut s.data.toList sep.data.toList).1.toArray⟩, ⟨(Lib.cut s.data.toList sep.data.toList).2.1.toArray⟩, (Lib.cut s.data.toList sep.data.toList).2.2) else none
theorem strings_Cut.calls (a0 a1 r1 r2 : ByteArray) (r3 : Bool) (w : World) (hG : Laid w) (h : strings_Cut.f a0 a1 = some (r1, r2, r3)) :
    Calls Tryz.prog 39 #[.string a0, .string a1] w fun e w' => e = .returned (.tuple #[.string r1, .string r2, .bool r3]) ∧ Drawn0 w w' := by
  unfold strings_Cut.f at h
  split at h
  · rename_i hs
    injection h with h
    injection h with h1 h
    injection h with h2 h3
    subst h1 h2 h3
    obtain ⟨m, hm⟩ := hG.mx
    exact (Tryz.strings_Cut a0 a1 m w hs hm).mono fun e w' h => ⟨h.1, by obtain ⟨n, hn⟩ := h.2; exact ⟨n, hn⟩⟩
  · cases h
end Go.Proofs.YtbncnjgflhoneaaGreatDoor.Hand
namespace Go.Proofs.YtbncnjgflhoneaaGreatDoor.F
open Go.RowKit Go.Proofs.YtbncnjgflhoneaaGreatDoor.Hand Go.Proofs.YtbncnjgflhoneaaGreatDoorW.PrintWords Go.Proofs.YtbncnjgflhoneaaGreatDoorW.PrintLast Go.Proofs.YtbncnjgflhoneaaGreatDoorW.PrintMore
attribute [local go_sem] max2_int min2_int max_two min_two max_three min_three max_four min_four
set_option linter.unusedVariables false
set_option linter.unusedSimpArgs false
def impl_DomainOk.l0 : Nat → List ByteArray → List ByteArray → Int → Int → Option (Bool)
 | 0, _, _, _, _ => none
 | k + 1, x3, x8, x9, x10 => if x10 < x9 then (if 0 ≤ x10 then (if x10 < (x8.length : Int) then ((impl_isLabel.f (rdOf ByteArray.empty x8 x10)).bind fun t105 => (if t105 = true then (impl_DomainOk.l0 k x3 x8 x9 (wrap64 (x10 + 1))) else (some false))) else (none)) else (none)) else (some (decide ((x3.length : Int) ≤ 3)))
def impl_DomainOk.f (k : Nat) (a0 : ByteArray) : Option (Bool) := (strings_Split.f a0 (⟨#[46]⟩ : ByteArray)).bind fun t101 => (impl_DomainOk.l0 k t101 t101 (t101.length : Int) 0)
theorem impl_DomainOk.mono_l : ∀ k, (∀ y0 y1 y2 y3, LeO (impl_DomainOk.l0 k y0 y1 y2 y3) (impl_DomainOk.l0 (k + 1) y0 y1 y2 y3))
 | 0 => fun _ _ _ _ r h => by simp [impl_DomainOk.l0] at h
 | k + 1 => by
  have ih0 := impl_DomainOk.mono_l k
  ·intro y0 y1 y2 y3
   unfold impl_DomainOk.l0
   repeat' with_reducible first | apply ih0 | exact LeO.refl _ | exact LeO.none _ | apply LeO.ite | refine LeO.bind ?_ fun _ => ?_
theorem impl_DomainOk.mono : ∀ a0 k, LeO (impl_DomainOk.f k a0) (impl_DomainOk.f (k + 1) a0) := by
 intro a0 k
 have ih0 := impl_DomainOk.mono_l k
 unfold impl_DomainOk.f
 repeat' with_reducible first | apply ih0 | exact LeO.refl _ | exact LeO.none _ | apply LeO.ite | refine LeO.bind ?_ fun _ => ?_
set_option maxHeartbeats 8000000 in
set_option maxRecDepth 100000 in
theorem impl_DomainOk.calls (k : Nat) (a0 : ByteArray) (r : Bool) (w : World) (hG : Laid w) (h : impl_DomainOk.f k a0 = some r) :
  Calls Tryz.prog 70 #[.string a0] w fun e w' => e = .returned (.bool r) ∧ Below w.heap.size w w' := by
 have HG := Aside0.mk hG
 clear hG
 have HB := Aside0.mk (Below.refl w.heap.size w)
 have H := h
 clear h
 unfold impl_DomainOk.f at H
 replace H := bnd H; obtain ⟨t101, A2, H⟩ := H
 have H' := Aside0.mk H
 clear H
 go_enter Tryz.func70, Tryz.ntmps70
 go_wp2_with (first | ((with_reducible refine gate_callee (f := 42) rfl ?_); refine gl 7 Tryz.func42 _ ((strings_Split.calls (w := _) (hG := gB) (h := A2.out)).mono ?_); rintro e w3 ⟨v102, rfl, ho0, hb⟩; refine ⟨_, rfl, ?_⟩; have HO103 := lS ho0; replace HB := bS hb; clear hb ho0; obtain ⟨Ao4, co4, eo4⟩ := Kd.R_slice HO103.out; subst eo4))
 go_loopg [10] k (fun kq v10 w' => ∃ (x10_1 : Int), v10 = .int .i64 x10_1 ∧ Aside0 (impl_DomainOk.l0 kq t101 t101 (t101.length : Int) x10_1 = some r) ∧ Aside0 (kq ≤ k) ∧ Aside0 (Kd.R Kd.string 9 w' w.heap.size (fun _ => True) (.slice Ao4 t101.length co4) t101) ∧ Aside0 (Kd.R Kd.string 9 w' w.heap.size (fun _ => True) (.slice Ao4 t101.length co4) t101) ∧ Aside0 (Below w.heap.size w w'))
 case atStart => exact ⟨(0), zs, H', ⟨Nat.le_refl _⟩, ⟨rO HO103⟩, ⟨rO HO103⟩, ⟨zB⟩⟩
 case round =>
  clear H'
  obtain ⟨x10_1, rfl, HA, HK1, HO_3, HO_8, HB⟩ := hrel
  cases gk with
  | zero => exact absurd HA.out (by simp [impl_DomainOk.l0])
  | succ k1 =>
   have H := HA.out
   clear HA
   simp only [impl_DomainOk.l0] at H
   replace H := its_d_d H; rcases H with ⟨c5b0, H⟩ | ⟨c5b0, H⟩
   ·replace H := itn_d H; obtain ⟨c6b0, H⟩ := H
    replace H := itn_d H; obtain ⟨c7b0, H⟩ := H
    replace H := bnd H; obtain ⟨t105, A8, H⟩ := H
    replace H := itb H; rcases H with ⟨rfl, H⟩ | ⟨rfl, H⟩
    ·have H' := Aside0.mk H
     clear H
     have p104 : 0 ≤ (x10_1 : Int) := of_decide_eq_true za
     have q104 : x10_1 < (t101.length : Int) := of_decide_eq_true za
     obtain ⟨ad104, e104, hx104_0⟩ := Kd.at_string (Kd.R_reads' HO_8.out).2.2 x10_1 p104 q104
     cases e104
     replace p104 := eq_true p104
     replace q104 := eq_true q104
     go_wp2_with (first | ((with_reducible refine gate_callee (f := 69) rfl ?_); refine gv 15 Tryz.func69 _ (impl_isLabel.calls (w := _) (h := A8.out)) ?_; intro w10 hb; replace HO_3 := rS HO_3 hb; replace HO_8 := rS HO_8 hb; replace HB := bS hb; clear hb))
     go_roundg k1
     case measure => have := HK1.out; omega
     case rel => exact ⟨(wrap64 (x10_1 + 1)), zs, H', ⟨by have := HK1.out; omega⟩, ⟨rO HO_3⟩, ⟨rO HO_8⟩, ⟨zB⟩⟩
    ·obtain rfl := Option.some.inj H
     have p104 : 0 ≤ (x10_1 : Int) := of_decide_eq_true za
     have q104 : x10_1 < (t101.length : Int) := of_decide_eq_true za
     obtain ⟨ad104, e104, hx104_0⟩ := Kd.at_string (Kd.R_reads' HO_8.out).2.2 x10_1 p104 q104
     cases e104
     replace p104 := eq_true p104
     replace q104 := eq_true q104
     go_wp2_with (first | ((with_reducible refine gate_callee (f := 69) rfl ?_); refine gv 15 Tryz.func69 _ (impl_isLabel.calls (w := _) (h := A8.out)) ?_; intro w11 hb; replace HO_3 := rS HO_3 hb; replace HO_8 := rS HO_8 hb; replace HB := bS hb; clear hb))
     go_ret
     exact ⟨zr, zB⟩
   ·obtain rfl := Option.some.inj H
    go_wp2
    go_ret
    exact ⟨zr, zB⟩
def impl_AddrOk.f (k : Nat) (a0_0 : ByteArray) (a0_1 : ByteArray) : Option (Bool) := (impl_isLabel.f a0_0).bind fun t102 => (if t102 = true then ((impl_DomainOk.f k a0_1).bind fun t103 => (some t103)) else (some false))
theorem impl_AddrOk.mono : ∀ a0 a1 k, LeO (impl_AddrOk.f k a0 a1) (impl_AddrOk.f (k + 1) a0 a1) := by
 intro a0 a1 k
 unfold impl_AddrOk.f
 repeat' with_reducible first | apply impl_DomainOk.mono | exact LeO.refl _ | exact LeO.none _ | apply LeO.ite | refine LeO.bind ?_ fun _ => ?_
set_option maxHeartbeats 8000000 in
set_option maxRecDepth 100000 in
theorem impl_AddrOk.calls (k : Nat) (a0_0 : ByteArray) (a0_1 : ByteArray) (r : Bool) (w : World) (hG : Laid w) (h : impl_AddrOk.f k a0_0 a0_1 = some r) :
  Calls Tryz.prog 34 #[.agg #[.string a0_0, .string a0_1]] w fun e w' => e = .returned (.bool r) ∧ Below w.heap.size w w' := by
 have hu32 := Tryz.underlying32
 have HG := Aside0.mk hG
 clear hG
 have HB := Aside0.mk (Below.refl w.heap.size w)
 have H := h
 clear h
 unfold impl_AddrOk.f at H
 replace H := bnd H; obtain ⟨t102, A2, H⟩ := H
 replace H := itb H; rcases H with ⟨rfl, H⟩ | ⟨rfl, H⟩
 ·replace H := bnd H; obtain ⟨t103, A4, H⟩ := H
  obtain rfl := Option.some.inj H
  go_enter Tryz.func34, Tryz.ntmps34
  go_wp2_with (first | ((with_reducible refine gate_dst (N := 1) rfl ?_); refine bx (cs := #[.string a0_0, .string a0_1]) (t := 32) ?_; intro gb101 hg w5 hbox hb; have BK101 := Aside0.mk (hbox); have GW101 := gS hg; have GE101 := gS hg; replace HB := bS hb; clear hb hbox hg; obtain ⟨hcz6_0, hcz6_1⟩ := cz2 BK101.out; obtain ⟨hfz6_0, hfz6_1⟩ := fz2 BK101.out) | ((with_reducible refine gate_callee (f := 69) rfl ?_); refine gv 5 Tryz.func69 _ (impl_isLabel.calls (w := _) (h := A2.out)) ?_; intro w7 hb; replace BK101 := kS BK101 hb; replace HB := bS hb; clear hb; obtain ⟨hcz8_0, hcz8_1⟩ := cz2 BK101.out; obtain ⟨hfz8_0, hfz8_1⟩ := fz2 BK101.out) | (go_at_call 70; refine (impl_DomainOk.calls (w := _) (hG := gB) (h := A4.out)).mono ?_; rintro e w9 ⟨rfl, hb⟩; replace BK101 := kS BK101 hb; replace HB := bS hb; clear hb))
  go_ret
  exact ⟨zr, zB⟩
 ·obtain rfl := Option.some.inj H
  go_enter Tryz.func34, Tryz.ntmps34
  go_wp2_with (first | ((with_reducible refine gate_dst (N := 1) rfl ?_); refine bx (cs := #[.string a0_0, .string a0_1]) (t := 32) ?_; intro gb101 hg w10 hbox hb; have BK101 := Aside0.mk (hbox); have GW101 := gS hg; have GE101 := gS hg; replace HB := bS hb; clear hb hbox hg; obtain ⟨hcz11_0, hcz11_1⟩ := cz2 BK101.out; obtain ⟨hfz11_0, hfz11_1⟩ := fz2 BK101.out) | ((with_reducible refine gate_callee (f := 69) rfl ?_); refine gv 5 Tryz.func69 _ (impl_isLabel.calls (w := _) (h := A2.out)) ?_; intro w12 hb; replace BK101 := kS BK101 hb; replace HB := bS hb; clear hb))
  go_ret
  exact ⟨zr, zB⟩
end Go.Proofs.YtbncnjgflhoneaaGreatDoor.F
namespace Go.Proofs.YtbncnjgflhoneaaGreatDoor.F
open Go.RowKit Go.Proofs.YtbncnjgflhoneaaGreatDoor.Hand Go.Proofs.YtbncnjgflhoneaaGreatDoorW.PrintWords Go.Proofs.YtbncnjgflhoneaaGreatDoorW.PrintLast Go.Proofs.YtbncnjgflhoneaaGreatDoorW.PrintMore
attribute [local go_sem] max2_int min2_int max_two min_two max_three min_three max_four min_four
set_option linter.unusedVariables false
set_option linter.unusedSimpArgs false
def impl_MailOk_1.f (k : Nat) (a0_0 : ByteArray) (a0_1 : ByteArray) : Option (Bool) := (impl_AddrOk.f k a0_0 a0_1).bind fun t102 => (some (!t102))
theorem impl_MailOk_1.mono : ∀ a0 a1 k, LeO (impl_MailOk_1.f k a0 a1) (impl_MailOk_1.f (k + 1) a0 a1) := by
 intro a0 a1 k
 unfold impl_MailOk_1.f
 repeat' with_reducible first | apply impl_AddrOk.mono | exact LeO.refl _ | exact LeO.none _ | apply LeO.ite | refine LeO.bind ?_ fun _ => ?_
set_option maxHeartbeats 8000000 in
set_option maxRecDepth 100000 in
theorem impl_MailOk_1.calls (k : Nat) (a0_0 : ByteArray) (a0_1 : ByteArray) (r : Bool) (w : World) (hG : Laid w) (h : impl_MailOk_1.f k a0_0 a0_1 = some r) :
  Calls Tryz.prog 71 #[.agg #[.string a0_0, .string a0_1]] w fun e w' => e = .returned (.bool r) ∧ Below w.heap.size w w' := by
 have hu32 := Tryz.underlying32
 have HG := Aside0.mk hG
 clear hG
 have HB := Aside0.mk (Below.refl w.heap.size w)
 have H := h
 clear h
 unfold impl_MailOk_1.f at H
 replace H := bnd H; obtain ⟨t102, A2, H⟩ := H
 obtain rfl := Option.some.inj H
 go_enter Tryz.func71, Tryz.ntmps71
 go_wp2_with (first | ((with_reducible refine gate_dst (N := 1) rfl ?_); refine bx (cs := #[.string a0_0, .string a0_1]) (t := 32) ?_; intro gb101 hg w3 hbox hb; have BK101 := Aside0.mk (hbox); have GW101 := gS hg; have GE101 := gS hg; replace HB := bS hb; clear hb hbox hg; obtain ⟨hcz4_0, hcz4_1⟩ := cz2 BK101.out; obtain ⟨hfz4_0, hfz4_1⟩ := fz2 BK101.out) | ((with_reducible refine gate_callee (f := 34) rfl ?_); refine gv 4 Tryz.func34 _ (impl_AddrOk.calls (w := _) (hG := gB) (h := A2.out)) ?_; intro w5 hb; replace BK101 := kS BK101 hb; replace HB := bS hb; clear hb))
 go_ret
 exact ⟨zr, zB⟩
attribute [local go_sem high] eqA32
def impl_Addr_null.f (a0_0 : ByteArray) (a0_1 : ByteArray) : Option (Bool) := some (a0_0.toList == ([] : List UInt8) && (a0_1.toList == ([] : List UInt8)))
set_option maxHeartbeats 8000000 in
set_option maxRecDepth 100000 in
theorem impl_Addr_null.calls (a0_0 : ByteArray) (a0_1 : ByteArray) (r : Bool) (w : World) (h : impl_Addr_null.f a0_0 a0_1 = some r) :
  Calls Tryz.prog 38 #[.agg #[.string a0_0, .string a0_1]] w fun e w' => e = .returned (.bool r) ∧ Below w.heap.size w w' := by
 have hu32 := Tryz.underlying32
 have HB := Aside0.mk (Below.refl w.heap.size w)
 have H := h
 clear h
 unfold impl_Addr_null.f at H
 obtain rfl := Option.some.inj H
 go_enter Tryz.func38, Tryz.ntmps38
 go_wp2_with (first | ((with_reducible refine gate_dst (N := 1) rfl ?_); refine bx (cs := #[.string a0_0, .string a0_1]) (t := 32) ?_; intro gb101 hg w2 hbox hb; have BK101 := Aside0.mk (hbox); have GW101 := gS hg; have GE101 := gS hg; replace HB := bS hb; clear hb hbox hg; obtain ⟨hcz3_0, hcz3_1⟩ := cz2 BK101.out; obtain ⟨hfz3_0, hfz3_1⟩ := fz2 BK101.out))
 go_ret
 exact ⟨zr, zB⟩
end Go.Proofs.YtbncnjgflhoneaaGreatDoor.F
namespace Go.Proofs.YtbncnjgflhoneaaGreatDoor.F
open Go.RowKit Go.Proofs.YtbncnjgflhoneaaGreatDoor.Hand Go.Proofs.YtbncnjgflhoneaaGreatDoorW.PrintWords Go.Proofs.YtbncnjgflhoneaaGreatDoorW.PrintLast Go.Proofs.YtbncnjgflhoneaaGreatDoorW.PrintMore
attribute [local go_sem] max2_int min2_int max_two min_two max_three min_three max_four min_four
set_option linter.unusedVariables false
set_option linter.unusedSimpArgs false
def impl_Addr_sender.f (k : Nat) (a0_0 : ByteArray) (a0_1 : ByteArray) : Option (Bool) := (impl_Addr_null.f a0_0 a0_1).bind fun t102 => (if t102 = true then (some true) else ((impl_AddrOk.f k a0_0 a0_1).bind fun t103 => (some t103)))
theorem impl_Addr_sender.mono : ∀ a0 a1 k, LeO (impl_Addr_sender.f k a0 a1) (impl_Addr_sender.f (k + 1) a0 a1) := by
 intro a0 a1 k
 unfold impl_Addr_sender.f
 repeat' with_reducible first | apply impl_AddrOk.mono | exact LeO.refl _ | exact LeO.none _ | apply LeO.ite | refine LeO.bind ?_ fun _ => ?_
set_option maxHeartbeats 8000000 in
set_option maxRecDepth 100000 in
theorem impl_Addr_sender.calls (k : Nat) (a0_0 : ByteArray) (a0_1 : ByteArray) (r : Bool) (w : World) (hG : Laid w) (h : impl_Addr_sender.f k a0_0 a0_1 = some r) :
  Calls Tryz.prog 72 #[.agg #[.string a0_0, .string a0_1]] w fun e w' => e = .returned (.bool r) ∧ Below w.heap.size w w' := by
 have hu32 := Tryz.underlying32
 have HG := Aside0.mk hG
 clear hG
 have HB := Aside0.mk (Below.refl w.heap.size w)
 have H := h
 clear h
 unfold impl_Addr_sender.f at H
 replace H := bnd H; obtain ⟨t102, A2, H⟩ := H
 replace H := itb H; rcases H with ⟨rfl, H⟩ | ⟨rfl, H⟩
 ·obtain rfl := Option.some.inj H
  go_enter Tryz.func72, Tryz.ntmps72
  go_wp2_with (first | ((with_reducible refine gate_dst (N := 1) rfl ?_); refine bx (cs := #[.string a0_0, .string a0_1]) (t := 32) ?_; intro gb101 hg w4 hbox hb; have BK101 := Aside0.mk (hbox); have GW101 := gS hg; have GE101 := gS hg; replace HB := bS hb; clear hb hbox hg; obtain ⟨hcz5_0, hcz5_1⟩ := cz2 BK101.out; obtain ⟨hfz5_0, hfz5_1⟩ := fz2 BK101.out) | ((with_reducible refine gate_callee (f := 38) rfl ?_); refine gv 4 Tryz.func38 _ (impl_Addr_null.calls (w := _) (h := A2.out)) ?_; intro w6 hb; replace BK101 := kS BK101 hb; replace HB := bS hb; clear hb))
  go_ret
  exact ⟨zr, zB⟩
 ·replace H := bnd H; obtain ⟨t103, A7, H⟩ := H
  obtain rfl := Option.some.inj H
  go_enter Tryz.func72, Tryz.ntmps72
  go_wp2_with (first | ((with_reducible refine gate_dst (N := 1) rfl ?_); refine bx (cs := #[.string a0_0, .string a0_1]) (t := 32) ?_; intro gb101 hg w8 hbox hb; have BK101 := Aside0.mk (hbox); have GW101 := gS hg; have GE101 := gS hg; replace HB := bS hb; clear hb hbox hg; obtain ⟨hcz9_0, hcz9_1⟩ := cz2 BK101.out; obtain ⟨hfz9_0, hfz9_1⟩ := fz2 BK101.out) | ((with_reducible refine gate_callee (f := 38) rfl ?_); refine gv 4 Tryz.func38 _ (impl_Addr_null.calls (w := _) (h := A2.out)) ?_; intro w10 hb; replace BK101 := kS BK101 hb; replace HB := bS hb; clear hb; obtain ⟨hcz11_0, hcz11_1⟩ := cz2 BK101.out; obtain ⟨hfz11_0, hfz11_1⟩ := fz2 BK101.out) | (go_at_call 34; refine (impl_AddrOk.calls (w := _) (hG := gB) (h := A7.out)).mono ?_; rintro e w12 ⟨rfl, hb⟩; replace BK101 := kS BK101 hb; replace HB := bS hb; clear hb))
  go_ret
  exact ⟨zr, zB⟩
end Go.Proofs.YtbncnjgflhoneaaGreatDoor.F
