/- Of this claim, merged by program: F102, F58, Q2. -/
import Derived.Test.YtbncnjgflhoneaaGreatDoorG02
import Derived.Test.YtbncnjgflhoneaaGreatDoorG04
namespace Go.Proofs.YtbncnjgflhoneaaGreatDoor.F
open Go.RowKit Go.Proofs.YtbncnjgflhoneaaGreatDoor.Hand Go.Proofs.YtbncnjgflhoneaaGreatDoorW.PrintWords Go.Proofs.YtbncnjgflhoneaaGreatDoorW.PrintLast Go.Proofs.YtbncnjgflhoneaaGreatDoorW.PrintMore
attribute [local go_sem] max2_int min2_int max_two min_two max_three min_three max_four min_four
set_option linter.unusedVariables false
set_option linter.unusedSimpArgs false
def spec_l1Domain.l0 : Nat → List ByteArray → Int → Option (Bool)
 | 0, _, _ => none
 | k + 1, x3, x4 => if x4 < (x3.length : Int) then (if 0 ≤ x4 then ((spec_l1Word.f k (rdOf ByteArray.empty x3 x4)).bind fun t105 => (if t105 = true then (spec_l1Domain.l0 k x3 (wrap64 (x4 + 1))) else (some false))) else (none)) else (some (decide ((x3.length : Int) ≤ 3)))
def spec_l1Domain.f (k : Nat) (a0 : ByteArray) : Option (Bool) := (spec_l1Cut.f k a0 46 3).bind fun t101 => (spec_l1Domain.l0 k t101 0)
theorem spec_l1Domain.mono_l : ∀ k, (∀ y0 y1, LeO (spec_l1Domain.l0 k y0 y1) (spec_l1Domain.l0 (k + 1) y0 y1))
 | 0 => fun _ _ r h => by simp [spec_l1Domain.l0] at h
 | k + 1 => by
  have ih0 := spec_l1Domain.mono_l k
  ·intro y0 y1
   unfold spec_l1Domain.l0
   repeat' with_reducible first | apply ih0 | apply spec_l1Cut.mono | apply spec_l1Word.mono | exact LeO.refl _ | exact LeO.none _ | apply LeO.ite | refine LeO.bind ?_ fun _ => ?_
theorem spec_l1Domain.mono : ∀ a0 k, LeO (spec_l1Domain.f k a0) (spec_l1Domain.f (k + 1) a0) := by
 intro a0 k
 have ih0 := spec_l1Domain.mono_l k
 unfold spec_l1Domain.f
 repeat' with_reducible first | apply ih0 | apply spec_l1Cut.mono | apply spec_l1Word.mono | exact LeO.refl _ | exact LeO.none _ | apply LeO.ite | refine LeO.bind ?_ fun _ => ?_
set_option maxHeartbeats 8000000 in
set_option maxRecDepth 100000 in
theorem spec_l1Domain.calls (k : Nat) (a0 : ByteArray) (r : Bool) (w : World) (h : spec_l1Domain.f k a0 = some r) :
  Calls Tryz.prog 102 #[.string a0] w fun e w' => e = .returned (.bool r) ∧ Below w.heap.size w w' := by
 have HB := Aside0.mk (Below.refl w.heap.size w)
 have H := h
 clear h
 unfold spec_l1Domain.f at H
 replace H := bnd H; obtain ⟨t101, A2, H⟩ := H
 have H' := Aside0.mk H
 clear H
 go_enter Tryz.func102, Tryz.ntmps102
 go_wp2_with (first | ((with_reducible refine gate_callee (f := 84) rfl ?_); refine gl 6 Tryz.func84 _ ((spec_l1Cut.calls (w := _) (h := A2.out)).mono ?_); rintro e w3 ⟨v102, rfl, ho0, hb⟩; refine ⟨_, rfl, ?_⟩; have HO103 := lS ho0; replace HB := bS hb; clear hb ho0))
 go_loopg [4] k (fun kq v4 w' => ∃ (x4_1 : Int), v4 = .int .i64 x4_1 ∧ Aside0 (spec_l1Domain.l0 kq t101 x4_1 = some r) ∧ Aside0 (kq ≤ k) ∧ Aside0 (Kd.R Kd.string 9 w' w.heap.size (fun _ => True) v102 t101) ∧ Aside0 (Below w.heap.size w w'))
 case atStart => exact ⟨(0), zs, H', ⟨Nat.le_refl _⟩, ⟨rO HO103⟩, ⟨zB⟩⟩
 case round =>
  clear H'
  obtain ⟨x4_1, rfl, HA, HK1, HO_3, HB⟩ := hrel
  cases gk with
  | zero => exact absurd HA.out (by simp [spec_l1Domain.l0])
  | succ k1 =>
   have H := HA.out
   clear HA
   simp only [spec_l1Domain.l0] at H
   replace H := its_d_d H; rcases H with ⟨c4b0, H⟩ | ⟨c4b0, H⟩
   ·replace H := itn_d H; obtain ⟨c5b0, H⟩ := H
    replace H := bnd H; obtain ⟨t105, A6, H⟩ := H
    replace H := itb H; rcases H with ⟨rfl, H⟩ | ⟨rfl, H⟩
    ·have H' := Aside0.mk H
     clear H
     obtain ⟨Ao8, co8, eo8⟩ := Kd.R_slice HO_3.out
     subst eo8
     have p104 : 0 ≤ (x4_1 : Int) := of_decide_eq_true za
     have q104 : x4_1 < (t101.length : Int) := of_decide_eq_true za
     obtain ⟨ad104, e104, hx104_0⟩ := Kd.at_string (Kd.R_reads' HO_3.out).2.2 x4_1 p104 q104
     cases e104
     replace p104 := eq_true p104
     replace q104 := eq_true q104
     go_wp2_with (first | ((with_reducible refine gate_callee (f := 101) rfl ?_); refine gv 17 Tryz.func101 _ (spec_l1Word.calls (w := _) (h := A6.out)) ?_; rintro w' ⟨nd, rfl⟩))
     go_roundg k1
     case measure => have := HK1.out; omega
     case rel => exact ⟨(wrap64 (x4_1 + 1)), zs, H', ⟨by have := HK1.out; omega⟩, ⟨rO HO_3⟩, ⟨zB⟩⟩
    ·obtain rfl := Option.some.inj H
     obtain ⟨Ao9, co9, eo9⟩ := Kd.R_slice HO_3.out
     subst eo9
     have p104 : 0 ≤ (x4_1 : Int) := of_decide_eq_true za
     have q104 : x4_1 < (t101.length : Int) := of_decide_eq_true za
     obtain ⟨ad104, e104, hx104_0⟩ := Kd.at_string (Kd.R_reads' HO_3.out).2.2 x4_1 p104 q104
     cases e104
     replace p104 := eq_true p104
     replace q104 := eq_true q104
     go_wp2_with (first | ((with_reducible refine gate_callee (f := 101) rfl ?_); refine gv 17 Tryz.func101 _ (spec_l1Word.calls (w := _) (h := A6.out)) ?_; rintro w' ⟨nd, rfl⟩))
     go_ret
     exact ⟨zr, zB⟩
   ·obtain rfl := Option.some.inj H
    obtain ⟨Ao10, co10, eo10⟩ := Kd.R_slice HO_3.out
    subst eo10
    go_wp2
    go_ret
    exact ⟨zr, zB⟩
def spec_l1AddrOk.f (k : Nat) (a0_0 : ByteArray) (a0_1 : ByteArray) : Option (Bool) := (spec_l1Word.f k a0_0).bind fun t102 => (if t102 = true then ((spec_l1Domain.f k a0_1).bind fun t103 => (some t103)) else (some false))
theorem spec_l1AddrOk.mono : ∀ a0 a1 k, LeO (spec_l1AddrOk.f k a0 a1) (spec_l1AddrOk.f (k + 1) a0 a1) := by
 intro a0 a1 k
 unfold spec_l1AddrOk.f
 repeat' with_reducible first | apply spec_l1Domain.mono | apply spec_l1Word.mono | exact LeO.refl _ | exact LeO.none _ | apply LeO.ite | refine LeO.bind ?_ fun _ => ?_
set_option maxHeartbeats 8000000 in
set_option maxRecDepth 100000 in
theorem spec_l1AddrOk.calls (k : Nat) (a0_0 : ByteArray) (a0_1 : ByteArray) (r : Bool) (w : World) (h : spec_l1AddrOk.f k a0_0 a0_1 = some r) :
  Calls Tryz.prog 58 #[.agg #[.string a0_0, .string a0_1]] w fun e w' => e = .returned (.bool r) ∧ Below w.heap.size w w' := by
 have hu32 := Tryz.underlying32
 have HB := Aside0.mk (Below.refl w.heap.size w)
 have H := h
 clear h
 unfold spec_l1AddrOk.f at H
 replace H := bnd H; obtain ⟨t102, A2, H⟩ := H
 replace H := itb H; rcases H with ⟨rfl, H⟩ | ⟨rfl, H⟩
 ·replace H := bnd H; obtain ⟨t103, A4, H⟩ := H
  obtain rfl := Option.some.inj H
  go_enter Tryz.func58, Tryz.ntmps58
  go_wp2_with (first | ((with_reducible refine gate_dst (N := 1) rfl ?_); refine bx (cs := #[.string a0_0, .string a0_1]) (t := 32) ?_; intro gb101 hg w5 hbox hb; have BK101 := Aside0.mk (hbox); have GW101 := gS hg; have GE101 := gS hg; replace HB := bS hb; clear hb hbox hg; obtain ⟨hcz6_0, hcz6_1⟩ := cz2 BK101.out; obtain ⟨hfz6_0, hfz6_1⟩ := fz2 BK101.out) | ((with_reducible refine gate_callee (f := 101) rfl ?_); refine gv 5 Tryz.func101 _ (spec_l1Word.calls (w := _) (h := A2.out)) ?_; rintro w' ⟨nd, rfl⟩) | (go_at_call 102; with_reducible refine (spec_l1Domain.calls (w := _) (h := A4.out)).mono ?_; rintro e w7 ⟨rfl, hb⟩; replace BK101 := kS BK101 hb; replace HB := bS hb; clear hb))
  go_ret
  exact ⟨zr, zB⟩
 ·obtain rfl := Option.some.inj H
  go_enter Tryz.func58, Tryz.ntmps58
  go_wp2_with (first | ((with_reducible refine gate_dst (N := 1) rfl ?_); refine bx (cs := #[.string a0_0, .string a0_1]) (t := 32) ?_; intro gb101 hg w8 hbox hb; have BK101 := Aside0.mk (hbox); have GW101 := gS hg; have GE101 := gS hg; replace HB := bS hb; clear hb hbox hg; obtain ⟨hcz9_0, hcz9_1⟩ := cz2 BK101.out; obtain ⟨hfz9_0, hfz9_1⟩ := fz2 BK101.out) | ((with_reducible refine gate_callee (f := 101) rfl ?_); refine gv 5 Tryz.func101 _ (spec_l1Word.calls (w := _) (h := A2.out)) ?_; rintro w' ⟨nd, rfl⟩))
  go_ret
  exact ⟨zr, zB⟩
end Go.Proofs.YtbncnjgflhoneaaGreatDoor.F
namespace Go.Proofs.YtbncnjgflhoneaaGreatDoor.Hand
open Go.RowKit Go.Proofs.YtbncnjgflhoneaaGreatDoor.F Go.Proofs.YtbncnjgflhoneaaGreatDoorW.PrintWords Go.Proofs.YtbncnjgflhoneaaGreatDoorW.PrintLast Go.Proofs.YtbncnjgflhoneaaGreatDoorW.PrintMore
def B (l : List UInt8) : ByteArray := ⟨l.toArray⟩
theorem B_data (l : List UInt8) : (B l).data.toList = l := by simp [B]
theorem B_size (l : List UInt8) : (B l).size = l.length := by rw [← data_length, B_data]
theorem B_of (s : ByteArray) : B s.data.toList = s := by cases s; simp [B]
theorem toL (s : ByteArray) : s.toList = s.data.toList := Lib.toList_data s
theorem B_toList (l : List UInt8) : (B l).toList = l := by rw [toL, B_data]
theorem eq_B {s : ByteArray} {l : List UInt8} (h : s.data.toList = l) : s = B l := by rw [← h, B_of]
def front (p : List UInt8) : List (List UInt8) → List (List UInt8)
  | [] => [p]
  | x :: r => (p ++ x) :: r
theorem front_front (p q : List UInt8) (L : List (List UInt8)) : front p (front q L) = front (p ++ q) L := by
  cases L <;> simp [front]
theorem front_nil (L : List (List UInt8)) (h : L ≠ []) : front [] L = L := by
  cases L with
  | nil => exact absurd rfl h
  | cons x r => simp [front]
theorem front_length (p : List UInt8) (L : List (List UInt8)) (h : L ≠ []) : (front p L).length = L.length := by
  cases L with
  | nil => exact absurd rfl h
  | cons x r => simp [front]
def cutAt (c : UInt8) : List UInt8 → List (List UInt8)
  | [] => [[]]
  | a :: l => if a = c then [] :: cutAt c l else front [a] (cutAt c l)
def cutM (c : UInt8) : Nat → List UInt8 → List (List UInt8)
  | _, [] => [[]]
  | 0, a :: l => [a :: l]
  | m + 1, a :: l => if a = c then [] :: cutM c m l else front [a] (cutM c (m + 1) l)
theorem cutAt_ne (c : UInt8) (l : List UInt8) : cutAt c l ≠ [] := by
  cases l with
  | nil => simp [cutAt]
  | cons a l =>
    rw [cutAt]
    split
    · simp
    · cases cutAt c l <;> simp [front]
theorem cutM_zero (c : UInt8) (l : List UInt8) : cutM c 0 l = [l] := by cases l <;> rfl
theorem cutM_ne (c : UInt8) (m : Nat) (l : List UInt8) : cutM c m l ≠ [] := by
  cases l with
  | nil => cases m <;> simp [cutM]
  | cons a l =>
    cases m with
    | zero => simp [cutM]
    | succ m =>
      rw [cutM]
      split
      · simp
      · cases cutM c (m + 1) l <;> simp [front]
theorem cutM_nil (c : UInt8) (m : Nat) : cutM c m [] = [[]] := by cases m <;> rfl
theorem cutM_cutAt (c : UInt8) : ∀ (l : List UInt8) (m : Nat), ((cutAt c l).length ≤ m + 1 → cutM c m l = cutAt c l) ∧ (m + 1 < (cutAt c l).length → (cutM c m l).length = m + 1)
  | [], m => by cases m <;> simp [cutAt, cutM]
  | a :: l, 0 => by
    refine ⟨fun h => ?_, fun _ => by simp [cutM]⟩
    rw [cutM]
    by_cases e : a = c
    · rw [cutAt, if_pos e] at h
      have := List.length_pos_iff.2 (cutAt_ne c l)
      rw [List.length_cons] at h
      omega
    · rw [cutAt, if_neg e] at h ⊢
      rw [front_length _ _ (cutAt_ne c l)] at h
      have h2 := (cutM_cutAt c l 0).1 h
      rw [← h2, cutM_zero]
      rfl
  | a :: l, m + 1 => by
    rw [cutM, cutAt]
    by_cases e : a = c
    · rw [if_pos e, if_pos e]
      obtain ⟨h1, h2⟩ := cutM_cutAt c l m
      refine ⟨fun h => ?_, fun h => ?_⟩
      · simp at h
        rw [h1 (by omega)]
      · simp at h
        have := h2 (by omega)
        simp [this]
    · rw [if_neg e, if_neg e]
      obtain ⟨h1, h2⟩ := cutM_cutAt c l (m + 1)
      rw [front_length _ _ (cutAt_ne c l)]
      refine ⟨fun h => by rw [h1 h], fun h => ?_⟩
      rw [front_length _ _ (cutM_ne c (m + 1) l)]
      exact h2 h
theorem cutAt_miss (c : UInt8) : ∀ l : List UInt8, c ∉ l → cutAt c l = [l]
  | [], _ => rfl
  | a :: l, h => by
    rw [cutAt, if_neg (fun e => h (by simp [e])), cutAt_miss c l (fun hh => h (by simp [hh]))]
    rfl
theorem cutAt_hit (c : UInt8) (b : List UInt8) : ∀ a : List UInt8, c ∉ a → cutAt c (a ++ c :: b) = a :: cutAt c b
  | [], _ => by rw [List.nil_append, cutAt, if_pos rfl]
  | x :: a, h => by
    rw [List.cons_append, cutAt, if_neg (fun e => h (by simp [e])), cutAt_hit c b a (fun hh => h (by simp [hh]))]
    rfl
theorem cutM_miss (c : UInt8) (m : Nat) (l : List UInt8) (h : c ∉ l) : cutM c m l = [l] := by
  have h2 := cutAt_miss c l h
  rw [(cutM_cutAt c l m).1 (by rw [h2]; simp), h2]
theorem cutM_hit (c : UInt8) (m : Nat) (b : List UInt8) : ∀ a : List UInt8, c ∉ a → cutM c (m + 1) (a ++ c :: b) = a :: cutM c m b
  | [], _ => by rw [List.nil_append, cutM, if_pos rfl]
  | x :: a, h => by
    rw [List.cons_append, cutM, if_neg (fun e => h (by simp [e])), cutM_hit c m b a (fun hh => h (by simp [hh]))]
    rfl
theorem index_one (c : UInt8) : ∀ l : List UInt8, (Lib.index l [c] = -1 ∧ c ∉ l) ∨ ∃ i : Nat, Lib.index l [c] = i ∧ c ∉ l.take i ∧ ∃ h : i < l.length, l[i] = c
  | [] => by left; simp [Lib.index]
  | b :: l => by
    by_cases e : c = b
    · right
      refine ⟨0, ?_, by simp, by simp, by simp [e]⟩
      simp [Lib.index, e]
    · have hp : [c].isPrefixOf (b :: l) = false := by simp [List.isPrefixOf, e]
      rcases index_one c l with ⟨h1, h2⟩ | ⟨i, h1, h2, h3, h4⟩
      · left
        refine ⟨by rw [Lib.index, hp, h1]; simp, by simp [e, h2]⟩
      · right
        refine ⟨i + 1, ?_, ?_, by simp; omega, by simpa using h4⟩
        · rw [Lib.index, hp, h1]
          have : ¬ ((i : Int) == -1) = true := by simp
          rw [if_neg (by simp), if_neg this]
          omega
        · simp [e, h2]
theorem split_one (c : UInt8) : ∀ (n : Nat) (s : ByteArray), s.size ≤ n → (Lib.splitB (B [c]) 0 (Lib.countB s (B [c])) s).map (·.data.toList) = cutAt c s.data.toList := by
  intro n
  induction n with
  | zero =>
    intro s hs
    have hd : s.data.toList = [] := List.eq_nil_of_length_eq_zero (by rw [data_length]; omega)
    rcases Lib.indexB_cases s (B [c]) with h | ⟨i, _, hr⟩
    · rw [Lib.countB_miss _ _ h, Lib.splitB_zero, List.map_singleton, hd]
      rfl
    · rw [B_size] at hr
      simp at hr
      omega
  | succ n ih =>
    intro s hs
    have h1 : 1 ≤ (B [c]).size := by rw [B_size]; simp
    have hix : Lib.indexB s (B [c]) = Lib.index s.data.toList [c] := by
      show Lib.index s.data.toList (B [c]).data.toList = _
      rw [B_data]
    rcases index_one c s.data.toList with ⟨h, hm⟩ | ⟨i, h, hm, hlt, hc⟩
    · rw [Lib.countB_miss _ _ (hix.trans h), Lib.splitB_zero, List.map_singleton, cutAt_miss c _ hm]
    · have hi := hix.trans h
      rw [Lib.countB_hit _ _ i h1 hi, Nat.add_comm 1, Lib.splitB_hit _ _ _ _ i hi, List.map_cons, B_size]
      have hl : s.data.toList.length = s.size := data_length s
      rw [ih _ (by simp [ByteArray.size_extract]; omega)]
      have e1 : (s.extract 0 (i + 0)).data.toList = s.data.toList.take i := by rw [Nat.add_zero]; exact Lib.extract_from_zero s i
      have e2 : (s.extract (i + [c].length) s.size).data.toList = s.data.toList.drop (i + 1) := Lib.extract_to_end s (i + 1)
      rw [e1, e2]
      have e3 : s.data.toList = s.data.toList.take i ++ c :: s.data.toList.drop (i + 1) := by
        rw [← hc, ← List.drop_eq_getElem_cons hlt, List.take_append_drop]
      conv => rhs; rw [e3]
      rw [cutAt_hit c _ _ hm]
theorem labels_cut (d : ByteArray) : labelsOf d = (cutAt 46 d.data.toList).map B := by
  have h := split_one 46 _ d (Nat.le_refl _)
  unfold labelsOf
  rw [← h, List.map_map]
  refine (List.map_id _).symm.trans (List.map_congr_left fun x _ => ?_)
  exact (B_of x).symm
theorem extract_data' (s : ByteArray) (a b : Nat) : (s.extract a b).data.toList = (s.data.toList.take b).drop a := by
  rw [Lib.extract_data]
  simp [List.drop_take]
theorem cut_from (s : ByteArray) (hs : s.size ≤ 1099511627776) (c : UInt8) (most : Nat) (hmost : most ≤ 1000) : ∀ (d i f : Nat) (out : List ByteArray), s.size = i + d → f ≤ i → out.length ≤ most →
    Ev (fun k => spec_l1Cut.l0 k s (c.toNat : Int) (most : Int) out (f : Int) (i : Int)) (out ++ (front ((s.data.toList.take i).drop f) (cutM c (most - out.length) (s.data.toList.drop i))).map B) := by
  intro d
  induction d with
  | zero =>
    intro i f out hi hf ho
    have hdl : s.data.toList.length = s.size := data_length s
    refine Ev.step (f := fun k => spec_l1Cut.j1 k s (c.toNat : Int) (most : Int) out (f : Int) (i : Int) false) (fun k => by rw [spec_l1Cut.l0, if_neg (by omega)]) ?_
    refine Ev.step (f := fun _ => some (out ++ [s.extract f s.size])) (fun k => by rw [spec_l1Cut.j1, if_neg (by decide), if_pos (by omega), if_pos (by omega), if_pos (by omega)]; rfl) ?_
    rw [show s.data.toList.drop i = [] from List.drop_eq_nil_of_le (by omega), cutM_nil]
    have : front ((s.data.toList.take i).drop f) [[]] = [(s.data.toList.take i).drop f] := by simp [front]
    rw [this, List.map_singleton, ← eq_B (extract_data' s f i), show i = s.size by omega]
    exact Ev.now _
  | succ d ih =>
    intro i f out hi hf ho
    have hdl : s.data.toList.length = s.size := data_length s
    have hlt : i < s.data.toList.length := by omega
    refine Ev.step (f := fun k => spec_l1Cut.j1 k s (c.toNat : Int) (most : Int) out (f : Int) (i : Int) (decide ((out.length : Int) < most))) (fun k => by rw [spec_l1Cut.l0, if_pos (by omega)]) ?_
    by_cases hm : out.length < most
    · rw [decide_eq_true (by omega)]
      obtain ⟨m, hmm⟩ : ∃ m, most - out.length = m + 1 := ⟨most - out.length - 1, by omega⟩
      by_cases hc : s.data.toList[i] = c
      · refine Ev.step (f := fun k => spec_l1Cut.l0 k s (c.toNat : Int) (most : Int) (out ++ [s.extract f i]) ((i + 1 : Nat) : Int) ((i + 1 : Nat) : Int)) (fun k => by
          rw [spec_l1Cut.j1, if_pos rfl, if_pos (by omega), if_pos (by omega), if_pos (by rw [bt_get s i hlt, hc]), if_pos (by omega), if_pos (by omega), if_pos (by omega), if_pos (by omega), wrapIn (x := (i : Int) + 1) (by omega) (by omega)]
          rfl) ?_
        have h2 := ih (i + 1) (i + 1) (out ++ [s.extract f i]) (by omega) (Nat.le_refl _) (by simp; omega)
        rw [List.length_append, List.length_singleton, show most - (out.length + 1) = m by omega] at h2
        have e : (s.data.toList.take (i + 1)).drop (i + 1) = [] := List.drop_eq_nil_of_le (by rw [List.length_take]; omega)
        rw [e, front_nil _ (cutM_ne _ _ _)] at h2
        rw [hmm, List.drop_eq_getElem_cons hlt, cutM, if_pos hc]
        have e2 : front ((s.data.toList.take i).drop f) ([] :: cutM c m (s.data.toList.drop (i + 1))) = ((s.data.toList.take i).drop f) :: cutM c m (s.data.toList.drop (i + 1)) := by simp [front]
        rw [e2, List.map_cons, ← eq_B (extract_data' s f i)]
        simpa using h2
      · refine Ev.step (f := fun k => spec_l1Cut.l0 k s (c.toNat : Int) (most : Int) out (f : Int) ((i + 1 : Nat) : Int)) (fun k => by
          rw [spec_l1Cut.j1, if_pos rfl, if_pos (by omega), if_pos (by omega), if_neg (by rw [bt_get s i hlt]; intro h; exact hc (UInt8.toNat_inj.1 (by omega))), wrapIn (x := (i : Int) + 1) (by omega) (by omega)]
          rfl) ?_
        have h2 := ih (i + 1) f out (by omega) (by omega) ho
        rw [hmm] at h2 ⊢
        rw [List.drop_eq_getElem_cons hlt, cutM, if_neg hc, front_front]
        have e : (s.data.toList.take i).drop f ++ [s.data.toList[i]] = (s.data.toList.take (i + 1)).drop f := by
          rw [List.take_succ_eq_append_getElem hlt, List.drop_append_of_le_length (by rw [List.length_take]; omega)]
        rw [e]
        exact h2
    · rw [decide_eq_false (by omega)]
      refine Ev.step (f := fun _ => some (out ++ [s.extract f s.size])) (fun k => by rw [spec_l1Cut.j1, if_neg (by decide), if_pos (by omega), if_pos (by omega), if_pos (by omega)]; rfl) ?_
      rw [show most - out.length = 0 by omega, cutM_zero]
      have e : front ((s.data.toList.take i).drop f) [s.data.toList.drop i] = [(s.extract f s.size).data.toList] := by
        rw [extract_data']
        simp only [front]
        rw [← List.drop_append_of_le_length (by rw [List.length_take]; omega), List.take_append_drop, List.take_of_length_le (by omega)]
      rw [e, List.map_singleton, B_of]
      exact Ev.now _
theorem cut_tells (s : ByteArray) (hs : s.size ≤ 1099511627776) (c : UInt8) (most : Nat) (hmost : most ≤ 1000) : Ev (fun k => spec_l1Cut.f k s (c.toNat : Int) (most : Int)) ((cutM c most s.data.toList).map B) := by
  have h := cut_from s hs c most hmost s.size 0 0 [] (by omega) (Nat.le_refl _) (by simp)
  simp only [List.take_zero, List.drop_nil, List.drop_zero, List.length_nil, Nat.sub_zero, List.nil_append] at h
  rw [front_nil _ (cutM_ne _ _ _)] at h
  exact h
theorem sdomain_from (L : List ByteArray) (hL : L.length ≤ 1099511627776) (hs : ∀ s ∈ L, s.size ≤ 1099511627776) : ∀ (d i : Nat), L.length = i + d → Ev (fun k => spec_l1Domain.l0 k L (i : Int)) ((L.drop i).all labelB && decide (L.length ≤ 3)) := by
  intro d
  induction d with
  | zero =>
    intro i hi
    refine Ev.step (f := fun _ => some (decide ((L.length : Int) ≤ 3))) (fun k => by rw [spec_l1Domain.l0, if_neg (by omega)]) ?_
    rw [List.drop_eq_nil_of_le (by omega), List.all_nil, Bool.true_and, show decide ((L.length : Int) ≤ 3) = decide (L.length ≤ 3) from decide_eq_decide.2 (by omega)]
    exact Ev.now _
  | succ d ih =>
    intro i hi
    have hlt : i < L.length := by omega
    refine Ev.step (f := fun k => (spec_l1Word.f k L[i]).bind fun t => if t = true then spec_l1Domain.l0 k L ((i + 1 : Nat) : Int) else some false)
      (fun k => by rw [spec_l1Domain.l0, if_pos (by omega), if_pos (by omega), rdOf_mem _ _ _ hlt, wrapIn (x := (i : Int) + 1) (by omega) (by omega)]; rfl) ?_
    rw [List.drop_eq_getElem_cons hlt, List.all_cons]
    have h1 := word_tells L[i] (hs _ (List.getElem_mem hlt))
    cases hb : labelB L[i]
    · rw [hb] at h1
      exact Ev.call h1 (h := fun _ => some false) (fun n => by rw [if_neg (by decide)]) (Ev.now _)
    · rw [hb] at h1
      rw [Bool.true_and]
      exact Ev.call h1 (fun n => by rw [if_pos rfl]) (ih (i + 1) (by omega))
theorem mem_front {p : List UInt8} {L : List (List UInt8)} {x : List UInt8} {n : Nat} (hL : ∀ y ∈ L, y.length ≤ n) (hx : x ∈ front p L) : x.length ≤ p.length + n := by
  cases L with
  | nil =>
    simp [front] at hx
    subst hx
    omega
  | cons y r =>
    simp only [front, List.mem_cons] at hx
    rcases hx with rfl | hx
    · have := hL y (by simp)
      rw [List.length_append]
      omega
    · have := hL x (by simp [hx])
      omega
theorem cutM_short (c : UInt8) : ∀ (m : Nat) (l x : List UInt8), x ∈ cutM c m l → x.length ≤ l.length
  | m, [], x, h => by rw [cutM_nil] at h; simp at h; subst h; simp
  | 0, a :: l, x, h => by simp [cutM] at h; subst h; simp
  | m + 1, a :: l, x, h => by
    rw [cutM] at h
    split at h
    · rcases List.mem_cons.1 h with rfl | h
      · simp
      · have := cutM_short c m l x h
        simp
        omega
    · have := mem_front (fun y hy => cutM_short c (m + 1) l y hy) h
      simp at this ⊢
      omega
theorem cutM_few (c : UInt8) (m : Nat) (l : List UInt8) : (cutM c m l).length ≤ m + 1 := by
  obtain ⟨h1, h2⟩ := cutM_cutAt c l m
  by_cases h : (cutAt c l).length ≤ m + 1
  · rw [h1 h]; exact h
  · rw [h2 (by omega)]; exact Nat.le_refl _
theorem sdomain_tells (d : ByteArray) (hd : d.size ≤ 1099511627776) : Ev (fun k => spec_l1Domain.f k d) (domainB d) := by
  have hc := cut_tells d hd 46 3 (by omega)
  have hf := cutM_few 46 3 d.data.toList
  have h := sdomain_from ((cutM 46 3 d.data.toList).map B) (by rw [List.length_map]; omega) (fun s hs => by
    obtain ⟨x, hx, rfl⟩ := List.mem_map.1 hs
    have := cutM_short 46 3 _ x hx
    rw [B_size]
    rw [data_length] at this
    omega) _ 0 (Nat.zero_add _).symm
  rw [List.drop_zero] at h
  have e : (((cutM 46 3 d.data.toList).map B).all labelB && decide (((cutM 46 3 d.data.toList).map B).length ≤ 3)) = domainB d := by
    unfold domainB
    rw [labels_cut]
    obtain ⟨h1, h2⟩ := cutM_cutAt 46 d.data.toList 3
    by_cases g : (cutAt 46 d.data.toList).length ≤ 3 + 1
    · rw [h1 g]
    · rw [decide_eq_false (p := ((cutM 46 3 d.data.toList).map B).length ≤ 3) (by rw [List.length_map, h2 (by omega)]; omega), decide_eq_false (p := ((cutAt 46 d.data.toList).map B).length ≤ 3) (by rw [List.length_map]; omega), Bool.and_false, Bool.and_false]
  rw [e] at h
  exact Ev.call hc (fun n => rfl) h
theorem saddr_tells (u d : ByteArray) (hu : u.size ≤ 1099511627776) (hd : d.size ≤ 1099511627776) : Ev (fun k => spec_l1AddrOk.f k u d) (addrB u d) := by
  unfold addrB
  have h1 := word_tells u hu
  cases hb : labelB u
  · rw [hb] at h1
    exact Ev.call h1 (h := fun _ => some false) (fun n => by rw [if_neg (by decide)]) (Ev.now _)
  · rw [hb] at h1
    rw [Bool.true_and]
    exact Ev.call h1 (fun n => by rw [if_pos rfl]) (Ev.call (sdomain_tells d hd) (h := fun _ => some (domainB d)) (fun n => rfl) (Ev.now _))
end Go.Proofs.YtbncnjgflhoneaaGreatDoor.Hand
