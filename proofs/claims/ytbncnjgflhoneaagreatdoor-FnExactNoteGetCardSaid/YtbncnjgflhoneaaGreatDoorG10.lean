/- Of this claim, merged by program: F8, F29, HBuild, HDots, F28, HNum. -/
import Derived.Lib.AppendIntMem
import Derived.Test.YtbncnjgflhoneaaGreatDoorG02
import Derived.Test.YtbncnjgflhoneaaGreatDoorG03
import Derived.Test.YtbncnjgflhoneaaGreatDoorG04
import Derived.Test.YtbncnjgflhoneaaGreatDoorG07
import Derived.Test.YtbncnjgflhoneaaGreatDoorG09
namespace Go.Proofs.YtbncnjgflhoneaaGreatDoor.F
open Go.RowKit Go.Proofs.YtbncnjgflhoneaaGreatDoor.Hand Go.Proofs.YtbncnjgflhoneaaGreatDoorW.PrintWords Go.Proofs.YtbncnjgflhoneaaGreatDoorW.PrintLast Go.Proofs.YtbncnjgflhoneaaGreatDoorW.PrintMore
attribute [local go_sem] max2_int min2_int max_two min_two max_three min_three max_four min_four
set_option linter.unusedVariables false
set_option linter.unusedSimpArgs false
def spec_NotePut.f (k : Nat) (a0_0 : Int) (a0_1 : Int) (a0_2 : ByteArray) (a0_3 : ByteArray) (a0_4 : Int) (a0_5 : ByteArray) (a0_6 : ByteArray) (l0_7 : List (S32)) (l0_8 : List ByteArray) : Option (ByteArray) := (spec_l6Ok.f k a0_0 a0_1 a0_2 a0_3 a0_4 a0_5 a0_6 l0_7 l0_8).bind fun t102 => (if t102 = true then ((spec_l6Body.f k a0_0 a0_1 a0_2 a0_3 a0_4 a0_5 a0_6 l0_7 l0_8).bind fun t103 => (some t103)) else (some (⟨#[]⟩ : ByteArray)))
theorem spec_NotePut.mono : ∀ a0 a1 a2 a3 a4 a5 a6 a7 a8 k, LeO (spec_NotePut.f k a0 a1 a2 a3 a4 a5 a6 a7 a8) (spec_NotePut.f (k + 1) a0 a1 a2 a3 a4 a5 a6 a7 a8) := by
 intro a0 a1 a2 a3 a4 a5 a6 a7 a8 k
 unfold spec_NotePut.f
 repeat' with_reducible first | apply spec_l6Body.mono | apply spec_l6Ok.mono | exact LeO.refl _ | exact LeO.none _ | apply LeO.ite | refine LeO.bind ?_ fun _ => ?_
set_option maxHeartbeats 8000000 in
set_option maxRecDepth 100000 in
theorem spec_NotePut.calls (k : Nat) (a0_0 : Int) (a0_1 : Int) (a0_2 : ByteArray) (a0_3 : ByteArray) (a0_4 : Int) (a0_5 : ByteArray) (a0_6 : ByteArray) (A0_7 : Option Addr) (c0_7 : Nat) (l0_7 : List (S32)) (A0_8 : Option Addr) (c0_8 : Nat) (l0_8 : List ByteArray) (r : ByteArray) (w : World) (hr0_7 : Kd.C k32 w A0_7 l0_7.length l0_7) (hc0_7 : l0_7.length ≤ c0_7) (hr0_8 : Kd.C Kd.string w A0_8 l0_8.length l0_8) (hc0_8 : l0_8.length ≤ c0_8) (h : spec_NotePut.f k a0_0 a0_1 a0_2 a0_3 a0_4 a0_5 a0_6 l0_7 l0_8 = some r) :
  Calls Tryz.prog 8 #[.agg #[.int .i64 a0_0, .int .i64 a0_1, .string a0_2, .string a0_3, .int .i64 a0_4, .string a0_5, .string a0_6, .slice A0_7 l0_7.length c0_7, .slice A0_8 l0_8.length c0_8]] w fun e w' => e = .returned (.string r) ∧ Below w.heap.size w w' := by
 have hu37 := Tryz.underlying37
 have HR0_7 := Aside0.mk hr0_7
 have HC0_7 := Aside0.mk hc0_7
 clear hr0_7 hc0_7
 have HR0_8 := Aside0.mk hr0_8
 have HC0_8 := Aside0.mk hc0_8
 clear hr0_8 hc0_8
 have HB := Aside0.mk (Below.refl w.heap.size w)
 have H := h
 clear h
 unfold spec_NotePut.f at H
 replace H := bnd H; obtain ⟨t102, A2, H⟩ := H
 replace H := itb H; rcases H with ⟨rfl, H⟩ | ⟨rfl, H⟩
 ·replace H := bnd H; obtain ⟨t103, A4, H⟩ := H
  obtain rfl := Option.some.inj H
  go_enter Tryz.func8, Tryz.ntmps8
  go_wp2_with (first | ((with_reducible refine gate_dst (N := 1) rfl ?_); refine bx (cs := #[.int .i64 a0_0, .int .i64 a0_1, .string a0_2, .string a0_3, .int .i64 a0_4, .string a0_5, .string a0_6, .slice A0_7 l0_7.length c0_7, .slice A0_8 l0_8.length c0_8]) (t := 37) ?_; intro gb101 hg w5 hbox hb; have BK101 := Aside0.mk (hbox); have GW101 := gS hg; have GE101 := gS hg; replace HB := bS hb; clear hb hbox hg; obtain ⟨hcz6_0, hcz6_1, hcz6_2, hcz6_3, hcz6_4, hcz6_5, hcz6_6, hcz6_7, hcz6_8⟩ := cz9 BK101.out; obtain ⟨hfz6_0, hfz6_1, hfz6_2, hfz6_3, hfz6_4, hfz6_5, hfz6_6, hfz6_7, hfz6_8⟩ := fz9 BK101.out) | ((with_reducible refine gate_callee (f := 23) rfl ?_); refine gv 4 Tryz.func23 #[.agg #[.int .i64 a0_0, .int .i64 a0_1, .string a0_2, .string a0_3, .int .i64 a0_4, .string a0_5, .string a0_6, .slice A0_7 l0_7.length c0_7, .slice A0_8 l0_8.length c0_8]] (spec_l6Ok.calls (w := _) (hr0_7 := cB HR0_7) (hc0_7 := HC0_7.out) (hr0_8 := cB HR0_8) (hc0_8 := HC0_8.out) (h := A2.out)) ?_; intro w7 hb; replace BK101 := kS BK101 hb; replace HB := bS hb; clear hb; obtain ⟨hcz8_0, hcz8_1, hcz8_2, hcz8_3, hcz8_4, hcz8_5, hcz8_6, hcz8_7, hcz8_8⟩ := cz9 BK101.out; obtain ⟨hfz8_0, hfz8_1, hfz8_2, hfz8_3, hfz8_4, hfz8_5, hfz8_6, hfz8_7, hfz8_8⟩ := fz9 BK101.out) | ((with_reducible refine gate_callee (f := 24) rfl ?_); refine gv 7 Tryz.func24 #[.agg #[.int .i64 a0_0, .int .i64 a0_1, .string a0_2, .string a0_3, .int .i64 a0_4, .string a0_5, .string a0_6, .slice A0_7 l0_7.length c0_7, .slice A0_8 l0_8.length c0_8]] (spec_l6Body.calls (w := _) (hr0_7 := cB HR0_7) (hc0_7 := HC0_7.out) (hr0_8 := cB HR0_8) (hc0_8 := HC0_8.out) (h := A4.out)) ?_; intro w9 hb; replace BK101 := kS BK101 hb; replace HB := bS hb; clear hb))
  go_ret
  exact ⟨zr, zB⟩
 ·obtain rfl := Option.some.inj H
  go_enter Tryz.func8, Tryz.ntmps8
  go_wp2_with (first | ((with_reducible refine gate_dst (N := 1) rfl ?_); refine bx (cs := #[.int .i64 a0_0, .int .i64 a0_1, .string a0_2, .string a0_3, .int .i64 a0_4, .string a0_5, .string a0_6, .slice A0_7 l0_7.length c0_7, .slice A0_8 l0_8.length c0_8]) (t := 37) ?_; intro gb101 hg w10 hbox hb; have BK101 := Aside0.mk (hbox); have GW101 := gS hg; have GE101 := gS hg; replace HB := bS hb; clear hb hbox hg; obtain ⟨hcz11_0, hcz11_1, hcz11_2, hcz11_3, hcz11_4, hcz11_5, hcz11_6, hcz11_7, hcz11_8⟩ := cz9 BK101.out; obtain ⟨hfz11_0, hfz11_1, hfz11_2, hfz11_3, hfz11_4, hfz11_5, hfz11_6, hfz11_7, hfz11_8⟩ := fz9 BK101.out) | ((with_reducible refine gate_callee (f := 23) rfl ?_); refine gv 4 Tryz.func23 #[.agg #[.int .i64 a0_0, .int .i64 a0_1, .string a0_2, .string a0_3, .int .i64 a0_4, .string a0_5, .string a0_6, .slice A0_7 l0_7.length c0_7, .slice A0_8 l0_8.length c0_8]] (spec_l6Ok.calls (w := _) (hr0_7 := cB HR0_7) (hc0_7 := HC0_7.out) (hr0_8 := cB HR0_8) (hc0_8 := HC0_8.out) (h := A2.out)) ?_; intro w12 hb; replace BK101 := kS BK101 hb; replace HB := bS hb; clear hb))
  go_ret
  exact ⟨zr, zB⟩
def impl_Addr_text.f (a0_0 : ByteArray) (a0_1 : ByteArray) : Option (ByteArray) := (impl_Addr_null.f a0_0 a0_1).bind fun t102 => (if t102 = true then (some (⟨#[60, 62]⟩ : ByteArray)) else (if 1 + a0_0.size ≤ 9223372036854775807 then (if ((⟨#[60]⟩ : ByteArray) ++ a0_0).size + 1 ≤ 9223372036854775807 then (if (((⟨#[60]⟩ : ByteArray) ++ a0_0) ++ (⟨#[64]⟩ : ByteArray)).size + a0_1.size ≤ 9223372036854775807 then (if ((((⟨#[60]⟩ : ByteArray) ++ a0_0) ++ (⟨#[64]⟩ : ByteArray)) ++ a0_1).size + 1 ≤ 9223372036854775807 then (some (((((⟨#[60]⟩ : ByteArray) ++ a0_0) ++ (⟨#[64]⟩ : ByteArray)) ++ a0_1) ++ (⟨#[62]⟩ : ByteArray))) else (none)) else (none)) else (none)) else (none)))
set_option maxHeartbeats 8000000 in
set_option maxRecDepth 100000 in
theorem impl_Addr_text.calls (a0_0 : ByteArray) (a0_1 : ByteArray) (r : ByteArray) (w : World) (h : impl_Addr_text.f a0_0 a0_1 = some r) :
  Calls Tryz.prog 29 #[.agg #[.string a0_0, .string a0_1]] w fun e w' => e = .returned (.string r) ∧ Below w.heap.size w w' := by
 have hu32 := Tryz.underlying32
 have HB := Aside0.mk (Below.refl w.heap.size w)
 have H := h
 clear h
 unfold impl_Addr_text.f at H
 replace H := bnd H; obtain ⟨t102, A2, H⟩ := H
 replace H := itb H; rcases H with ⟨rfl, H⟩ | ⟨rfl, H⟩
 ·obtain rfl := Option.some.inj H
  go_enter Tryz.func29, Tryz.ntmps29
  go_wp2_with (first | ((with_reducible refine gate_dst (N := 1) rfl ?_); refine bx (cs := #[.string a0_0, .string a0_1]) (t := 32) ?_; intro gb101 hg w4 hbox hb; have BK101 := Aside0.mk (hbox); have GW101 := gS hg; have GE101 := gS hg; replace HB := bS hb; clear hb hbox hg; obtain ⟨hcz5_0, hcz5_1⟩ := cz2 BK101.out; obtain ⟨hfz5_0, hfz5_1⟩ := fz2 BK101.out) | ((with_reducible refine gate_callee (f := 38) rfl ?_); refine gv 4 Tryz.func38 _ (impl_Addr_null.calls (w := _) (h := A2.out)) ?_; intro w6 hb; replace BK101 := kS BK101 hb; replace HB := bS hb; clear hb))
  go_ret
  exact ⟨zr, zB⟩
 ·replace H := itn_edm H; obtain ⟨c7b0, c7b1, c7b2, H⟩ := H
  replace H := itn_cedm H; obtain ⟨c8, c8b0, c8b1, c8b2, H⟩ := H
  have c8b3 : (9223372036854775807 < 1 + a0_0.size + 1) = False := eq_false (by have z_ := c8; simp only [ByteArray.size_append] at z_; exact Nat.not_lt.2 z_)
  replace H := itn_cedm H; obtain ⟨c9, c9b0, c9b1, c9b2, H⟩ := H
  have c9b3 : (9223372036854775807 < 1 + a0_0.size + 1 + a0_1.size) = False := eq_false (by have z_ := c9; simp only [ByteArray.size_append] at z_; exact Nat.not_lt.2 z_)
  replace H := itn_cedm H; obtain ⟨c10, c10b0, c10b1, c10b2, H⟩ := H
  have c10b3 : (9223372036854775807 < 1 + a0_0.size + 1 + a0_1.size + 1) = False := eq_false (by have z_ := c10; simp only [ByteArray.size_append] at z_; exact Nat.not_lt.2 z_)
  obtain rfl := Option.some.inj H
  go_enter Tryz.func29, Tryz.ntmps29
  go_wp2_with (first | ((with_reducible refine gate_dst (N := 1) rfl ?_); refine bx (cs := #[.string a0_0, .string a0_1]) (t := 32) ?_; intro gb101 hg w11 hbox hb; have BK101 := Aside0.mk (hbox); have GW101 := gS hg; have GE101 := gS hg; replace HB := bS hb; clear hb hbox hg; obtain ⟨hcz12_0, hcz12_1⟩ := cz2 BK101.out; obtain ⟨hfz12_0, hfz12_1⟩ := fz2 BK101.out) | ((with_reducible refine gate_callee (f := 38) rfl ?_); refine gv 4 Tryz.func38 _ (impl_Addr_null.calls (w := _) (h := A2.out)) ?_; intro w13 hb; replace BK101 := kS BK101 hb; replace HB := bS hb; clear hb; obtain ⟨hcz14_0, hcz14_1⟩ := cz2 BK101.out; obtain ⟨hfz14_0, hfz14_1⟩ := fz2 BK101.out))
  go_ret
  exact ⟨zr, zB⟩
end Go.Proofs.YtbncnjgflhoneaaGreatDoor.F
namespace Go.Proofs.YtbncnjgflhoneaaGreatDoor.Hand
open Go.RowKit
set_option maxHeartbeats 1000000 in
set_option maxRecDepth 100000 in
theorem check_used (b : Nat) (w : World) (h0 : w.cell? ⟨b, 0, none⟩ = some (.pointer (some ⟨b, 0, none⟩))) :
    Calls Tryz.prog 140 #[.pointer (some ⟨b, 0, none⟩)] w fun e w' => e = .returned (.tuple #[]) ∧ w' = w := by
  obtain ⟨j, hj, _⟩ := Option.map_eq_some_iff.1 (show (Tryz.prog.info? 125).map (·.size) = some 2 by kernel_rfl)
  go_enter Tryz.func140, Tryz.ntmps140
  go_wp2
  rw [Lib.run_neq_ptr_same w _ Tryz.underlying123 hj]
  go_wp2
  go_end0
  exact ⟨rfl, rfl⟩
set_option maxHeartbeats 1000000 in
set_option maxRecDepth 100000 in
theorem check_fresh (b : Nat) (w : World) (h0 : w.cell? ⟨b, 0, none⟩ = some (.pointer none)) (hsh : w.shape? b = some (125, 2)) (hfz : w.frozen? ⟨b, 0, none⟩ = false) :
    Calls Tryz.prog 140 #[.pointer (some ⟨b, 0, none⟩)] w fun e w' => e = .returned (.tuple #[]) ∧ w' = w.setCell ⟨b, 0, none⟩ (.pointer (some ⟨b, 0, none⟩)) := by
  obtain ⟨j, hj, hjs⟩ := Option.map_eq_some_iff.1 (show (Tryz.prog.info? 125).map (·.size) = some 2 by kernel_rfl)
  go_enter Tryz.func140, Tryz.ntmps140
  go_wp2
  rw [Lib.run_to_unsafe w ⟨b, 0, none⟩ Tryz.underlying123 Tryz.underlying176 hj (by rw [hjs]; decide) hsh (Nat.zero_lt_succ 1)]
  simp only [Result.andThen]
  rw [Oper.upon_value]
  go_wp2
  rw [run_callFunc_extern Tryz.func172 (by kernel_rfl) (by kernel_rfl) (by kernel_rfl) (e := Extern.AbiNoEscape.same) (by kernel_rfl)]
  rw [Lib.run_noEscape]
  simp only [Result.andThen]
  rw [Oper.upon_value]
  go_wp2
  rw [Lib.run_from_unsafe w ⟨b, 0, none⟩ Tryz.underlying176 Tryz.underlying123 hj hsh (by kernel_rfl)]
  simp only [Result.andThen]
  rw [Oper.upon_value]
  go_wp2
  go_end0
  exact ⟨rfl, rfl⟩
theorem Builder_check (B b : Nat) (bs : List Value) (w : World) (h : Lib.IsBuilder 125 5 B b bs w) :
    Calls Tryz.prog 140 #[.pointer (some ⟨b, 0, none⟩)] w fun e w' => e = .returned (.tuple #[]) ∧ (Lib.BuilderAt 125 5 B b (.pointer (some ⟨b, 0, none⟩)) bs w' ∧ Below B w w') := by
  rcases h with h | h
  · refine (check_fresh b w h.cell0 h.shape h.frozen0).mono ?_
    rintro e w' ⟨rfl, rfl⟩
    exact ⟨rfl, h.used _, (Below.refl B w).setCell (p := ⟨b, 0, none⟩) h.1 _⟩
  · refine (check_used b w h.cell0).mono ?_
    rintro e w' ⟨rfl, rfl⟩
    exact ⟨rfl, h, Below.refl B _⟩
theorem infoByte : (Tryz.prog.info? 5).map (fun i => (i.zero, i.size, i.bytes)) = some (some (.int .u8 0), 1, 1) := by kernel_rfl
set_option maxHeartbeats 2000000 in
set_option maxRecDepth 100000 in
theorem Builder_byte (B b : Nat) (bs : List Value) (c : Int) (w : World) (h : Lib.IsBuilder 125 5 B b bs w) (hlen : bs.length + 1 ≤ 140737488355328) (hBw : B ≤ w.heap.size) :
    Calls Tryz.prog 106 #[.pointer (some ⟨b, 0, none⟩), .int .u8 c] w fun e w' => e = .returned .nilIface ∧ (Lib.BuilderAt 125 5 B b (.pointer (some ⟨b, 0, none⟩)) (bs ++ [.int .u8 c]) w' ∧ Below B w w') := by
  obtain ⟨i0, hi, hz0, hz1, hz2⟩ := info_parts infoByte
  go_enter Tryz.func106, Tryz.ntmps106
  go_wp2_with (go_at_call 140; refine (Builder_check B b bs _ h).mono ?_)
  rintro e w1 ⟨rfl, h1, hb1⟩
  obtain ⟨hB, v, hbk, hown, hne⟩ := h1
  have c0 : w1.cell? ⟨b, 0, none⟩ = some (.pointer (some ⟨b, 0, none⟩)) := by rw [Lib.cell_of_heap hbk]; rfl
  have c1 : w1.cell? ⟨b, 1, none⟩ = some v := by rw [Lib.cell_of_heap hbk]; rfl
  go_wp2_with (at_builtin; refine wpList_append_own _ rfl _ _ 41 rfl B 5 i0 (.int .u8 0) 1 1 Tryz.underlying41 hi hz0 hz1 hz2 rfl (by decide) _ _ _ rfl (hown.alloc _) ⟨w1.heap.size, 0, none⟩ 1 1 [.int .u8 c] rfl rfl ?c1 ?c2 ?c3 ?c4 ?c5 ?_)
  case c1 =>
    intro j u hj
    match j, hj with
    | 0, hj => simp at hj; subst hj; simp [Addr.add]
  case c2 => intro u hu; simp at hu; subst hu; rfl
  case c3 => unfold maxLen; omega
  case c4 => omega
  case c5 => have := hb1.size; simp; omega
  intro v' w2 hown' hgrow _
  have hlt : b < w1.heap.size := by
    rcases Nat.lt_or_ge b w1.heap.size with h' | h'
    · exact h'
    · simp [Array.getElem?_eq_none h'] at hbk
  have hb2 : w2.heap[b]? = some (.cells #[.pointer (some ⟨b, 0, none⟩), v] 125 (0, 0)) := by
    rw [hgrow.block b (by simp; omega) (fun e => hne e.symm), Lib.alloc_old w1 _ b hlt]
    exact hbk
  have d0 : w2.cell? ⟨b, 0, none⟩ = some (.pointer (some ⟨b, 0, none⟩)) := by rw [Lib.cell_of_heap hb2]; rfl
  have d1 : w2.cell? ⟨b, 1, none⟩ = some v := by rw [Lib.cell_of_heap hb2]; rfl
  have f1 : w2.frozen? ⟨b, 1, none⟩ = false := Lib.frozen_of_heap hb2 1
  obtain ⟨g, cap, rfl⟩ : ∃ g cap, v' = .slice (some ⟨g, 0, none⟩) (bs.length + 1) cap := by
    rcases hown'.2 with ⟨_, h0⟩ | ⟨g, cap, cur, hv, _⟩
    · omega
    · exact ⟨g, cap, hv⟩
  go_wp2
  go_ret
  refine ⟨rfl, ?_, ?_⟩
  · exact Lib.BuilderAt.put (T := 125) (e := 5) hB hb2 (bs' := bs ++ [.int .u8 c]) (by simpa using hown') (by decide)
  · exact ((hb1.alloc (by have := hb1.size; omega) _).grown hgrow (by have := hb1.size; simp; omega) (fun k hk => (hown.lt k hk).1)).setCell (p := ⟨b, 1, none⟩) hB _
set_option maxHeartbeats 2000000 in
set_option maxRecDepth 100000 in
theorem Builder_text (B b : Nat) (bs : List Value) (s : ByteArray) (w : World) (h : Lib.IsBuilder 125 5 B b bs w) (hlen : bs.length + s.size ≤ 140737488355328) (hBw : B ≤ w.heap.size) :
    Calls Tryz.prog 107 #[.pointer (some ⟨b, 0, none⟩), .string s] w fun e w' => e = .returned (.tuple #[.int .i64 s.size, .nilIface]) ∧ (Lib.BuilderAt 125 5 B b (.pointer (some ⟨b, 0, none⟩)) (bs ++ Lib.strCells s) w' ∧ Below B w w') := by
  obtain ⟨i0, hi, hz0, hz1, hz2⟩ := info_parts infoByte
  go_enter Tryz.func107, Tryz.ntmps107
  go_wp2_with (go_at_call 140; refine (Builder_check B b bs _ h).mono ?_)
  rintro e w1 ⟨rfl, h1, hb1⟩
  obtain ⟨hB, v, hbk, hown, hne⟩ := h1
  have c0 : w1.cell? ⟨b, 0, none⟩ = some (.pointer (some ⟨b, 0, none⟩)) := by rw [Lib.cell_of_heap hbk]; rfl
  have c1 : w1.cell? ⟨b, 1, none⟩ = some v := by rw [Lib.cell_of_heap hbk]; rfl
  go_wp2_with (at_builtin; refine Lib.wpList_append_own_string _ rfl _ _ 41 9 rfl B 5 i0 Tryz.underlying41 Tryz.underlying9 hi hz0 hz1 hz2 _ _ _ rfl hown s rfl ?c3 ?c4 ?c5 ?_)
  case c3 => unfold maxLen; omega
  case c4 => omega
  case c5 => have := hb1.size; omega
  intro v' w2 hown' hgrow _
  have hlt : b < w1.heap.size := by
    rcases Nat.lt_or_ge b w1.heap.size with h' | h'
    · exact h'
    · simp [Array.getElem?_eq_none h'] at hbk
  have hb2 : w2.heap[b]? = some (.cells #[.pointer (some ⟨b, 0, none⟩), v] 125 (0, 0)) := by
    rw [hgrow.block b hlt (fun e => hne e.symm)]
    exact hbk
  have d0 : w2.cell? ⟨b, 0, none⟩ = some (.pointer (some ⟨b, 0, none⟩)) := by rw [Lib.cell_of_heap hb2]; rfl
  have d1 : w2.cell? ⟨b, 1, none⟩ = some v := by rw [Lib.cell_of_heap hb2]; rfl
  have f1 : w2.frozen? ⟨b, 1, none⟩ = false := Lib.frozen_of_heap hb2 1
  obtain ⟨ao, n', cap, rfl⟩ : ∃ ao n' cap, v' = .slice ao n' cap := by
    rcases hown'.2 with ⟨hv, _⟩ | ⟨g, cap, cur, hv, _⟩
    · exact ⟨_, _, _, hv⟩
    · exact ⟨_, _, _, hv⟩
  go_wp2
  go_ret2
  refine ⟨rfl, ?_, ?_⟩
  · exact Lib.BuilderAt.put (T := 125) (e := 5) hB hb2 (bs' := bs ++ Lib.strCells s) (by simpa [Lib.strCells_length] using hown') (by decide)
  · exact (hb1.grown hgrow (by have := hb1.size; omega) (fun k hk => (hown.lt k hk).1)).setCell (p := ⟨b, 1, none⟩) hB _
end Go.Proofs.YtbncnjgflhoneaaGreatDoor.Hand
namespace Go.Proofs.YtbncnjgflhoneaaGreatDoor.Hand
open Go.RowKit Go.Proofs.YtbncnjgflhoneaaGreatDoorW.PrintWords Go.Proofs.YtbncnjgflhoneaaGreatDoorW.PrintLast Go.Proofs.YtbncnjgflhoneaaGreatDoorW.PrintMore
def dotL (s : List UInt8) : List UInt8 := (if s.head? = some 46 then [46] else []) ++ (s ++ [13, 10])
def dotsL (l : List ByteArray) : List UInt8 := (l.flatMap fun s => dotL s.data.toList) ++ [46, 13, 10]
def impl_dotted.f (l : List ByteArray) : Option ByteArray := if (dotsL l).length ≤ 1099511627776 then some ⟨(dotsL l).toArray⟩ else none
def upTo (l : List ByteArray) (k : Nat) : List UInt8 := (l.take k).flatMap fun s => dotL s.data.toList
theorem upTo_succ (l : List ByteArray) (k : Nat) (h : k < l.length) : upTo l (k + 1) = upTo l k ++ dotL (l[k]).data.toList := by
  unfold upTo
  rw [List.take_succ_eq_append_getElem h, List.flatMap_append]
  simp
theorem upTo_le (l : List ByteArray) (k : Nat) : (upTo l k).length + 3 ≤ (dotsL l).length := by
  have e : dotsL l = upTo l k ++ ((l.drop k).flatMap fun s => dotL s.data.toList) ++ [46, 13, 10] := by
    unfold dotsL upTo
    rw [← List.flatMap_append, List.take_append_drop]
  rw [e, List.length_append, List.length_append, List.length_cons, List.length_cons, List.length_singleton]
  omega
theorem upTo_all (l : List ByteArray) : upTo l l.length ++ [46, 13, 10] = dotsL l := by
  unfold upTo dotsL
  rw [List.take_length]
theorem hasDot (s : ByteArray) : Lib.hasPrefix s.data.toList (⟨#[46]⟩ : ByteArray).data.toList = decide (s.data.toList.head? = some 46) := by
  cases hs : s.data.toList with
  | nil => rfl
  | cons a l =>
    show Lib.hasPrefix (a :: l) [46] = _
    rw [Bool.eq_iff_iff]
    simp only [Lib.hasPrefix, List.isPrefixOf, Bool.and_true, List.head?_cons, Option.some.injEq, decide_eq_true_eq, beq_iff_eq]
    exact ⟨fun h => h.symm, fun h => h.symm⟩
theorem cells_byte (l : List UInt8) (c : UInt8) : Lib.byteCells l ++ [.int .u8 c.toNat] = Lib.byteCells (l ++ [c]) := by simp [Lib.byteCells]
theorem cells_text (l : List UInt8) (s : ByteArray) : Lib.byteCells l ++ Lib.strCells s = Lib.byteCells (l ++ s.data.toList) := by simp [Lib.byteCells, Lib.strCells]
theorem rdOf_mem' {α : Type} (d : α) (l : List α) (k : Nat) (h : k < l.length) : rdOf d l (k : Int) = l[k] := by
  unfold rdOf
  simp [List.getD_eq_getElem?_getD, h]
def Holds (w : World) (l : List ByteArray) (k : Nat) (wr : World) : Prop := Lib.IsBuilder 125 5 w.heap.size w.heap.size (Lib.byteCells (upTo l k)) wr ∧ Below w.heap.size w wr
set_option maxHeartbeats 2000000 in
set_option maxRecDepth 100000 in
theorem impl_dotted.calls (A0 : Option Addr) (c0 : Nat) (l0 : List ByteArray) (r : ByteArray) (w : World) (hr0 : Kd.C Kd.string w A0 l0.length l0) (_hc0 : l0.length ≤ c0) (h : impl_dotted.f l0 = some r) :
    Calls Tryz.prog 65 #[.slice A0 l0.length c0] w fun e w' => e = .returned (.string r) ∧ Below w.heap.size w w' := by
  unfold impl_dotted.f at h
  split at h
  · rename_i hlim
    injection h with h
    have HR := Aside0.mk h
    have hm := hr0.2.1
    have HR0 := Aside0.mk hr0
    have HL := Aside0.mk hlim
    have H0 := Aside0.mk (show Holds w l0 0 (w.alloc (.cells #[.pointer none, .slice none 0 0] 125)) from ⟨Lib.fresh_isBuilder 125 5 w, (Below.refl _ _).alloc (Nat.le_refl _) _⟩)
    clear h hr0 hlim
    go_enter Tryz.func65, Tryz.ntmps65
    go_wp2
    go_loopw [8] (fun i wr => ∃ k : Nat, k ≤ l0.length ∧ i = .int .i64 k ∧ Aside0 (Holds w l0 k wr)) (fun i _ => l0.length - (intOf i).toNat)
    case atStart => exact ⟨0, by omega, rfl, H0⟩
    case round =>
      clear H0
      obtain ⟨k, hk, rfl, HH⟩ := hrel
      by_cases hlt : k < l0.length
      · obtain ⟨ad, e, hx⟩ := Kd.at_string HR0.out k (by omega) (by omega)
        cases e
        rw [rdOf_mem' _ _ _ hlt, Int.toNat_natCast] at hx
        replace hx := (HH.out.2.cell (World.block_lt_of_cell? w _ hx)).trans hx
        have hsu := upTo_succ l0 k hlt
        have hle := upTo_le l0 (k + 1)
        have hl := HL.out
        generalize l0[k] = s at hx hsu
        by_cases hd : s.data.toList.head? = some 46
        · have e1 : upTo l0 (k + 1) = upTo l0 k ++ [46] ++ (s.data.toList ++ [13, 10]) := by rw [hsu]; unfold dotL; rw [if_pos hd, List.append_assoc]
          have e2 : (upTo l0 (k + 1)).length = (upTo l0 k).length + 1 + (s.size + 2) := by rw [e1]; simp [data_length]; omega
          have hp : Lib.hasPrefix s.data.toList (⟨#[46]⟩ : ByteArray).data.toList = true := by rw [hasDot, decide_eq_true hd]
          have HP := Aside0.mk (fun W => Tryz.strings_HasPrefix s ⟨#[46]⟩ W)
          rw [hp] at HP
          have E1 := Aside0.mk e1
          have B1 := Aside0.mk (show (upTo l0 k).length + 1 + (s.size + 2) ≤ 1099511627776 by omega)
          have z1 : (9223372036854775807 < s.size + 2) = False := eq_false (by have := B1.out; omega)
          have SZ := Aside0.mk (show (s ++ (⟨#[13, 10]⟩ : ByteArray)).size = s.size + 2 by rw [ByteArray.size_append]; rfl)
          clear e1 hsu hle hl hd hp e2
          go_wp2_with (first
            | (go_at_call 105; refine (HP.out _).mono ?_; rintro e w' ⟨rfl, rfl⟩)
            | (go_at_call 106; refine (Builder_byte w.heap.size w.heap.size (Lib.byteCells (upTo l0 k)) 46 _ HH.out.1 (by rw [Lib.byteCells_length]; have := B1.out; omega) HH.out.2.size).mono ?_; rintro e w1 ⟨rfl, hb1, hbl1⟩; have HB1 := Aside0.mk hb1; have HL1 := Aside0.mk hbl1; clear hb1 hbl1)
            | (go_at_call 107; refine (Builder_text w.heap.size w.heap.size _ _ _ (.inr HB1.out) (by rw [List.length_append, Lib.byteCells_length, SZ.out, List.length_singleton]; have := B1.out; omega) (Nat.le_trans HH.out.2.size HL1.out.size)).mono ?_; rintro e w2 ⟨rfl, hb2, hbl2⟩; have HB2 := Aside0.mk hb2; have HL2 := Aside0.mk hbl2; clear hb2 hbl2))
          go_roundw
          case rel => exact ⟨k + 1, by omega, by go_num, ⟨⟨.inr (by have h3 := HB2.out; rw [show ([.int .u8 46] : List Value) = [.int .u8 ((46 : UInt8).toNat : Int)] from rfl, cells_byte (upTo l0 k) 46, cells_text] at h3; rw [E1.out]; simpa using h3), (HH.out.2.trans HL1.out).trans HL2.out⟩⟩⟩
          case measure => simp [intOf]; omega
        · have e1 : upTo l0 (k + 1) = upTo l0 k ++ (s.data.toList ++ [13, 10]) := by rw [hsu]; unfold dotL; rw [if_neg hd, List.nil_append]
          have e2 : (upTo l0 (k + 1)).length = (upTo l0 k).length + (s.size + 2) := by rw [e1]; simp [data_length]
          have hp : Lib.hasPrefix s.data.toList (⟨#[46]⟩ : ByteArray).data.toList = false := by rw [hasDot, decide_eq_false hd]
          have HP := Aside0.mk (fun W => Tryz.strings_HasPrefix s ⟨#[46]⟩ W)
          rw [hp] at HP
          have E1 := Aside0.mk e1
          have B1 := Aside0.mk (show (upTo l0 k).length + (s.size + 2) ≤ 1099511627776 by omega)
          have z1 : (9223372036854775807 < s.size + 2) = False := eq_false (by have := B1.out; omega)
          have SZ := Aside0.mk (show (s ++ (⟨#[13, 10]⟩ : ByteArray)).size = s.size + 2 by rw [ByteArray.size_append]; rfl)
          clear e1 hsu hle hl hd hp e2
          go_wp2_with (first
            | (go_at_call 105; refine (HP.out _).mono ?_; rintro e w' ⟨rfl, rfl⟩)
            | (go_at_call 107; refine (Builder_text w.heap.size w.heap.size _ _ _ HH.out.1 (by rw [Lib.byteCells_length, SZ.out]; have := B1.out; omega) HH.out.2.size).mono ?_; rintro e w2 ⟨rfl, hb2, hbl2⟩; have HB2 := Aside0.mk hb2; have HL2 := Aside0.mk hbl2; clear hb2 hbl2))
          go_roundw
          case rel => exact ⟨k + 1, by omega, by go_num, ⟨⟨.inr (by have h3 := HB2.out; rw [cells_text] at h3; rw [E1.out]; simpa using h3), HH.out.2.trans HL2.out⟩⟩⟩
          case measure => simp [intOf]; omega
      · obtain rfl : k = l0.length := by omega
        have hle := upTo_le l0 l0.length
        have hl := HL.out
        have B1 := Aside0.mk (show (upTo l0 l0.length).length + 3 ≤ 1099511627776 by omega)
        have EA := Aside0.mk (upTo_all l0)
        clear hlt hle hl
        go_wp2_with (first
          | (go_at_call 107; refine (Builder_text w.heap.size w.heap.size _ ⟨#[46, 13, 10]⟩ _ HH.out.1 (by rw [Lib.byteCells_length, show (⟨#[46, 13, 10]⟩ : ByteArray).size = 3 from rfl]; have := B1.out; omega) HH.out.2.size).mono ?_; rintro e w2 ⟨rfl, hb2, hbl2⟩; have HB2 := Aside0.mk hb2; have HL2 := Aside0.mk hbl2; clear hb2 hbl2)
          | (go_at_call 108; refine (Tryz.Builder_String_any w.heap.size w.heap.size (dotsL l0) _ (.inr (by have h3 := HB2.out; rw [cells_text] at h3; rw [← EA.out]; exact h3)) (Nat.le_trans HH.out.2.size HL2.out.size)).mono ?_; rintro e w3 ⟨rfl, hbl3⟩; have HL3 := Aside0.mk hbl3; clear hbl3))
        go_ret
        exact ⟨congrArg (fun x => Ending.returned (.string x)) HR.out, (HH.out.2.trans HL2.out).trans HL3.out⟩
  · cases h
end Go.Proofs.YtbncnjgflhoneaaGreatDoor.Hand
namespace Go.Proofs.YtbncnjgflhoneaaGreatDoor.F
open Go.RowKit Go.Proofs.YtbncnjgflhoneaaGreatDoor.Hand Go.Proofs.YtbncnjgflhoneaaGreatDoorW.PrintWords Go.Proofs.YtbncnjgflhoneaaGreatDoorW.PrintLast Go.Proofs.YtbncnjgflhoneaaGreatDoorW.PrintMore
attribute [local go_sem] max2_int min2_int max_two min_two max_three min_three max_four min_four
set_option linter.unusedVariables false
set_option linter.unusedSimpArgs false
def impl_MailPut.l0 : Nat → ByteArray → List (S32) → Int → Int → ByteArray → ByteArray → List (S32) → List ByteArray → Option (ByteArray)
 | 0, _, _, _, _, _, _, _, _ => none
 | k + 1, x3, x15, x16, x17, x102000, x102001, x102002, x102003 => if x17 < x16 then (if 0 ≤ x17 then (if x17 < (x15.length : Int) then ((impl_Addr_text.f ((rd_T32 x15 x17).f0) ((rd_T32 x15 x17).f1)).bind fun t106 => (if 3 + t106.size ≤ 9223372036854775807 then (if ((⟨#[116, 111, 32]⟩ : ByteArray) ++ t106).size + 2 ≤ 9223372036854775807 then (if x3.size + (((⟨#[116, 111, 32]⟩ : ByteArray) ++ t106) ++ (⟨#[13, 10]⟩ : ByteArray)).size ≤ 9223372036854775807 then (impl_MailPut.l0 k (x3 ++ (((⟨#[116, 111, 32]⟩ : ByteArray) ++ t106) ++ (⟨#[13, 10]⟩ : ByteArray))) x15 x16 (wrap64 (x17 + 1)) x102000 x102001 x102002 x102003) else (none)) else (none)) else (none))) else (none)) else (none)) else (if x3.size + 2 ≤ 9223372036854775807 then ((impl_dotted.f x102003).bind fun t107 => (if (x3 ++ (⟨#[13, 10]⟩ : ByteArray)).size + t107.size ≤ 9223372036854775807 then (some ((x3 ++ (⟨#[13, 10]⟩ : ByteArray)) ++ t107)) else (none))) else (none))
def impl_MailPut.f (k : Nat) (a0_0 : ByteArray) (a0_1 : ByteArray) (l0_2 : List (S32)) (l0_3 : List ByteArray) : Option (ByteArray) := (impl_MailOk.f a0_0 a0_1 l0_2 l0_3).bind fun t102 => (if t102 = true then ((impl_Addr_text.f a0_0 a0_1).bind fun t103 => (if 5 + t103.size ≤ 9223372036854775807 then (if ((⟨#[102, 114, 111, 109, 32]⟩ : ByteArray) ++ t103).size + 2 ≤ 9223372036854775807 then (impl_MailPut.l0 k (((⟨#[102, 114, 111, 109, 32]⟩ : ByteArray) ++ t103) ++ (⟨#[13, 10]⟩ : ByteArray)) l0_2 (l0_2.length : Int) 0 a0_0 a0_1 l0_2 l0_3) else (none)) else (none))) else (some (⟨#[]⟩ : ByteArray)))
theorem impl_MailPut.mono_l : ∀ k, (∀ y0 y1 y2 y3 y4 y5 y6 y7, LeO (impl_MailPut.l0 k y0 y1 y2 y3 y4 y5 y6 y7) (impl_MailPut.l0 (k + 1) y0 y1 y2 y3 y4 y5 y6 y7))
 | 0 => fun _ _ _ _ _ _ _ _ r h => by simp [impl_MailPut.l0] at h
 | k + 1 => by
  have ih0 := impl_MailPut.mono_l k
  ·intro y0 y1 y2 y3 y4 y5 y6 y7
   unfold impl_MailPut.l0
   repeat' with_reducible first | apply ih0 | exact LeO.refl _ | exact LeO.none _ | apply LeO.ite | refine LeO.bind ?_ fun _ => ?_
theorem impl_MailPut.mono : ∀ a0 a1 a2 a3 k, LeO (impl_MailPut.f k a0 a1 a2 a3) (impl_MailPut.f (k + 1) a0 a1 a2 a3) := by
 intro a0 a1 a2 a3 k
 have ih0 := impl_MailPut.mono_l k
 unfold impl_MailPut.f
 repeat' with_reducible first | apply ih0 | exact LeO.refl _ | exact LeO.none _ | apply LeO.ite | refine LeO.bind ?_ fun _ => ?_
set_option maxHeartbeats 8000000 in
set_option maxRecDepth 100000 in
theorem impl_MailPut.calls (k : Nat) (a0_0 : ByteArray) (a0_1 : ByteArray) (A0_2 : Option Addr) (c0_2 : Nat) (l0_2 : List (S32)) (A0_3 : Option Addr) (c0_3 : Nat) (l0_3 : List ByteArray) (r : ByteArray) (w : World) (hG : Laid w) (hr0_2 : Kd.C k32 w A0_2 l0_2.length l0_2) (hc0_2 : l0_2.length ≤ c0_2) (hr0_3 : Kd.C Kd.string w A0_3 l0_3.length l0_3) (hc0_3 : l0_3.length ≤ c0_3) (h : impl_MailPut.f k a0_0 a0_1 l0_2 l0_3 = some r) :
  Calls Tryz.prog 28 #[.agg #[.string a0_0, .string a0_1, .slice A0_2 l0_2.length c0_2, .slice A0_3 l0_3.length c0_3]] w fun e w' => e = .returned (.string r) ∧ Below w.heap.size w w' := by
 have hu35 := Tryz.underlying35
 have hu32 := Tryz.underlying32
 have HG := Aside0.mk hG
 clear hG
 have HR0_2 := Aside0.mk hr0_2
 have HC0_2 := Aside0.mk hc0_2
 clear hr0_2 hc0_2
 have HR0_3 := Aside0.mk hr0_3
 have HC0_3 := Aside0.mk hc0_3
 clear hr0_3 hc0_3
 have HB := Aside0.mk (Below.refl w.heap.size w)
 have H := h
 clear h
 unfold impl_MailPut.f at H
 replace H := bnd H; obtain ⟨t102, A2, H⟩ := H
 replace H := itb H; rcases H with ⟨rfl, H⟩ | ⟨rfl, H⟩
 ·replace H := bnd H; obtain ⟨t103, A4, H⟩ := H
  replace H := itn_edm H; obtain ⟨c5b0, c5b1, c5b2, H⟩ := H
  replace H := itn_cedm H; obtain ⟨c6, c6b0, c6b1, c6b2, H⟩ := H
  have c6b3 : (9223372036854775807 < 5 + t103.size + 2) = False := eq_false (by have z_ := c6; simp only [ByteArray.size_append] at z_; exact Nat.not_lt.2 z_)
  have H' := Aside0.mk H
  clear H
  go_enter Tryz.func28, Tryz.ntmps28
  go_wp2_with (first | ((with_reducible refine gate_dst (N := 1) rfl ?_); refine bx (cs := #[.string a0_0, .string a0_1, .slice A0_2 l0_2.length c0_2, .slice A0_3 l0_3.length c0_3]) (t := 35) ?_; intro gb101 hg w7 hbox hb; have BK101 := Aside0.mk (hbox); have GW101 := gS hg; have GE101 := gS hg; replace HB := bS hb; clear hb hbox hg; obtain ⟨hcz8_0, hcz8_1, hcz8_2, hcz8_3⟩ := cz4 BK101.out; obtain ⟨hfz8_0, hfz8_1, hfz8_2, hfz8_3⟩ := fz4 BK101.out) | ((with_reducible refine gate_callee (f := 36) rfl ?_); refine gv 7 Tryz.func36 #[.agg #[.string a0_0, .string a0_1, .slice A0_2 l0_2.length c0_2, .slice A0_3 l0_3.length c0_3]] (impl_MailOk.calls (w := _) (hG := gB) (hr0_2 := cB HR0_2) (_hc0_2 := HC0_2.out) (hr0_3 := cB HR0_3) (hc0_3 := HC0_3.out) (h := A2.out)) ?_; intro w9 hb; replace BK101 := kS BK101 hb; replace HB := bS hb; clear hb; obtain ⟨hcz10_0, hcz10_1, hcz10_2, hcz10_3⟩ := cz4 BK101.out; obtain ⟨hfz10_0, hfz10_1, hfz10_2, hfz10_3⟩ := fz4 BK101.out) | ((with_reducible refine gate_callee (f := 29) rfl ?_); refine gv 11 Tryz.func29 _ (impl_Addr_text.calls (w := _) (h := A4.out)) ?_; intro w11 hb; replace BK101 := kS BK101 hb; replace HB := bS hb; clear hb; obtain ⟨hcz12_0, hcz12_1, hcz12_2, hcz12_3⟩ := cz4 BK101.out; obtain ⟨hfz12_0, hfz12_1, hfz12_2, hfz12_3⟩ := fz4 BK101.out))
  go_loopg [3, 17] k (fun kq v3 v17 w' => ∃ (x3_1 : ByteArray) (x17_1 : Int), v3 = .string x3_1 ∧ v17 = .int .i64 x17_1 ∧ Aside0 (impl_MailPut.l0 kq x3_1 l0_2 (l0_2.length : Int) x17_1 a0_0 a0_1 l0_2 l0_3 = some r) ∧ Aside0 (kq ≤ k) ∧ Aside0 (w'.heap[gb101]? = some (.cells #[.string a0_0, .string a0_1, (.slice A0_2 l0_2.length c0_2), (.slice A0_3 l0_3.length c0_3)] 35 (0, 0))) ∧ Aside0 (Below w.heap.size w w'))
  case atStart => exact ⟨(((⟨#[102, 114, 111, 109, 32]⟩ : ByteArray) ++ t103) ++ (⟨#[13, 10]⟩ : ByteArray)), (0), zs, zs, H', ⟨Nat.le_refl _⟩, ⟨kQ BK101⟩, ⟨zB⟩⟩
  case round =>
   clear H'
   obtain ⟨x3_1, x17_1, rfl, rfl, HA, HK1, BK101, HB⟩ := hrel
   cases gk with
   | zero => exact absurd HA.out (by simp [impl_MailPut.l0])
   | succ k1 =>
    have H := HA.out
    clear HA
    simp only [impl_MailPut.l0] at H
    replace H := its_d_d H; rcases H with ⟨c13b0, H⟩ | ⟨c13b0, H⟩
    ·replace H := itn_d H; obtain ⟨c14b0, H⟩ := H
     replace H := itn_d H; obtain ⟨c15b0, H⟩ := H
     replace H := bnd H; obtain ⟨t106, A16, H⟩ := H
     replace H := itn_edm H; obtain ⟨c17b0, c17b1, c17b2, H⟩ := H
     replace H := itn_cedm H; obtain ⟨c18, c18b0, c18b1, c18b2, H⟩ := H
     have c18b3 : (9223372036854775807 < 3 + t106.size + 2) = False := eq_false (by have z_ := c18; simp only [ByteArray.size_append] at z_; exact Nat.not_lt.2 z_)
     replace H := itn_cedm H; obtain ⟨c19, c19b0, c19b1, c19b2, H⟩ := H
     have c19b3 : (9223372036854775807 < x3_1.size + (3 + t106.size + 2)) = False := eq_false (by have z_ := c19; simp only [ByteArray.size_append] at z_; exact Nat.not_lt.2 z_)
     have H' := Aside0.mk H
     clear H
     have p104 : 0 ≤ (x17_1 : Int) := of_decide_eq_true za
     have q104 : x17_1 < (l0_2.length : Int) := of_decide_eq_true za
     obtain ⟨ad104, e104, hx104_0, hx104_1⟩ := at_T32 HR0_2.out x17_1 p104 q104
     cases e104
     replace hx104_0 := kx HB hx104_0
     replace hx104_1 := kx HB hx104_1
     replace p104 := eq_true p104
     replace q104 := eq_true q104
     go_wp2_with (first | ((with_reducible refine gate_dst (N := 5) rfl ?_); refine bx (cs := #[.string ⟨#[]⟩, .string ⟨#[]⟩]) (t := 32) ?_; intro gb105 hg w20 hbox hb; have BK105 := Aside0.mk (hbox); have GW105 := gS hg; have GE105 := gS hg; have NB101_105 := nS hg BK101; have NB105_101 := nG hg BK101; replace BK101 := kS BK101 hb; replace HB := bS hb; clear hb hbox hg; have hnb21 := NB105_101.out; have hnc21 := NB101_105.out; obtain ⟨hcz22_0, hcz22_1⟩ := cz2 BK105.out; obtain ⟨hfz22_0, hfz22_1⟩ := fz2 BK105.out) | ((with_reducible refine gate_callee (f := 29) rfl ?_); refine gv 23 Tryz.func29 _ (impl_Addr_text.calls (w := _) (h := A16.out)) ?_; intro w23 hb; replace BK101 := kS BK101 hb; replace BK105 := kP (.cells #[.string ((rd_T32 l0_2 x17_1).f0), .string ((rd_T32 l0_2 x17_1).f1)] 32 (0, 0)) BK105 hb; replace HB := bS hb; clear hb))
     go_roundg k1
     case measure => have := HK1.out; omega
     case rel => exact ⟨(x3_1 ++ (((⟨#[116, 111, 32]⟩ : ByteArray) ++ t106) ++ (⟨#[13, 10]⟩ : ByteArray))), (wrap64 (x17_1 + 1)), zs, zs, H', ⟨by have := HK1.out; omega⟩, ⟨kQ BK101⟩, ⟨zB⟩⟩
    ·replace H := itn_edm H; obtain ⟨c24b0, c24b1, c24b2, H⟩ := H
     replace H := bnd H; obtain ⟨t107, A25, H⟩ := H
     replace H := itn_cedm H; obtain ⟨c26, c26b0, c26b1, c26b2, H⟩ := H
     have c26b3 : (9223372036854775807 < x3_1.size + 2 + t107.size) = False := eq_false (by have z_ := c26; simp only [ByteArray.size_append] at z_; exact Nat.not_lt.2 z_)
     obtain rfl := Option.some.inj H
     obtain ⟨hcz27_0, hcz27_1, hcz27_2, hcz27_3⟩ := cz4 BK101.out
     obtain ⟨hfz27_0, hfz27_1, hfz27_2, hfz27_3⟩ := fz4 BK101.out
     go_wp2_with (first | ((with_reducible refine gate_callee (f := 65) rfl ?_); refine gv 32 Tryz.func65 #[.slice A0_3 l0_3.length c0_3] (impl_dotted.calls (w := _) (hr0 := cB HR0_3) (_hc0 := HC0_3.out) (h := A25.out)) ?_; intro w28 hb; replace BK101 := kS BK101 hb; replace HB := bS hb; clear hb))
     go_ret
     exact ⟨zr, zB⟩
 ·obtain rfl := Option.some.inj H
  go_enter Tryz.func28, Tryz.ntmps28
  go_wp2_with (first | ((with_reducible refine gate_dst (N := 1) rfl ?_); refine bx (cs := #[.string a0_0, .string a0_1, .slice A0_2 l0_2.length c0_2, .slice A0_3 l0_3.length c0_3]) (t := 35) ?_; intro gb101 hg w29 hbox hb; have BK101 := Aside0.mk (hbox); have GW101 := gS hg; have GE101 := gS hg; replace HB := bS hb; clear hb hbox hg; obtain ⟨hcz30_0, hcz30_1, hcz30_2, hcz30_3⟩ := cz4 BK101.out; obtain ⟨hfz30_0, hfz30_1, hfz30_2, hfz30_3⟩ := fz4 BK101.out) | ((with_reducible refine gate_callee (f := 36) rfl ?_); refine gv 7 Tryz.func36 #[.agg #[.string a0_0, .string a0_1, .slice A0_2 l0_2.length c0_2, .slice A0_3 l0_3.length c0_3]] (impl_MailOk.calls (w := _) (hG := gB) (hr0_2 := cB HR0_2) (_hc0_2 := HC0_2.out) (hr0_3 := cB HR0_3) (hc0_3 := HC0_3.out) (h := A2.out)) ?_; intro w31 hb; replace BK101 := kS BK101 hb; replace HB := bS hb; clear hb))
  go_ret
  exact ⟨zr, zB⟩
end Go.Proofs.YtbncnjgflhoneaaGreatDoor.F
namespace Go.Proofs.YtbncnjgflhoneaaGreatDoor.Hand
open Go.RowKit Go.Proofs.YtbncnjgflhoneaaGreatDoorW.PrintWords Go.Proofs.YtbncnjgflhoneaaGreatDoorW.PrintLast Go.Proofs.YtbncnjgflhoneaaGreatDoorW.PrintMore
def strconv_Itoa.f (n : Int) : Option ByteArray := if -9223372036854775808 ≤ n ∧ n ≤ 9223372036854775807 then some ⟨(Lib.itoa n).toArray⟩ else none
theorem strconv_Itoa.calls (a0 : Int) (r : ByteArray) (w : World) (hG : Laid w) (h : strconv_Itoa.f a0 = some r) :
    Calls Tryz.prog 27 #[.int .i64 a0] w fun e w' => e = .returned (.string r) ∧ Below w.heap.size w w' := by
  unfold strconv_Itoa.f at h
  split at h
  · rename_i hn
    injection h with h
    subst h
    refine (Tryz.strconv_Itoa a0 hn.1 hn.2 w hG.tab).mono fun e w' ⟨he, k, os, hw⟩ => ⟨he, ?_⟩
    subst hw
    exact Lib.below_grow _ w (Nat.le_refl _) k os
  · cases h
def decV (l : List UInt8) : Int × Bool :=
  match Lib.atoiAll l with
  | .ok v => (v, decide (0 ≤ v) && (Lib.itoa v == l))
  | .range => (Lib.atoiSat l, false)
  | _ => (0, false)
def impl_decimal.f (s : ByteArray) : Option (Int × Bool) := if s.size ≤ 1099511627776 then some (decV s.data.toList) else none
theorem atoi_ok (s : ByteArray) (hs : s.size ≤ 1099511627776) (v : Int) (h : Lib.atoiAll s.data.toList = .ok v) (w : World) :
    Calls Tryz.prog 77 #[.string s] w fun e w' => e = .returned (.tuple #[.int .i64 v, .nilIface]) ∧ Below w.heap.size w w' := by
  refine (Tryz.strconv_Atoi_ok s (by omega) v h w).mono fun e w' ⟨he, hw⟩ => ⟨he, ?_⟩
  rcases hw with rfl | ⟨t, rfl⟩
  · exact Below.refl _ _
  · exact bytes_below (Below.refl _ _) (Nat.le_refl _) 5 t
def Bad (x : Int) (w : World) (e : Ending) (w' : World) : Prop := ∃ n : Nat, e = .returned (.tuple #[.int .i64 x, .iface 165 (.pointer (some ⟨n, 0, none⟩))]) ∧ Below w.heap.size w w'
theorem atoi_bad (s : ByteArray) (hs : s.size ≤ 1099511627776) (h : ∀ v, Lib.atoiAll s.data.toList ≠ .ok v) (w : World) (hG : Laid w) :
    Calls Tryz.prog 77 #[.string s] w (Bad (decV s.data.toList).1 w) := by
  unfold decV
  cases hq : Lib.atoiAll s.data.toList with
  | ok v => exact absurd hq (h v)
  | range =>
    obtain ⟨ev, hv, hev⟩ := hG.eran
    exact (Any.strconv_Atoi_range Tryz.laysC172 s (by omega) hq ev w hv hev).mono fun e w' ⟨n, he, _, _, hb⟩ => ⟨n, he, hb⟩
  | _ =>
    obtain ⟨ev, hv, hev⟩ := hG.esyn
    exact (Any.strconv_Atoi_syntax Tryz.laysC172 s (by omega) hq ev w hv hev).mono fun e w' ⟨n, he, _, _, hb⟩ => ⟨n, he, hb⟩
theorem decV_bad (l : List UInt8) (h : ∀ v, Lib.atoiAll l ≠ .ok v) : (decV l).2 = false := by
  unfold decV
  cases hq : Lib.atoiAll l with
  | ok v => exact absurd hq (h v)
  | _ => rfl
set_option maxHeartbeats 1000000 in
set_option maxRecDepth 100000 in
theorem impl_decimal.calls (a0 : ByteArray) (r1 : Int) (r2 : Bool) (w : World) (hG : Laid w) (h : impl_decimal.f a0 = some (r1, r2)) :
    Calls Tryz.prog 40 #[.string a0] w fun e w' => e = .returned (.tuple #[.int .i64 r1, .bool r2]) ∧ Below w.heap.size w w' := by
  unfold impl_decimal.f at h
  split at h
  · rename_i hs
    injection h with h
    have hs := Aside0.mk hs
    have HG := Aside0.mk hG
    clear hG
    by_cases hk : ∃ v, Lib.atoiAll a0.data.toList = .ok v
    · obtain ⟨v, hv⟩ := hk
      obtain ⟨b0, b1⟩ := Lib.atoiAll_bounds hv
      have hd : decV a0.data.toList = (v, decide (0 ≤ v) && (Lib.itoa v == a0.data.toList)) := by unfold decV; rw [hv]
      rw [hd] at h
      injection h with h1 h2
      subst h1
      have HV := Aside0.mk hv
      clear hv hd
      by_cases hz : 0 ≤ v
      · rw [decide_eq_true hz, Bool.true_and] at h2
        obtain ⟨x, hx⟩ : ∃ x : ByteArray, x = ⟨(Lib.itoa v).toArray⟩ := ⟨_, rfl⟩
        have HX := Aside0.mk (show strconv_Itoa.f v = some x by unfold strconv_Itoa.f; rw [if_pos ⟨b0, b1⟩, hx])
        have hxe : (x.toList == a0.toList) = r2 := by rw [hx, Lib.toList_data, Lib.toList_data, ← h2]
        have hz0 : decide (0 ≤ v) = true := decide_eq_true hz
        clear hx h2 b0 b1
        cases r2
        all_goals
          go_enter Tryz.func40, Tryz.ntmps40
          go_wp2_with (first | (go_at_call 77; refine (atoi_ok a0 hs.out v HV.out _).mono ?_; rintro e w1 ⟨rfl, hb⟩; have HB := Aside0.mk hb; clear hb) | (go_at_call 27; refine (strconv_Itoa.calls v x _ (HG.out.below HB.out) HX.out).mono ?_; rintro e w2 ⟨rfl, hb2⟩; have HB2 := Aside0.mk hb2; clear hb2))
          go_ret2
          exact ⟨rfl, HB.out.trans (HB2.out.mono HB.out.size)⟩
      · rw [decide_eq_false hz, Bool.false_and] at h2
        subst h2
        have hz0 : decide (0 ≤ v) = false := decide_eq_false hz
        clear hz b0 b1
        go_enter Tryz.func40, Tryz.ntmps40
        go_wp2_with (first | (go_at_call 77; refine (atoi_ok a0 hs.out v HV.out _).mono ?_; rintro e w1 ⟨rfl, hb⟩; have HB := Aside0.mk hb; clear hb))
        go_ret2
        exact ⟨rfl, HB.out⟩
    · have hk : ∀ v, Lib.atoiAll a0.data.toList ≠ .ok v := fun v hv => hk ⟨v, hv⟩
      have h2 := decV_bad _ hk
      obtain ⟨x, y⟩ : ∃ x, x = (decV a0.data.toList).1 := ⟨_, rfl⟩
      have HC := Aside0.mk (fun W hW => atoi_bad a0 hs.out hk W hW)
      rw [h] at h2 HC
      simp only at h2 HC
      subst h2
      clear h hk y
      go_enter Tryz.func40, Tryz.ntmps40
      go_wp2_with (first | (go_at_call 77; refine (HC.out _ HG.out).mono ?_; rintro e w1 ⟨n, rfl, hb⟩; have HB := Aside0.mk hb; clear hb))
      go_ret2
      exact ⟨rfl, HB.out⟩
  · cases h
end Go.Proofs.YtbncnjgflhoneaaGreatDoor.Hand
