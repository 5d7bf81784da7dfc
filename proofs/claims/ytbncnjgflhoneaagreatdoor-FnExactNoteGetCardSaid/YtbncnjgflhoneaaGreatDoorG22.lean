/- Of this claim, merged by program: F15. -/
import Derived.Test.YtbncnjgflhoneaaGreatDoorG02
import Derived.Test.YtbncnjgflhoneaaGreatDoorG03
import Derived.Test.YtbncnjgflhoneaaGreatDoorG07
import Derived.Test.YtbncnjgflhoneaaGreatDoorG10
import Derived.Test.YtbncnjgflhoneaaGreatDoorG11
import Derived.Test.YtbncnjgflhoneaaGreatDoorG13
import Derived.Test.YtbncnjgflhoneaaGreatDoorG17
namespace Go.Proofs.YtbncnjgflhoneaaGreatDoor.F
open Go.RowKit Go.Proofs.YtbncnjgflhoneaaGreatDoor.Hand Go.Proofs.YtbncnjgflhoneaaGreatDoorW.PrintWords Go.Proofs.YtbncnjgflhoneaaGreatDoorW.PrintLast Go.Proofs.YtbncnjgflhoneaaGreatDoorW.PrintMore
attribute [local go_sem] max2_int min2_int max_two min_two max_three min_three max_four min_four
set_option linter.unusedVariables false
set_option linter.unusedSimpArgs false

mutual
def impl_NoteGet.j1 : Nat → ByteArray → Int → Int → ByteArray → ByteArray → Int → ByteArray → ByteArray → List (S32) → List ByteArray → Option (Int × Int × ByteArray × ByteArray × Int × ByteArray × ByteArray × (List (S32)) × List ByteArray × Bool)
 | 0, _, _, _, _, _, _, _, _, _, _ => none
 | k + 1, x0, x103000, x103001, x103002, x103003, x103004, x103005, x103006, x103007, x103008 => (impl_NoteOk.f k x103000 x103001 x103002 x103003 x103004 x103005 x103006 x103007 x103008).bind fun t136 => (if t136 = true then ((impl_NotePut.f k x103000 x103001 x103002 x103003 x103004 x103005 x103006 x103007 x103008).bind fun t137 => (if t137.toList = x0.toList then (some (x103000, x103001, x103002, x103003, x103004, x103005, x103006, x103007, x103008, true)) else (some (0, 0, (⟨#[]⟩ : ByteArray), (⟨#[]⟩ : ByteArray), 0, (⟨#[]⟩ : ByteArray), (⟨#[]⟩ : ByteArray), ([] : List (S32)), ([] : List ByteArray), false)))) else (some (0, 0, (⟨#[]⟩ : ByteArray), (⟨#[]⟩ : ByteArray), 0, (⟨#[]⟩ : ByteArray), (⟨#[]⟩ : ByteArray), ([] : List (S32)), ([] : List ByteArray), false)))
def impl_NoteGet.j0 : Nat → ByteArray → ByteArray → ByteArray → Bool → Int → Int → ByteArray → ByteArray → Int → ByteArray → ByteArray → Option (Int × Int × ByteArray × ByteArray × Int × ByteArray × ByteArray × (List (S32)) × List ByteArray × Bool)
 | 0, _, _, _, _, _, _, _, _, _, _, _ => none
 | k + 1, x0, x5, x6, x44, x103000, x103001, x103002, x103003, x103004, x103005, x103006 => if x44 = true then ((strings_Split.f x6 (⟨#[32]⟩ : ByteArray)).bind fun t120 => (if 0 < (t120.length : Int) then ((impl_decimal.f (rdOf ByteArray.empty t120 0)).bind fun bt124 => (if (t120.length : Int) > 1 then (if 1 < (t120.length : Int) then ((impl_AddrGet.f k (rdOf ByteArray.empty t120 1)).bind fun bt127 => (if x5.toList = ([108, 97, 116, 101, 114] : List UInt8) then (if 0 ≤ (wrap64 ((t120.length : Int) - 1)) then (if (wrap64 ((t120.length : Int) - 1)) < (t120.length : Int) then ((impl_decimal.f (rdOf ByteArray.empty t120 (wrap64 ((t120.length : Int) - 1)))).bind fun bt131 => (impl_NoteGet.j1 k x0 3 bt124.1 bt127.1 bt127.2.1 bt131.1 x103005 x103006 ([] : List (S32)) ([] : List ByteArray))) else (none)) else (none)) else (impl_NoteGet.j1 k x0 2 bt124.1 bt127.1 bt127.2.1 x103004 x103005 x103006 ([] : List (S32)) ([] : List ByteArray)))) else (none)) else (if x5.toList = ([108, 97, 116, 101, 114] : List UInt8) then (if 0 ≤ (wrap64 ((t120.length : Int) - 1)) then (if (wrap64 ((t120.length : Int) - 1)) < (t120.length : Int) then ((impl_decimal.f (rdOf ByteArray.empty t120 (wrap64 ((t120.length : Int) - 1)))).bind fun bt134 => (impl_NoteGet.j1 k x0 3 bt124.1 x103002 x103003 bt134.1 x103005 x103006 ([] : List (S32)) ([] : List ByteArray))) else (none)) else (none)) else (impl_NoteGet.j1 k x0 2 bt124.1 x103002 x103003 x103004 x103005 x103006 ([] : List (S32)) ([] : List ByteArray))))) else (none))) else (impl_NoteGet.j1 k x0 x103000 x103001 x103002 x103003 x103004 x103005 x103006 ([] : List (S32)) ([] : List ByteArray))
end
def impl_NoteGet.f (k : Nat) (a0 : ByteArray) : Option (Int × Int × ByteArray × ByteArray × Int × ByteArray × ByteArray × (List (S32)) × List ByteArray × Bool) := if (a0.size : Int) > 820 then (some (0, 0, (⟨#[]⟩ : ByteArray), (⟨#[]⟩ : ByteArray), 0, (⟨#[]⟩ : ByteArray), (⟨#[]⟩ : ByteArray), ([] : List (S32)), ([] : List ByteArray), false)) else ((strings_Cut.f a0 (⟨#[32]⟩ : ByteArray)).bind fun bt103 => (if bt103.1.toList = ([97, 100, 100] : List UInt8) then ((strings_Cut.f bt103.2.1 (⟨#[10]⟩ : ByteArray)).bind fun bt106 => ((impl_decimal.f bt106.1).bind fun bt109 => ((impl_MailGet.f k bt106.2.1).bind fun bt111 => (impl_NoteGet.j1 k a0 1 0 (⟨#[]⟩ : ByteArray) (⟨#[]⟩ : ByteArray) bt109.1 bt111.1 bt111.2.1 bt111.2.2.1 bt111.2.2.2.1)))) else (if bt103.1.toList = ([100, 111, 110, 101] : List UInt8) then (impl_NoteGet.j0 k a0 bt103.1 bt103.2.1 (bt103.1.toList == ([100, 111, 110, 101] : List UInt8)) 0 0 (⟨#[]⟩ : ByteArray) (⟨#[]⟩ : ByteArray) 0 (⟨#[]⟩ : ByteArray) (⟨#[]⟩ : ByteArray)) else (impl_NoteGet.j0 k a0 bt103.1 bt103.2.1 (bt103.1.toList == ([108, 97, 116, 101, 114] : List UInt8)) 0 0 (⟨#[]⟩ : ByteArray) (⟨#[]⟩ : ByteArray) 0 (⟨#[]⟩ : ByteArray) (⟨#[]⟩ : ByteArray)))))
theorem impl_NoteGet.mono_l : ∀ k, (∀ y0 y1 y2 y3 y4 y5 y6 y7 y8 y9, LeO (impl_NoteGet.j1 k y0 y1 y2 y3 y4 y5 y6 y7 y8 y9) (impl_NoteGet.j1 (k + 1) y0 y1 y2 y3 y4 y5 y6 y7 y8 y9)) ∧ (∀ y0 y1 y2 y3 y4 y5 y6 y7 y8 y9 y10, LeO (impl_NoteGet.j0 k y0 y1 y2 y3 y4 y5 y6 y7 y8 y9 y10) (impl_NoteGet.j0 (k + 1) y0 y1 y2 y3 y4 y5 y6 y7 y8 y9 y10))
 | 0 => ⟨fun _ _ _ _ _ _ _ _ _ _ r h => by simp [impl_NoteGet.j1] at h, fun _ _ _ _ _ _ _ _ _ _ _ r h => by simp [impl_NoteGet.j0] at h⟩
 | k + 1 => by
  obtain ⟨ih0, ih1⟩ := impl_NoteGet.mono_l k
  refine ⟨?_, ?_⟩
  ·intro y0 y1 y2 y3 y4 y5 y6 y7 y8 y9
   unfold impl_NoteGet.j1
   repeat' with_reducible first | apply ih0 | apply ih1 | apply impl_AddrGet.mono | apply impl_MailGet.mono | apply impl_NoteOk.mono | apply impl_NotePut.mono | exact LeO.refl _ | exact LeO.none _ | apply LeO.ite | refine LeO.bind ?_ fun _ => ?_
  ·intro y0 y1 y2 y3 y4 y5 y6 y7 y8 y9 y10
   unfold impl_NoteGet.j0
   repeat' with_reducible first | apply ih0 | apply ih1 | apply impl_AddrGet.mono | apply impl_MailGet.mono | apply impl_NoteOk.mono | apply impl_NotePut.mono | exact LeO.refl _ | exact LeO.none _ | apply LeO.ite | refine LeO.bind ?_ fun _ => ?_
theorem impl_NoteGet.mono : ∀ a0 k, LeO (impl_NoteGet.f k a0) (impl_NoteGet.f (k + 1) a0) := by
 intro a0 k
 obtain ⟨ih0, ih1⟩ := impl_NoteGet.mono_l k
 unfold impl_NoteGet.f
 repeat' with_reducible first | apply ih0 | apply ih1 | apply impl_AddrGet.mono | apply impl_MailGet.mono | apply impl_NoteOk.mono | apply impl_NotePut.mono | exact LeO.refl _ | exact LeO.none _ | apply LeO.ite | refine LeO.bind ?_ fun _ => ?_
set_option maxHeartbeats 8000000 in
set_option maxRecDepth 100000 in
theorem impl_NoteGet.calls (k : Nat) (a0 : ByteArray) (r1 : Int) (r2 : Int) (r3 : ByteArray) (r4 : ByteArray) (r5 : Int) (r6 : ByteArray) (r7 : ByteArray) (r8 : List (S32)) (r9 : List ByteArray) (r10 : Bool) (w : World) (hG : Laid w) (h : impl_NoteGet.f k a0 = some (r1, r2, r3, r4, r5, r6, r7, r8, r9, r10)) :
  Calls Tryz.prog 15 #[.string a0] w fun e w' => ∃ v7_ v8_ : Value, e = .returned (.tuple #[.agg #[.int .i64 r1, .int .i64 r2, .string r3, .string r4, .int .i64 r5, .string r6, .string r7, v7_, v8_], .bool r10]) ∧ Kd.R k32 32 w' w.heap.size (fun _ => True) v7_ r8 ∧ Kd.R Kd.string 9 w' w.heap.size (fun _ => True) v8_ r9 ∧ Below w.heap.size w w' := by
 have hu37 := Tryz.underlying37
 have hu35 := Tryz.underlying35
 have hu32 := Tryz.underlying32
 have HG := Aside0.mk hG
 clear hG
 have HB := Aside0.mk (Below.refl w.heap.size w)
 have H := h
 clear h
 unfold impl_NoteGet.f at H
 replace H := its_cd_cd H; rcases H with ⟨c2, c2b0, H⟩ | ⟨c2, c2b0, H⟩
 ·have c2b1 : decide (820 < a0.size) = true := decide_eq_true (by omega)
  clear c2
  simp only [Option.some.injEq, Prod.mk.injEq] at H
  obtain ⟨rfl, rfl, rfl, rfl, rfl, rfl, rfl, rfl, rfl, rfl⟩ := H
  go_enter Tryz.func15, Tryz.ntmps15
  go_wp2_with (first | ((with_reducible refine gate_dst (N := 2) rfl ?_); refine bx (cs := #[.int .i64 0, .int .i64 0, .string ⟨#[]⟩, .string ⟨#[]⟩, .int .i64 0, .string ⟨#[]⟩, .string ⟨#[]⟩, .slice none 0 0, .slice none 0 0]) (t := 37) ?_; intro gb101 hg w3 hbox hb; have BK101 := Aside0.mk (hbox); have GW101 := gS hg; have GE101 := gS hg; replace HB := bS hb; clear hb hbox hg; obtain ⟨hcz4_0, hcz4_1, hcz4_2, hcz4_3, hcz4_4, hcz4_5, hcz4_6, hcz4_7, hcz4_8⟩ := cz9 BK101.out; obtain ⟨hfz4_0, hfz4_1, hfz4_2, hfz4_3, hfz4_4, hfz4_5, hfz4_6, hfz4_7, hfz4_8⟩ := fz9 BK101.out))
  refine bodyPost_ret (results_ct rfl _ _ gb101 37 #[.int .i64 0, .int .i64 0, .string (⟨#[]⟩ : ByteArray), .string (⟨#[]⟩ : ByteArray), .int .i64 0, .string (⟨#[]⟩ : ByteArray), .string (⟨#[]⟩ : ByteArray), .slice none 0 0, .slice none 0 0] (0, 0) _ rfl (kQ BK101) Tryz.underlying37 rfl z0_) rfl ?_
  exact ⟨_, _, zr, zn, zn, zB⟩
 ·have c2b1 : decide (820 < a0.size) = false := decide_eq_false (by omega)
  clear c2
  replace H := bnd H; obtain ⟨⟨t103, t104, t105⟩, A5, H⟩ := H
  dsimp only at H
  have HC6 := Aside0.mk H
  clear H
  go_enter Tryz.func15, Tryz.ntmps15
  go_upto_block 0 with (first | ((with_reducible refine gate_dst (N := 2) rfl ?_); refine bx (cs := #[.int .i64 0, .int .i64 0, .string ⟨#[]⟩, .string ⟨#[]⟩, .int .i64 0, .string ⟨#[]⟩, .string ⟨#[]⟩, .slice none 0 0, .slice none 0 0]) (t := 37) ?_; intro gb101 hg w7 hbox hb; have BK101 := Aside0.mk (hbox); have GW101 := gS hg; have GE101 := gS hg; replace HB := bS hb; clear hb hbox hg) | ((with_reducible refine gate_dst (N := 4) rfl ?_); refine bx (cs := #[.int .i64 0, .int .i64 0, .string ⟨#[]⟩, .string ⟨#[]⟩, .int .i64 0, .string ⟨#[]⟩, .string ⟨#[]⟩, .slice none 0 0, .slice none 0 0]) (t := 37) ?_; intro gb102 hg w8 hbox hb; have BK102 := Aside0.mk (hbox); have GW102 := gS hg; have GE102 := gS hg; have NB101_102 := nS hg BK101; have NB102_101 := nG hg BK101; replace BK101 := kS BK101 hb; replace HB := bS hb; clear hb hbox hg) | ((with_reducible refine gate_callee (f := 39) rfl ?_); refine gv 18 Tryz.func39 _ (strings_Cut.calls (w := _) (hG := gB) (h := A5.out)) ?_; rintro w' ⟨nd, rfl⟩))
  (try simp only [Act.put, List.setIfInBounds_toArray, List.set_cons_zero, List.set_cons_succ])
  go_cut [] (fun wc => ∃ (kq : Nat) (x103000_5 : Int) (x103001_5 : Int) (x103002_5 : ByteArray) (x103003_5 : ByteArray) (x103004_5 : Int) (x103005_5 : ByteArray) (x103006_5 : ByteArray) (x103007_5 : List (S32)) (x103008_5 : List ByteArray) (u103007 : Value) (u103008 : Value), Aside0 (impl_NoteGet.j1 kq a0 x103000_5 x103001_5 x103002_5 x103003_5 x103004_5 x103005_5 x103006_5 x103007_5 x103008_5 = some (r1, r2, r3, r4, r5, r6, r7, r8, r9, r10)) ∧ Aside0 (kq ≤ k) ∧ Aside0 (Kd.R k32 32 wc w.heap.size (fun _ => True) u103007 x103007_5) ∧ Aside0 (Kd.R Kd.string 9 wc w.heap.size (fun _ => True) u103008 x103008_5) ∧ Aside0 (wc.heap[gb101]? = some (.cells #[.int .i64 0, .int .i64 0, .string (⟨#[]⟩ : ByteArray), .string (⟨#[]⟩ : ByteArray), .int .i64 0, .string (⟨#[]⟩ : ByteArray), .string (⟨#[]⟩ : ByteArray), (.slice none 0 0), (.slice none 0 0)] 37 (0, 0))) ∧ Aside0 (wc.heap[gb102]? = some (.cells #[.int .i64 x103000_5, .int .i64 x103001_5, .string x103002_5, .string x103003_5, .int .i64 x103004_5, .string x103005_5, .string x103006_5, u103007, u103008] 37 (0, 0))) ∧ Aside0 (Below w.heap.size w wc))
  case first =>
   have H := HC6.out
   clear HC6
   replace H := its_qn_qn H; rcases H with ⟨c9b0, c9b1, H⟩ | ⟨c9b0, c9b1, H⟩
   ·(first | rw [c9b0] | (simp only [i64_w, i32_w]; rw [c9b0]) | skip)
    replace H := bnd H; obtain ⟨⟨t106, t107, t108⟩, A10, H⟩ := H
    dsimp only at H
    replace H := bnd H; obtain ⟨⟨t109, t110⟩, A11, H⟩ := H
    dsimp only at H
    replace H := bnd H; obtain ⟨⟨t111, t112, t113, t116, t119⟩, A12, H⟩ := H
    dsimp only at H
    have H' := Aside0.mk H
    clear H
    go_wp2_with (first | ((with_reducible refine gate_callee (f := 39) rfl ?_); refine gv 27 Tryz.func39 _ (strings_Cut.calls (w := _) (hG := gB) (h := A10.out)) ?_; rintro w' ⟨nd, rfl⟩; (try (rw [drewN_self w8]; generalize hq_ : World.drewN w8 _ = w8; have n0_ : Aside0 (w8.heap[gb101]? = some (.cells #[.int .i64 0, .int .i64 0, .string ⟨#[]⟩, .string ⟨#[]⟩, .int .i64 0, .string ⟨#[]⟩, .string ⟨#[]⟩, .slice none 0 0, .slice none 0 0] 37 (0, 0))) := ⟨by rw [← hq_]; exact (kQ BK101)⟩; have n1_ : Aside0 (w8.heap[gb102]? = some (.cells #[.int .i64 0, .int .i64 0, .string ⟨#[]⟩, .string ⟨#[]⟩, .int .i64 0, .string ⟨#[]⟩, .string ⟨#[]⟩, .slice none 0 0, .slice none 0 0] 37 (0, 0))) := ⟨by rw [← hq_]; exact (kQ BK102)⟩; have n2_ : Aside0 (Below w.heap.size w w8) := ⟨by rw [← hq_]; exact zB⟩; clear BK101 BK102 HB hq_; have BK101 := n0_; have BK102 := n1_; have HB := n2_; clear n0_ n1_ n2_)); have hnb13 := NB102_101.out; have hnc13 := NB101_102.out; obtain ⟨hcz14_0, hcz14_1, hcz14_2, hcz14_3, hcz14_4, hcz14_5, hcz14_6, hcz14_7, hcz14_8⟩ := cz9 BK102.out; obtain ⟨hfz14_0, hfz14_1, hfz14_2, hfz14_3, hfz14_4, hfz14_5, hfz14_6, hfz14_7, hfz14_8⟩ := fz9 BK102.out) | ((with_reducible refine gate_callee (f := 40) rfl ?_); refine gv 34 Tryz.func40 _ (impl_decimal.calls (w := _) (hG := gB) (h := A11.out)) ?_; intro w15 hb; replace BK101 := kS BK101 hb; replace BK102 := kP (.cells #[.int .i64 1, .int .i64 0, .string ⟨#[]⟩, .string ⟨#[]⟩, .int .i64 0, .string ⟨#[]⟩, .string ⟨#[]⟩, .slice none 0 0, .slice none 0 0] 37 (0, 0)) BK102 hb; replace HB := bS hb; clear hb; obtain ⟨hcz16_0, hcz16_1, hcz16_2, hcz16_3, hcz16_4, hcz16_5, hcz16_6, hcz16_7, hcz16_8⟩ := cz9 BK102.out; obtain ⟨hfz16_0, hfz16_1, hfz16_2, hfz16_3, hfz16_4, hfz16_5, hfz16_6, hfz16_7, hfz16_8⟩ := fz9 BK102.out) | ((with_reducible refine gate_callee (f := 41) rfl ?_); refine gl 40 Tryz.func41 _ ((impl_MailGet.calls (w := _) (hG := gB) (h := A12.out)).mono ?_); rintro e w17 ⟨v114, v117, rfl, ho0, ho1, hb⟩; refine ⟨_, rfl, ?_⟩; have HO115 := lS ho0; have HO118 := lS ho1; replace BK101 := kS BK101 hb; replace BK102 := kP (.cells #[.int .i64 1, .int .i64 0, .string ⟨#[]⟩, .string ⟨#[]⟩, .int .i64 t109, .string ⟨#[]⟩, .string ⟨#[]⟩, .slice none 0 0, .slice none 0 0] 37 (0, 0)) BK102 hb; replace HB := bS hb; clear hb ho0; (try clear ho1); obtain ⟨hcz18_0, hcz18_1, hcz18_2, hcz18_3, hcz18_4, hcz18_5, hcz18_6, hcz18_7, hcz18_8⟩ := cz9 BK102.out; obtain ⟨hfz18_0, hfz18_1, hfz18_2, hfz18_3, hfz18_4, hfz18_5, hfz18_6, hfz18_7, hfz18_8⟩ := fz9 BK102.out; obtain ⟨Ao19, co19, eo19⟩ := Kd.R_slice HO115.out; subst eo19; obtain ⟨Ao20, co20, eo20⟩ := Kd.R_slice HO118.out; subst eo20))
    go_meet
    case rel => exact ⟨_, (1), (0), ((⟨#[]⟩ : ByteArray)), ((⟨#[]⟩ : ByteArray)), (t109), (t111), (t112), (t113), (t116), (.slice Ao19 t113.length co19), (.slice Ao20 t116.length co20), H', ⟨by first | omega | exact Nat.le_refl _⟩, ⟨fM HO115 BK102 (fun _ hk => trivial)⟩, ⟨fM HO118 BK102 (fun _ hk => trivial)⟩, ⟨kQ BK101⟩, ⟨kQ BK102⟩, ⟨zB⟩⟩
   ·(first | rw [c9b0] | (simp only [i64_w, i32_w]; rw [c9b0]) | skip)
    have HC21 := Aside0.mk H
    clear H
    go_upto_if 44 with (fail)
    go_cut [44] (fun v44 wc => ∃ (kq : Nat) (x44_20 : Bool), v44 = .bool x44_20 ∧ Aside0 (impl_NoteGet.j0 kq a0 t103 t104 x44_20 0 0 (⟨#[]⟩ : ByteArray) (⟨#[]⟩ : ByteArray) 0 (⟨#[]⟩ : ByteArray) (⟨#[]⟩ : ByteArray) = some (r1, r2, r3, r4, r5, r6, r7, r8, r9, r10)) ∧ Aside0 (kq ≤ k) ∧ Aside0 (wc.heap[gb101]? = some (.cells #[.int .i64 0, .int .i64 0, .string (⟨#[]⟩ : ByteArray), .string (⟨#[]⟩ : ByteArray), .int .i64 0, .string (⟨#[]⟩ : ByteArray), .string (⟨#[]⟩ : ByteArray), (.slice none 0 0), (.slice none 0 0)] 37 (0, 0))) ∧ Aside0 (wc.heap[gb102]? = some (.cells #[.int .i64 0, .int .i64 0, .string (⟨#[]⟩ : ByteArray), .string (⟨#[]⟩ : ByteArray), .int .i64 0, .string (⟨#[]⟩ : ByteArray), .string (⟨#[]⟩ : ByteArray), (.slice none 0 0), (.slice none 0 0)] 37 (0, 0))) ∧ Aside0 (Below w.heap.size w wc))
    case first =>
     have H := HC21.out
     clear HC21
     replace H := its_qn_qn H; rcases H with ⟨c22b0, c22b1, H⟩ | ⟨c22b0, c22b1, H⟩
     ·(first | rw [c22b0] | (simp only [i64_w, i32_w]; rw [c22b0]) | skip)
      have H' := Aside0.mk H
      clear H
      go_wp2
      go_meet
      case rel => exact ⟨_, ((t103.toList == ([100, 111, 110, 101] : List UInt8))), zs, H', ⟨by first | omega | exact Nat.le_refl _⟩, ⟨kQ BK101⟩, ⟨kQ BK102⟩, ⟨zB⟩⟩
     ·(first | rw [c22b0] | (simp only [i64_w, i32_w]; rw [c22b0]) | skip)
      have H' := Aside0.mk H
      clear H
      go_wp2
      go_meet
      case rel => exact ⟨_, ((t103.toList == ([108, 97, 116, 101, 114] : List UInt8))), zs, H', ⟨by first | omega | exact Nat.le_refl _⟩, ⟨kQ BK101⟩, ⟨kQ BK102⟩, ⟨zB⟩⟩
    case rest =>
     clear HC21
     obtain ⟨kq, x44_20, rfl, HA, HJ20, BK101, BK102, HB⟩ := hcut
     cases kq with
     | zero => exact absurd HA.out (by simp [impl_NoteGet.j0])
     | succ kj20 =>
      have H := HA.out
      clear HA
      simp only [impl_NoteGet.j0] at H
      replace H := itb H; rcases H with ⟨rfl, H⟩ | ⟨rfl, H⟩
      ·replace H := bnd H; obtain ⟨t120, A24, H⟩ := H
       replace H := itn_cd H; obtain ⟨c25, c25b0, H⟩ := H
       have c25b1 : decide (0 < t120.length) = true := decide_eq_true (by omega)
       clear c25
       replace H := bnd H; obtain ⟨⟨t124, t125⟩, A26, H⟩ := H
       dsimp only at H
       replace H := its_cd_cd H; rcases H with ⟨c27, c27b0, H⟩ | ⟨c27, c27b0, H⟩
       ·have c27b1 : decide (1 < t120.length) = true := decide_eq_true (by omega)
        clear c27
        replace H := itn_cd H; obtain ⟨c28, c28b0, H⟩ := H
        have c28b1 : decide (1 < t120.length) = true := decide_eq_true (by omega)
        clear c28
        replace H := bnd H; obtain ⟨⟨t127, t128, t129⟩, A29, H⟩ := H
        dsimp only at H
        replace H := its_qn_qn H; rcases H with ⟨c30b0, c30b1, H⟩ | ⟨c30b0, c30b1, H⟩
        ·obtain ⟨ji31, hji31⟩ : ∃ j_ : Int, (wrap64 ((t120.length : Int) - 1)) = j_ := ⟨_, rfl⟩
         first | rw [hji31] at H | simp only [hji31] at H
         (try rw [hji31] at A24)
         (try rw [hji31] at A26)
         (try rw [hji31] at A29)
         have hji31w : (IntKind.i64.wrap ((t120.length : Int) - 1)) = ji31 := (i64_w _).trans hji31
         replace H := itn_d H; obtain ⟨c32b0, H⟩ := H
         replace H := itn_d H; obtain ⟨c33b0, H⟩ := H
         replace H := bnd H; obtain ⟨⟨t131, t132⟩, A34, H⟩ := H
         dsimp only at H
         have H' := Aside0.mk H
         clear H
         go_wp2_with (first | ((with_reducible refine gate_callee (f := 42) rfl ?_); refine gl 48 Tryz.func42 _ ((strings_Split.calls (w := _) (hG := gB) (h := A24.out)).mono ?_); rintro e w35 ⟨v121, rfl, ho0, hb⟩; refine ⟨_, rfl, ?_⟩; have HO122 := lS ho0; replace BK101 := kS BK101 hb; replace BK102 := kS BK102 hb; replace HB := bS hb; clear hb ho0; have hnb36 := NB102_101.out; have hnc36 := NB101_102.out; obtain ⟨hcz37_0, hcz37_1, hcz37_2, hcz37_3, hcz37_4, hcz37_5, hcz37_6, hcz37_7, hcz37_8⟩ := cz9 BK102.out; obtain ⟨hfz37_0, hfz37_1, hfz37_2, hfz37_3, hfz37_4, hfz37_5, hfz37_6, hfz37_7, hfz37_8⟩ := fz9 BK102.out; obtain ⟨Ao38, co38, eo38⟩ := Kd.R_slice HO122.out; subst eo38; have p123 : 0 ≤ (0 : Int) := (by omega); have q123 : 0 < (t120.length : Int) := of_decide_eq_true za; obtain ⟨ad123, e123, hx123_0⟩ := Kd.at_string (Kd.R_reads' HO122.out).2.2 0 p123 q123; cases e123; have qi123 : (0 < t120.length) = True := eq_true (by omega); (try rw [show ((0 : Int)).toNat = 0 from rfl] at hx123_0); (try rw [Addr.add_zero'] at hx123_0); have hn123_0 : ad123.block ≠ gb102 := Kd.own_blk (Kd.R_ne HO122.out BK102.out (by decide)); replace hx123_0 := (cell_far (p := ⟨gb102, 0, none⟩) (by first | (rw [add_block]; exact hn123_0) | (show (Addr.add _ _).block ≠ _; rw [add_block]; exact hn123_0) | exact hn123_0) (.int .i64 2)).trans hx123_0; clear hn123_0; replace p123 := eq_true p123; replace q123 := eq_true q123) | ((with_reducible refine gate_callee (f := 40) rfl ?_); refine gv 54 Tryz.func40 _ (impl_decimal.calls (w := _) (hG := gB) (h := A26.out)) ?_; intro w39 hb; replace HO122 := fS HO122 BK102 hb; replace BK101 := kS BK101 hb; replace BK102 := kP (.cells #[.int .i64 2, .int .i64 0, .string ⟨#[]⟩, .string ⟨#[]⟩, .int .i64 0, .string ⟨#[]⟩, .string ⟨#[]⟩, .slice none 0 0, .slice none 0 0] 37 (0, 0)) BK102 hb; replace HB := bS hb; clear hb; obtain ⟨hcz40_0, hcz40_1, hcz40_2, hcz40_3, hcz40_4, hcz40_5, hcz40_6, hcz40_7, hcz40_8⟩ := cz9 BK102.out; obtain ⟨hfz40_0, hfz40_1, hfz40_2, hfz40_3, hfz40_4, hfz40_5, hfz40_6, hfz40_7, hfz40_8⟩ := fz9 BK102.out; have p126 : 0 ≤ (1 : Int) := (by omega); have q126 : 1 < (t120.length : Int) := of_decide_eq_true za; obtain ⟨ad126, e126, hx126_0⟩ := Kd.at_string (Kd.R_reads' HO122.out).2.2 1 p126 q126; obtain rfl : ad123 = ad126 := (by injection e126); (try simp only [show (1 : Int).toNat = 1 from rfl, Nat.reduceMul, Nat.reduceEqDiff, Go.Addr.add, ↓reduceIte] at hx126_0); have qi126 : (1 < t120.length) = True := eq_true (by omega); (try rw [show ((1 : Int)).toNat = 1 from rfl] at hx126_0); have hn126_0 : ad123.block ≠ gb102 := Kd.own_blk (Kd.R_ne HO122.out BK102.out (by decide)); replace hx126_0 := (cell_far (p := ⟨gb102, 1, none⟩) (by first | (rw [add_block]; exact hn126_0) | (show (Addr.add _ _).block ≠ _; rw [add_block]; exact hn126_0) | exact hn126_0) (.int .i64 t124)).trans hx126_0; clear hn126_0; replace p126 := eq_true p126; replace q126 := eq_true q126) | ((with_reducible refine gate_callee (f := 43) rfl ?_); refine gv 65 Tryz.func43 _ (impl_AddrGet.calls (w := _) (hG := gB) (h := A29.out)) ?_; intro w41 hb; replace HO122 := fS HO122 BK102 hb; replace BK101 := kS BK101 hb; replace BK102 := kP (.cells #[.int .i64 2, .int .i64 t124, .string ⟨#[]⟩, .string ⟨#[]⟩, .int .i64 0, .string ⟨#[]⟩, .string ⟨#[]⟩, .slice none 0 0, .slice none 0 0] 37 (0, 0)) BK102 hb; replace HB := bS hb; clear hb; obtain ⟨hcz42_0, hcz42_1, hcz42_2, hcz42_3, hcz42_4, hcz42_5, hcz42_6, hcz42_7, hcz42_8⟩ := cz9 BK102.out; obtain ⟨hfz42_0, hfz42_1, hfz42_2, hfz42_3, hfz42_4, hfz42_5, hfz42_6, hfz42_7, hfz42_8⟩ := fz9 BK102.out; have p130 : 0 ≤ ((ji31) : Int) := of_decide_eq_true za; have q130 : (ji31) < (t120.length : Int) := of_decide_eq_true za; obtain ⟨ad130, e130, hx130_0⟩ := Kd.at_string (Kd.R_reads' HO122.out).2.2 (ji31) p130 q130; obtain rfl : ad123 = ad130 := (by injection e130); have hn130_0 : ad123.block ≠ gb102 := Kd.own_blk (Kd.R_ne HO122.out BK102.out (by decide)); have hn130_1 : ad123.block ≠ gb102 := Kd.own_blk (Kd.R_ne HO122.out BK102.out (by decide)); have hn130_2 : ad123.block ≠ gb102 := Kd.own_blk (Kd.R_ne HO122.out BK102.out (by decide)); replace hx130_0 := (cell_far (p := ⟨gb102, 2, none⟩) (by first | (rw [add_block]; exact hn130_0) | (show (Addr.add _ _).block ≠ _; rw [add_block]; exact hn130_0) | exact hn130_0) (.string t127)).trans hx130_0; replace hx130_0 := (cell_far (p := ⟨gb102, 3, none⟩) (by first | (rw [add_block]; exact hn130_1) | (show (Addr.add _ _).block ≠ _; rw [add_block]; exact hn130_1) | exact hn130_1) (.string t128)).trans hx130_0; replace hx130_0 := (cell_far (p := ⟨gb102, 0, none⟩) (by first | (rw [add_block]; exact hn130_2) | (show (Addr.add _ _).block ≠ _; rw [add_block]; exact hn130_2) | exact hn130_2) (.int .i64 3)).trans hx130_0; clear hn130_0 hn130_1 hn130_2; replace p130 := eq_true p130; replace q130 := eq_true q130) | ((with_reducible refine gate_callee (f := 40) rfl ?_); refine goesL_ (some 79) rfl rfl Tryz.func40 z0_ rfl #[.string (rdOf ByteArray.empty t120 (ji31))] rfl (by (try simp only [List.map_toArray, List.map_cons, List.map_nil]); first | done | (simp only [hji31]; rfl) | rfl | (simp only [List.length_drop, List.length_take]; rfl)) ?_; refine (impl_decimal.calls (w := _) (hG := gB) (h := A34.out)).mono ?_; rintro e w43 ⟨rfl, hb⟩; refine ⟨_, rfl, ?_⟩; replace HO122 := fS HO122 BK102 hb; replace BK101 := kS BK101 hb; replace BK102 := kP (.cells #[.int .i64 3, .int .i64 t124, .string t127, .string t128, .int .i64 0, .string ⟨#[]⟩, .string ⟨#[]⟩, .slice none 0 0, .slice none 0 0] 37 (0, 0)) BK102 hb; replace HB := bS hb; clear hb; obtain ⟨hcz44_0, hcz44_1, hcz44_2, hcz44_3, hcz44_4, hcz44_5, hcz44_6, hcz44_7, hcz44_8⟩ := cz9 BK102.out; obtain ⟨hfz44_0, hfz44_1, hfz44_2, hfz44_3, hfz44_4, hfz44_5, hfz44_6, hfz44_7, hfz44_8⟩ := fz9 BK102.out))
         go_meet
         case rel => exact ⟨_, (3), (t124), (t127), (t128), (t131), ((⟨#[]⟩ : ByteArray)), ((⟨#[]⟩ : ByteArray)), (([] : List (S32))), (([] : List ByteArray)), (.slice none 0 0), (.slice none 0 0), H', ⟨by have := HJ20.out; first | omega | exact Nat.le_refl _⟩, ⟨zn⟩, ⟨zn⟩, ⟨kQ BK101⟩, ⟨kQ BK102⟩, ⟨zB⟩⟩
        ·have H' := Aside0.mk H
         clear H
         go_wp2_with (first | ((with_reducible refine gate_callee (f := 42) rfl ?_); refine gl 48 Tryz.func42 _ ((strings_Split.calls (w := _) (hG := gB) (h := A24.out)).mono ?_); rintro e w45 ⟨v121, rfl, ho0, hb⟩; refine ⟨_, rfl, ?_⟩; have HO122 := lS ho0; replace BK101 := kS BK101 hb; replace BK102 := kS BK102 hb; replace HB := bS hb; clear hb ho0; have hnb46 := NB102_101.out; have hnc46 := NB101_102.out; obtain ⟨hcz47_0, hcz47_1, hcz47_2, hcz47_3, hcz47_4, hcz47_5, hcz47_6, hcz47_7, hcz47_8⟩ := cz9 BK102.out; obtain ⟨hfz47_0, hfz47_1, hfz47_2, hfz47_3, hfz47_4, hfz47_5, hfz47_6, hfz47_7, hfz47_8⟩ := fz9 BK102.out; obtain ⟨Ao48, co48, eo48⟩ := Kd.R_slice HO122.out; subst eo48; have p123 : 0 ≤ (0 : Int) := (by omega); have q123 : 0 < (t120.length : Int) := of_decide_eq_true za; obtain ⟨ad123, e123, hx123_0⟩ := Kd.at_string (Kd.R_reads' HO122.out).2.2 0 p123 q123; cases e123; have qi123 : (0 < t120.length) = True := eq_true (by omega); (try rw [show ((0 : Int)).toNat = 0 from rfl] at hx123_0); (try rw [Addr.add_zero'] at hx123_0); have hn123_0 : ad123.block ≠ gb102 := Kd.own_blk (Kd.R_ne HO122.out BK102.out (by decide)); replace hx123_0 := (cell_far (p := ⟨gb102, 0, none⟩) (by first | (rw [add_block]; exact hn123_0) | (show (Addr.add _ _).block ≠ _; rw [add_block]; exact hn123_0) | exact hn123_0) (.int .i64 2)).trans hx123_0; clear hn123_0; replace p123 := eq_true p123; replace q123 := eq_true q123) | ((with_reducible refine gate_callee (f := 40) rfl ?_); refine gv 54 Tryz.func40 _ (impl_decimal.calls (w := _) (hG := gB) (h := A26.out)) ?_; intro w49 hb; replace HO122 := fS HO122 BK102 hb; replace BK101 := kS BK101 hb; replace BK102 := kP (.cells #[.int .i64 2, .int .i64 0, .string ⟨#[]⟩, .string ⟨#[]⟩, .int .i64 0, .string ⟨#[]⟩, .string ⟨#[]⟩, .slice none 0 0, .slice none 0 0] 37 (0, 0)) BK102 hb; replace HB := bS hb; clear hb; obtain ⟨hcz50_0, hcz50_1, hcz50_2, hcz50_3, hcz50_4, hcz50_5, hcz50_6, hcz50_7, hcz50_8⟩ := cz9 BK102.out; obtain ⟨hfz50_0, hfz50_1, hfz50_2, hfz50_3, hfz50_4, hfz50_5, hfz50_6, hfz50_7, hfz50_8⟩ := fz9 BK102.out; have p126 : 0 ≤ (1 : Int) := (by omega); have q126 : 1 < (t120.length : Int) := of_decide_eq_true za; obtain ⟨ad126, e126, hx126_0⟩ := Kd.at_string (Kd.R_reads' HO122.out).2.2 1 p126 q126; obtain rfl : ad123 = ad126 := (by injection e126); (try simp only [show (1 : Int).toNat = 1 from rfl, Nat.reduceMul, Nat.reduceEqDiff, Go.Addr.add, ↓reduceIte] at hx126_0); have qi126 : (1 < t120.length) = True := eq_true (by omega); (try rw [show ((1 : Int)).toNat = 1 from rfl] at hx126_0); have hn126_0 : ad123.block ≠ gb102 := Kd.own_blk (Kd.R_ne HO122.out BK102.out (by decide)); replace hx126_0 := (cell_far (p := ⟨gb102, 1, none⟩) (by first | (rw [add_block]; exact hn126_0) | (show (Addr.add _ _).block ≠ _; rw [add_block]; exact hn126_0) | exact hn126_0) (.int .i64 t124)).trans hx126_0; clear hn126_0; replace p126 := eq_true p126; replace q126 := eq_true q126) | ((with_reducible refine gate_callee (f := 43) rfl ?_); refine gv 65 Tryz.func43 _ (impl_AddrGet.calls (w := _) (hG := gB) (h := A29.out)) ?_; intro w51 hb; replace HO122 := fS HO122 BK102 hb; replace BK101 := kS BK101 hb; replace BK102 := kP (.cells #[.int .i64 2, .int .i64 t124, .string ⟨#[]⟩, .string ⟨#[]⟩, .int .i64 0, .string ⟨#[]⟩, .string ⟨#[]⟩, .slice none 0 0, .slice none 0 0] 37 (0, 0)) BK102 hb; replace HB := bS hb; clear hb; obtain ⟨hcz52_0, hcz52_1, hcz52_2, hcz52_3, hcz52_4, hcz52_5, hcz52_6, hcz52_7, hcz52_8⟩ := cz9 BK102.out; obtain ⟨hfz52_0, hfz52_1, hfz52_2, hfz52_3, hfz52_4, hfz52_5, hfz52_6, hfz52_7, hfz52_8⟩ := fz9 BK102.out))
         go_meet
         case rel => exact ⟨_, (2), (t124), (t127), (t128), (0), ((⟨#[]⟩ : ByteArray)), ((⟨#[]⟩ : ByteArray)), (([] : List (S32))), (([] : List ByteArray)), (.slice none 0 0), (.slice none 0 0), H', ⟨by have := HJ20.out; first | omega | exact Nat.le_refl _⟩, ⟨zn⟩, ⟨zn⟩, ⟨kQ BK101⟩, ⟨kQ BK102⟩, ⟨zB⟩⟩
       ·have c27b1 : decide (1 < t120.length) = false := decide_eq_false (by omega)
        clear c27
        replace H := its_qn_qn H; rcases H with ⟨c53b0, c53b1, H⟩ | ⟨c53b0, c53b1, H⟩
        ·obtain ⟨ji54, hji54⟩ : ∃ j_ : Int, (wrap64 ((t120.length : Int) - 1)) = j_ := ⟨_, rfl⟩
         first | rw [hji54] at H | simp only [hji54] at H
         (try rw [hji54] at A24)
         (try rw [hji54] at A26)
         have hji54w : (IntKind.i64.wrap ((t120.length : Int) - 1)) = ji54 := (i64_w _).trans hji54
         replace H := itn_d H; obtain ⟨c55b0, H⟩ := H
         replace H := itn_d H; obtain ⟨c56b0, H⟩ := H
         replace H := bnd H; obtain ⟨⟨t134, t135⟩, A57, H⟩ := H
         dsimp only at H
         have H' := Aside0.mk H
         clear H
         go_wp2_with (first | ((with_reducible refine gate_callee (f := 42) rfl ?_); refine gl 48 Tryz.func42 _ ((strings_Split.calls (w := _) (hG := gB) (h := A24.out)).mono ?_); rintro e w58 ⟨v121, rfl, ho0, hb⟩; refine ⟨_, rfl, ?_⟩; have HO122 := lS ho0; replace BK101 := kS BK101 hb; replace BK102 := kS BK102 hb; replace HB := bS hb; clear hb ho0; have hnb59 := NB102_101.out; have hnc59 := NB101_102.out; obtain ⟨hcz60_0, hcz60_1, hcz60_2, hcz60_3, hcz60_4, hcz60_5, hcz60_6, hcz60_7, hcz60_8⟩ := cz9 BK102.out; obtain ⟨hfz60_0, hfz60_1, hfz60_2, hfz60_3, hfz60_4, hfz60_5, hfz60_6, hfz60_7, hfz60_8⟩ := fz9 BK102.out; obtain ⟨Ao61, co61, eo61⟩ := Kd.R_slice HO122.out; subst eo61; have p123 : 0 ≤ (0 : Int) := (by omega); have q123 : 0 < (t120.length : Int) := of_decide_eq_true za; obtain ⟨ad123, e123, hx123_0⟩ := Kd.at_string (Kd.R_reads' HO122.out).2.2 0 p123 q123; cases e123; have qi123 : (0 < t120.length) = True := eq_true (by omega); (try rw [show ((0 : Int)).toNat = 0 from rfl] at hx123_0); (try rw [Addr.add_zero'] at hx123_0); have hn123_0 : ad123.block ≠ gb102 := Kd.own_blk (Kd.R_ne HO122.out BK102.out (by decide)); replace hx123_0 := (cell_far (p := ⟨gb102, 0, none⟩) (by first | (rw [add_block]; exact hn123_0) | (show (Addr.add _ _).block ≠ _; rw [add_block]; exact hn123_0) | exact hn123_0) (.int .i64 2)).trans hx123_0; clear hn123_0; replace p123 := eq_true p123; replace q123 := eq_true q123) | ((with_reducible refine gate_callee (f := 40) rfl ?_); refine gv 54 Tryz.func40 _ (impl_decimal.calls (w := _) (hG := gB) (h := A26.out)) ?_; intro w62 hb; replace HO122 := fS HO122 BK102 hb; replace BK101 := kS BK101 hb; replace BK102 := kP (.cells #[.int .i64 2, .int .i64 0, .string ⟨#[]⟩, .string ⟨#[]⟩, .int .i64 0, .string ⟨#[]⟩, .string ⟨#[]⟩, .slice none 0 0, .slice none 0 0] 37 (0, 0)) BK102 hb; replace HB := bS hb; clear hb; obtain ⟨hcz63_0, hcz63_1, hcz63_2, hcz63_3, hcz63_4, hcz63_5, hcz63_6, hcz63_7, hcz63_8⟩ := cz9 BK102.out; obtain ⟨hfz63_0, hfz63_1, hfz63_2, hfz63_3, hfz63_4, hfz63_5, hfz63_6, hfz63_7, hfz63_8⟩ := fz9 BK102.out; have p133 : 0 ≤ ((ji54) : Int) := of_decide_eq_true za; have q133 : (ji54) < (t120.length : Int) := of_decide_eq_true za; obtain ⟨ad133, e133, hx133_0⟩ := Kd.at_string (Kd.R_reads' HO122.out).2.2 (ji54) p133 q133; obtain rfl : ad123 = ad133 := (by injection e133); have hn133_0 : ad123.block ≠ gb102 := Kd.own_blk (Kd.R_ne HO122.out BK102.out (by decide)); have hn133_1 : ad123.block ≠ gb102 := Kd.own_blk (Kd.R_ne HO122.out BK102.out (by decide)); replace hx133_0 := (cell_far (p := ⟨gb102, 1, none⟩) (by first | (rw [add_block]; exact hn133_0) | (show (Addr.add _ _).block ≠ _; rw [add_block]; exact hn133_0) | exact hn133_0) (.int .i64 t124)).trans hx133_0; replace hx133_0 := (cell_far (p := ⟨gb102, 0, none⟩) (by first | (rw [add_block]; exact hn133_1) | (show (Addr.add _ _).block ≠ _; rw [add_block]; exact hn133_1) | exact hn133_1) (.int .i64 3)).trans hx133_0; clear hn133_0 hn133_1; replace p133 := eq_true p133; replace q133 := eq_true q133) | ((with_reducible refine gate_callee (f := 40) rfl ?_); refine goesL_ (some 79) rfl rfl Tryz.func40 z0_ rfl #[.string (rdOf ByteArray.empty t120 (ji54))] rfl (by (try simp only [List.map_toArray, List.map_cons, List.map_nil]); first | done | (simp only [hji54]; rfl) | rfl | (simp only [List.length_drop, List.length_take]; rfl)) ?_; refine (impl_decimal.calls (w := _) (hG := gB) (h := A57.out)).mono ?_; rintro e w64 ⟨rfl, hb⟩; refine ⟨_, rfl, ?_⟩; replace HO122 := fS HO122 BK102 hb; replace BK101 := kS BK101 hb; replace BK102 := kP (.cells #[.int .i64 3, .int .i64 t124, .string ⟨#[]⟩, .string ⟨#[]⟩, .int .i64 0, .string ⟨#[]⟩, .string ⟨#[]⟩, .slice none 0 0, .slice none 0 0] 37 (0, 0)) BK102 hb; replace HB := bS hb; clear hb; obtain ⟨hcz65_0, hcz65_1, hcz65_2, hcz65_3, hcz65_4, hcz65_5, hcz65_6, hcz65_7, hcz65_8⟩ := cz9 BK102.out; obtain ⟨hfz65_0, hfz65_1, hfz65_2, hfz65_3, hfz65_4, hfz65_5, hfz65_6, hfz65_7, hfz65_8⟩ := fz9 BK102.out))
         go_meet
         case rel => exact ⟨_, (3), (t124), ((⟨#[]⟩ : ByteArray)), ((⟨#[]⟩ : ByteArray)), (t134), ((⟨#[]⟩ : ByteArray)), ((⟨#[]⟩ : ByteArray)), (([] : List (S32))), (([] : List ByteArray)), (.slice none 0 0), (.slice none 0 0), H', ⟨by have := HJ20.out; first | omega | exact Nat.le_refl _⟩, ⟨zn⟩, ⟨zn⟩, ⟨kQ BK101⟩, ⟨kQ BK102⟩, ⟨zB⟩⟩
        ·have H' := Aside0.mk H
         clear H
         go_wp2_with (first | ((with_reducible refine gate_callee (f := 42) rfl ?_); refine gl 48 Tryz.func42 _ ((strings_Split.calls (w := _) (hG := gB) (h := A24.out)).mono ?_); rintro e w66 ⟨v121, rfl, ho0, hb⟩; refine ⟨_, rfl, ?_⟩; have HO122 := lS ho0; replace BK101 := kS BK101 hb; replace BK102 := kS BK102 hb; replace HB := bS hb; clear hb ho0; have hnb67 := NB102_101.out; have hnc67 := NB101_102.out; obtain ⟨hcz68_0, hcz68_1, hcz68_2, hcz68_3, hcz68_4, hcz68_5, hcz68_6, hcz68_7, hcz68_8⟩ := cz9 BK102.out; obtain ⟨hfz68_0, hfz68_1, hfz68_2, hfz68_3, hfz68_4, hfz68_5, hfz68_6, hfz68_7, hfz68_8⟩ := fz9 BK102.out; obtain ⟨Ao69, co69, eo69⟩ := Kd.R_slice HO122.out; subst eo69; have p123 : 0 ≤ (0 : Int) := (by omega); have q123 : 0 < (t120.length : Int) := of_decide_eq_true za; obtain ⟨ad123, e123, hx123_0⟩ := Kd.at_string (Kd.R_reads' HO122.out).2.2 0 p123 q123; cases e123; have qi123 : (0 < t120.length) = True := eq_true (by omega); (try rw [show ((0 : Int)).toNat = 0 from rfl] at hx123_0); (try rw [Addr.add_zero'] at hx123_0); have hn123_0 : ad123.block ≠ gb102 := Kd.own_blk (Kd.R_ne HO122.out BK102.out (by decide)); replace hx123_0 := (cell_far (p := ⟨gb102, 0, none⟩) (by first | (rw [add_block]; exact hn123_0) | (show (Addr.add _ _).block ≠ _; rw [add_block]; exact hn123_0) | exact hn123_0) (.int .i64 2)).trans hx123_0; clear hn123_0; replace p123 := eq_true p123; replace q123 := eq_true q123) | ((with_reducible refine gate_callee (f := 40) rfl ?_); refine gv 54 Tryz.func40 _ (impl_decimal.calls (w := _) (hG := gB) (h := A26.out)) ?_; intro w70 hb; replace HO122 := fS HO122 BK102 hb; replace BK101 := kS BK101 hb; replace BK102 := kP (.cells #[.int .i64 2, .int .i64 0, .string ⟨#[]⟩, .string ⟨#[]⟩, .int .i64 0, .string ⟨#[]⟩, .string ⟨#[]⟩, .slice none 0 0, .slice none 0 0] 37 (0, 0)) BK102 hb; replace HB := bS hb; clear hb; obtain ⟨hcz71_0, hcz71_1, hcz71_2, hcz71_3, hcz71_4, hcz71_5, hcz71_6, hcz71_7, hcz71_8⟩ := cz9 BK102.out; obtain ⟨hfz71_0, hfz71_1, hfz71_2, hfz71_3, hfz71_4, hfz71_5, hfz71_6, hfz71_7, hfz71_8⟩ := fz9 BK102.out))
         go_meet
         case rel => exact ⟨_, (2), (t124), ((⟨#[]⟩ : ByteArray)), ((⟨#[]⟩ : ByteArray)), (0), ((⟨#[]⟩ : ByteArray)), ((⟨#[]⟩ : ByteArray)), (([] : List (S32))), (([] : List ByteArray)), (.slice none 0 0), (.slice none 0 0), H', ⟨by have := HJ20.out; first | omega | exact Nat.le_refl _⟩, ⟨zn⟩, ⟨zn⟩, ⟨kQ BK101⟩, ⟨kQ BK102⟩, ⟨zB⟩⟩
      ·have H' := Aside0.mk H
       clear H
       go_wp2
       go_meet
       case rel => exact ⟨_, (0), (0), ((⟨#[]⟩ : ByteArray)), ((⟨#[]⟩ : ByteArray)), (0), ((⟨#[]⟩ : ByteArray)), ((⟨#[]⟩ : ByteArray)), (([] : List (S32))), (([] : List ByteArray)), (.slice none 0 0), (.slice none 0 0), H', ⟨by have := HJ20.out; first | omega | exact Nat.le_refl _⟩, ⟨zn⟩, ⟨zn⟩, ⟨kQ BK101⟩, ⟨kQ BK102⟩, ⟨zB⟩⟩
  case rest =>
   clear HC6
   obtain ⟨kq, x103000_5, x103001_5, x103002_5, x103003_5, x103004_5, x103005_5, x103006_5, x103007_5, x103008_5, u103007, u103008, HA, HJ5, HO_103007, HO_103008, BK101, BK102, HB⟩ := hcut
   cases kq with
   | zero => exact absurd HA.out (by simp [impl_NoteGet.j1])
   | succ kj5 =>
    have H := HA.out
    clear HA
    simp only [impl_NoteGet.j1] at H
    replace H := bnd H; obtain ⟨t136, A72, H⟩ := H
    replace H := itb H; rcases H with ⟨rfl, H⟩ | ⟨rfl, H⟩
    ·replace H := bnd H; obtain ⟨t137, A74, H⟩ := H
     replace H := its_qn_qn H; rcases H with ⟨c75b0, c75b1, H⟩ | ⟨c75b0, c75b1, H⟩
     ·simp only [Option.some.injEq, Prod.mk.injEq] at H
      obtain ⟨rfl, rfl, rfl, rfl, rfl, rfl, rfl, rfl, rfl, rfl⟩ := H
      have hnb76 := NB102_101.out
      have hnc76 := NB101_102.out
      obtain ⟨hcz77_0, hcz77_1, hcz77_2, hcz77_3, hcz77_4, hcz77_5, hcz77_6, hcz77_7, hcz77_8⟩ := cz9 BK102.out
      obtain ⟨hfz77_0, hfz77_1, hfz77_2, hfz77_3, hfz77_4, hfz77_5, hfz77_6, hfz77_7, hfz77_8⟩ := fz9 BK102.out
      obtain ⟨Ao78, co78, eo78⟩ := Kd.R_slice HO_103007.out
      subst eo78
      obtain ⟨Ao79, co79, eo79⟩ := Kd.R_slice HO_103008.out
      subst eo79
      go_wp2_with (first | ((with_reducible refine gate_callee (f := 13) rfl ?_); refine gv 84 Tryz.func13 #[.agg #[.int .i64 x103000_5, .int .i64 x103001_5, .string x103002_5, .string x103003_5, .int .i64 x103004_5, .string x103005_5, .string x103006_5, .slice Ao78 x103007_5.length co78, .slice Ao79 x103008_5.length co79]] (impl_NoteOk.calls (w := _) (hG := gB) (hr0_7 := rC HO_103007) (hc0_7 := cL HO_103007) (hr0_8 := rC HO_103008) (hc0_8 := cL HO_103008) (h := A72.out)) ?_; intro w80 hb; replace HO_103007 := rS HO_103007 hb; replace HO_103008 := rS HO_103008 hb; replace BK101 := kS BK101 hb; replace BK102 := kS BK102 hb; replace HB := bS hb; clear hb; obtain ⟨hcz81_0, hcz81_1, hcz81_2, hcz81_3, hcz81_4, hcz81_5, hcz81_6, hcz81_7, hcz81_8⟩ := cz9 BK102.out; obtain ⟨hfz81_0, hfz81_1, hfz81_2, hfz81_3, hfz81_4, hfz81_5, hfz81_6, hfz81_7, hfz81_8⟩ := fz9 BK102.out) | (go_at_call 10; refine (impl_NotePut.calls (w := _) (hG := gB) (hr0_7 := rC HO_103007) (hc0_7 := cL HO_103007) (hr0_8 := rC HO_103008) (hc0_8 := cL HO_103008) (h := A74.out)).mono ?_; rintro e w82 ⟨rfl, hb⟩; replace HO_103007 := rS HO_103007 hb; replace HO_103008 := rS HO_103008 hb; replace BK101 := kS BK101 hb; replace BK102 := kS BK102 hb; replace HB := bS hb; clear hb; obtain ⟨hcz83_0, hcz83_1, hcz83_2, hcz83_3, hcz83_4, hcz83_5, hcz83_6, hcz83_7, hcz83_8⟩ := cz9 BK102.out; obtain ⟨hfz83_0, hfz83_1, hfz83_2, hfz83_3, hfz83_4, hfz83_5, hfz83_6, hfz83_7, hfz83_8⟩ := fz9 BK102.out; obtain ⟨hcz84_0, hcz84_1, hcz84_2, hcz84_3, hcz84_4, hcz84_5, hcz84_6, hcz84_7, hcz84_8⟩ := cz9 BK101.out; obtain ⟨hfz84_0, hfz84_1, hfz84_2, hfz84_3, hfz84_4, hfz84_5, hfz84_6, hfz84_7, hfz84_8⟩ := fz9 BK101.out))
      refine bodyPost_ret (results_ct rfl _ _ gb101 37 #[.int .i64 x103000_5, .int .i64 x103001_5, .string x103002_5, .string x103003_5, .int .i64 x103004_5, .string x103005_5, .string x103006_5, .slice Ao78 x103007_5.length co78, .slice Ao79 x103008_5.length co79] (0, 0) _ rfl (kQ BK101) Tryz.underlying37 rfl z0_) rfl ?_
      exact ⟨_, _, zr, fM HO_103007 BK101 (fun _ hk => trivial), fM HO_103008 BK101 (fun _ hk => trivial), zB⟩
     ·simp only [Option.some.injEq, Prod.mk.injEq] at H
      obtain ⟨rfl, rfl, rfl, rfl, rfl, rfl, rfl, rfl, rfl, rfl⟩ := H
      have hnb85 := NB102_101.out
      have hnc85 := NB101_102.out
      obtain ⟨hcz86_0, hcz86_1, hcz86_2, hcz86_3, hcz86_4, hcz86_5, hcz86_6, hcz86_7, hcz86_8⟩ := cz9 BK102.out
      obtain ⟨hfz86_0, hfz86_1, hfz86_2, hfz86_3, hfz86_4, hfz86_5, hfz86_6, hfz86_7, hfz86_8⟩ := fz9 BK102.out
      obtain ⟨Ao87, co87, eo87⟩ := Kd.R_slice HO_103007.out
      subst eo87
      obtain ⟨Ao88, co88, eo88⟩ := Kd.R_slice HO_103008.out
      subst eo88
      go_wp2_with (first | ((with_reducible refine gate_callee (f := 13) rfl ?_); refine gv 84 Tryz.func13 #[.agg #[.int .i64 x103000_5, .int .i64 x103001_5, .string x103002_5, .string x103003_5, .int .i64 x103004_5, .string x103005_5, .string x103006_5, .slice Ao87 x103007_5.length co87, .slice Ao88 x103008_5.length co88]] (impl_NoteOk.calls (w := _) (hG := gB) (hr0_7 := rC HO_103007) (hc0_7 := cL HO_103007) (hr0_8 := rC HO_103008) (hc0_8 := cL HO_103008) (h := A72.out)) ?_; intro w89 hb; replace HO_103007 := rS HO_103007 hb; replace HO_103008 := rS HO_103008 hb; replace BK101 := kS BK101 hb; replace BK102 := kS BK102 hb; replace HB := bS hb; clear hb; obtain ⟨hcz90_0, hcz90_1, hcz90_2, hcz90_3, hcz90_4, hcz90_5, hcz90_6, hcz90_7, hcz90_8⟩ := cz9 BK102.out; obtain ⟨hfz90_0, hfz90_1, hfz90_2, hfz90_3, hfz90_4, hfz90_5, hfz90_6, hfz90_7, hfz90_8⟩ := fz9 BK102.out) | (go_at_call 10; refine (impl_NotePut.calls (w := _) (hG := gB) (hr0_7 := rC HO_103007) (hc0_7 := cL HO_103007) (hr0_8 := rC HO_103008) (hc0_8 := cL HO_103008) (h := A74.out)).mono ?_; rintro e w91 ⟨rfl, hb⟩; replace HO_103007 := rS HO_103007 hb; replace HO_103008 := rS HO_103008 hb; replace BK101 := kS BK101 hb; replace BK102 := kS BK102 hb; replace HB := bS hb; clear hb; obtain ⟨hcz92_0, hcz92_1, hcz92_2, hcz92_3, hcz92_4, hcz92_5, hcz92_6, hcz92_7, hcz92_8⟩ := cz9 BK101.out; obtain ⟨hfz92_0, hfz92_1, hfz92_2, hfz92_3, hfz92_4, hfz92_5, hfz92_6, hfz92_7, hfz92_8⟩ := fz9 BK101.out))
      refine bodyPost_ret (results_ct rfl _ _ gb101 37 #[.int .i64 0, .int .i64 0, .string (⟨#[]⟩ : ByteArray), .string (⟨#[]⟩ : ByteArray), .int .i64 0, .string (⟨#[]⟩ : ByteArray), .string (⟨#[]⟩ : ByteArray), .slice none 0 0, .slice none 0 0] (0, 0) _ rfl (kQ BK101) Tryz.underlying37 rfl z0_) rfl ?_
      exact ⟨_, _, zr, zn, zn, zB⟩
    ·simp only [Option.some.injEq, Prod.mk.injEq] at H
     obtain ⟨rfl, rfl, rfl, rfl, rfl, rfl, rfl, rfl, rfl, rfl⟩ := H
     have hnb93 := NB102_101.out
     have hnc93 := NB101_102.out
     obtain ⟨hcz94_0, hcz94_1, hcz94_2, hcz94_3, hcz94_4, hcz94_5, hcz94_6, hcz94_7, hcz94_8⟩ := cz9 BK102.out
     obtain ⟨hfz94_0, hfz94_1, hfz94_2, hfz94_3, hfz94_4, hfz94_5, hfz94_6, hfz94_7, hfz94_8⟩ := fz9 BK102.out
     obtain ⟨Ao95, co95, eo95⟩ := Kd.R_slice HO_103007.out
     subst eo95
     obtain ⟨Ao96, co96, eo96⟩ := Kd.R_slice HO_103008.out
     subst eo96
     go_wp2_with (first | ((with_reducible refine gate_callee (f := 13) rfl ?_); refine gv 84 Tryz.func13 #[.agg #[.int .i64 x103000_5, .int .i64 x103001_5, .string x103002_5, .string x103003_5, .int .i64 x103004_5, .string x103005_5, .string x103006_5, .slice Ao95 x103007_5.length co95, .slice Ao96 x103008_5.length co96]] (impl_NoteOk.calls (w := _) (hG := gB) (hr0_7 := rC HO_103007) (hc0_7 := cL HO_103007) (hr0_8 := rC HO_103008) (hc0_8 := cL HO_103008) (h := A72.out)) ?_; intro w97 hb; replace HO_103007 := rS HO_103007 hb; replace HO_103008 := rS HO_103008 hb; replace BK101 := kS BK101 hb; replace BK102 := kS BK102 hb; replace HB := bS hb; clear hb; obtain ⟨hcz98_0, hcz98_1, hcz98_2, hcz98_3, hcz98_4, hcz98_5, hcz98_6, hcz98_7, hcz98_8⟩ := cz9 BK101.out; obtain ⟨hfz98_0, hfz98_1, hfz98_2, hfz98_3, hfz98_4, hfz98_5, hfz98_6, hfz98_7, hfz98_8⟩ := fz9 BK101.out))
     refine bodyPost_ret (results_ct rfl _ _ gb101 37 #[.int .i64 0, .int .i64 0, .string (⟨#[]⟩ : ByteArray), .string (⟨#[]⟩ : ByteArray), .int .i64 0, .string (⟨#[]⟩ : ByteArray), .string (⟨#[]⟩ : ByteArray), .slice none 0 0, .slice none 0 0] (0, 0) _ rfl (kQ BK101) Tryz.underlying37 rfl z0_) rfl ?_
     exact ⟨_, _, zr, zn, zn, zB⟩
end Go.Proofs.YtbncnjgflhoneaaGreatDoor.F
