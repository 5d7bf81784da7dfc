/- Of this claim, merged by program: F15, F45, F17, Q12, F82, F83, F44, F16, QS. -/
import Derived.Test.YtbncnjgflhoneaaGreatDoorM02
import Derived.Test.YtbncnjgflhoneaaGreatDoorM03
import Derived.Test.YtbncnjgflhoneaaGreatDoorM12
import Derived.Test.YtbncnjgflhoneaaGreatDoorM13
import Derived.Test.YtbncnjgflhoneaaGreatDoorM14
import Derived.Test.YtbncnjgflhoneaaGreatDoorM15
import Derived.Test.YtbncnjgflhoneaaGreatDoorM16
namespace Go.Proofs.YtbncnjgflhoneaaGreatDoor.F
open Go.RowKit Go.Proofs.YtbncnjgflhoneaaGreatDoor.Hand Go.Proofs.YtbncnjgflhoneaaGreatDoorW.PrintWords Go.Proofs.YtbncnjgflhoneaaGreatDoorW.PrintLast Go.Proofs.YtbncnjgflhoneaaGreatDoorW.PrintMore
set_option linter.unusedVariables false
set_option linter.unusedSimpArgs false

mutual
def impl_NoteGet.j1 : Nat → ByteArray → Int → Int → ByteArray → ByteArray → Int → ByteArray → ByteArray → List (S32) → List ByteArray → Option (Int × Int × ByteArray × ByteArray × Int × ByteArray × ByteArray × (List (S32)) × List ByteArray × Bool)
 | 0, _, _, _, _, _, _, _, _, _, _ => none
 | k + 1, x0, x103000, x103001, x103002, x103003, x103004, x103005, x103006, x103007, x103008 => (impl_NoteOk.f k x103000 x103001 x103002 x103003 x103004 x103005 x103006 x103007 x103008).bind fun t136 => (if t136 = true then ((impl_NotePut.f k x103000 x103001 x103002 x103003 x103004 x103005 x103006 x103007 x103008).bind fun t137 => (if t137.toList = x0.toList then (some (x103000, x103001, x103002, x103003, x103004, x103005, x103006, x103007, x103008, true)) else (some (0, 0, (⟨#[]⟩ : ByteArray), (⟨#[]⟩ : ByteArray), 0, (⟨#[]⟩ : ByteArray), (⟨#[]⟩ : ByteArray), ([] : List (S32)), ([] : List ByteArray), false)))) else (some (0, 0, (⟨#[]⟩ : ByteArray), (⟨#[]⟩ : ByteArray), 0, (⟨#[]⟩ : ByteArray), (⟨#[]⟩ : ByteArray), ([] : List (S32)), ([] : List ByteArray), false)))
def impl_NoteGet.j0 : Nat → ByteArray → ByteArray → ByteArray → Bool → Int → Int → ByteArray → ByteArray → Int → ByteArray → ByteArray → Option (Int × Int × ByteArray × ByteArray × Int × ByteArray × ByteArray × (List (S32)) × List ByteArray × Bool)
 | 0, _, _, _, _, _, _, _, _, _, _, _ => none
 | k + 1, x0, x5, x6, x44, x103000, x103001, x103002, x103003, x103004, x103005, x103006 => if x44 = true then ((strings_Split.f x6 (⟨#[32]⟩ : ByteArray)).bind fun t120 => (if 0 < (t120.length : Int) then ((impl_decimal.f (rdOf ByteArray.empty t120 0)).bind fun bt124 => (if (t120.length : Int) > 1 then (if 1 < (t120.length : Int) then ((impl_AddrGet.f k (rdOf ByteArray.empty t120 1)).bind fun bt127 => (if x5.toList = ([108, 97, 116, 101, 114] : List UInt8) then (if 0 ≤ (wrap64 ((t120.length : Int) - 1)) then (if (wrap64 ((t120.length : Int) - 1)) < (t120.length : Int) then ((impl_decimal.f (rdOf ByteArray.empty t120 (wrap64 ((t120.length : Int) - 1)))).bind fun bt131 => (impl_NoteGet.j1 k x0 3 bt124.1 bt127.1 bt127.2.1 bt131.1 x103005 x103006 ([] : List (S32)) ([] : List ByteArray))) else (none)) else (none)) else (impl_NoteGet.j1 k x0 2 bt124.1 bt127.1 bt127.2.1 x103004 x103005 x103006 ([] : List (S32)) ([] : List ByteArray)))) else (none)) else (if x5.toList = ([108, 97, 116, 101, 114] : List UInt8) then (if 0 ≤ (wrap64 ((t120.length : Int) - 1)) then (if (wrap64 ((t120.length : Int) - 1)) < (t120.length : Int) then ((impl_decimal.f (rdOf ByteArray.empty t120 (wrap64 ((t120.length : Int) - 1)))).bind fun bt134 => (impl_NoteGet.j1 k x0 3 bt124.1 x103002 x103003 bt134.1 x103005 x103006 ([] : List (S32)) ([] : List ByteArray))) else (none)) else (none)) else (impl_NoteGet.j1 k x0 2 bt124.1 x103002 x103003 x103004 x103005 x103006 ([] : List (S32)) ([] : List ByteArray))))) else (none))) else (impl_NoteGet.j1 k x0 x103000 x103001 x103002 x103003 x103004 x103005 x103006 ([] : List (S32)) ([] : List ByteArray))
end
def impl_NoteGet.f (k : Nat) (a0 : ByteArray) : Option (Int × Int × ByteArray × ByteArray × Int × ByteArray × ByteArray × (List (S32)) × List ByteArray × Bool) := if (a0.size : Int) > 820 then (some (0, 0, (⟨#[]⟩ : ByteArray), (⟨#[]⟩ : ByteArray), 0, (⟨#[]⟩ : ByteArray), (⟨#[]⟩ : ByteArray), ([] : List (S32)), ([] : List ByteArray), false)) else ((strings_Cut.f a0 (⟨#[32]⟩ : ByteArray)).bind fun bt103 => (if bt103.1.toList = ([97, 100, 100] : List UInt8) then ((strings_Cut.f bt103.2.1 (⟨#[10]⟩ : ByteArray)).bind fun bt106 => ((impl_decimal.f bt106.1).bind fun bt109 => ((impl_MailGet.f k bt106.2.1).bind fun bt111 => (impl_NoteGet.j1 k a0 1 0 (⟨#[]⟩ : ByteArray) (⟨#[]⟩ : ByteArray) bt109.1 bt111.1 bt111.2.1 bt111.2.2.1 bt111.2.2.2.1)))) else (if bt103.1.toList = ([100, 111, 110, 101] : List UInt8) then (impl_NoteGet.j0 k a0 bt103.1 bt103.2.1 (bt103.1.toList == ([100, 111, 110, 101] : List UInt8)) 0 0 (⟨#[]⟩ : ByteArray) (⟨#[]⟩ : ByteArray) 0 (⟨#[]⟩ : ByteArray) (⟨#[]⟩ : ByteArray)) else (impl_NoteGet.j0 k a0 bt103.1 bt103.2.1 (bt103.1.toList == ([108, 97, 116, 101, 114] : List UInt8)) 0 0 (⟨#[]⟩ : ByteArray) (⟨#[]⟩ : ByteArray) 0 (⟨#[]⟩ : ByteArray) (⟨#[]⟩ : ByteArray)))))
set_option maxHeartbeats 8000000 in
set_option maxRecDepth 100000 in
theorem impl_NoteGet.calls (k : Nat) (a0 : ByteArray) (r1 : Int) (r2 : Int) (r3 : ByteArray) (r4 : ByteArray) (r5 : Int) (r6 : ByteArray) (r7 : ByteArray) (r8 : List (S32)) (r9 : List ByteArray) (r10 : Bool) (w : World) (hG : Laid w) (h : impl_NoteGet.f k a0 = some (r1, r2, r3, r4, r5, r6, r7, r8, r9, r10)) :
  Calls Tryz.prog 15 #[.string a0] w fun e w' => ∃ v7_ v8_ : Value, e = .returned (.tuple #[.agg #[.int .i64 r1, .int .i64 r2, .string r3, .string r4, .int .i64 r5, .string r6, .string r7, v7_, v8_], .bool r10]) ∧ Kd.R k32 32 w' w.heap.size (fun _ => True) v7_ r8 ∧ Kd.R Kd.string 9 w' w.heap.size (fun _ => True) v8_ r9 ∧ Below w.heap.size w w' := by
 have hu37 := Tryz.underlying37
 have hu35 := Tryz.underlying35
 have hu32 := Tryz.underlying32
 have HG := Aside0.mk hG
 clear hG
 have HB := Aside0.mk (Below.refl w.heap.size w)
 have H := h
 clear h
 unfold impl_NoteGet.f at H
 replace H := its_cd_cd H; rcases H with ⟨c2, c2b0, H⟩ | ⟨c2, c2b0, H⟩
 ·have c2b1 : decide (820 < a0.size) = true := decide_eq_true (by omega)
  clear c2
  simp only [Option.some.injEq, Prod.mk.injEq] at H
  obtain ⟨rfl, rfl, rfl, rfl, rfl, rfl, rfl, rfl, rfl, rfl⟩ := H
  go_enter Tryz.func15, Tryz.ntmps15
  go_wp2_with (first | ((with_reducible refine gate_dst (N := 2) rfl ?_); refine bx (cs := #[.int .i64 0, .int .i64 0, .string ⟨#[]⟩, .string ⟨#[]⟩, .int .i64 0, .string ⟨#[]⟩, .string ⟨#[]⟩, .slice none 0 0, .slice none 0 0]) (t := 37) ?_; intro gb101 hg w3 hbox hb; have BK101 := Aside0.mk (hbox); have GW101 := gS hg; have GE101 := gS hg; replace HB := bS hb; clear hb hbox hg; have hcz4 := cz9 BK101.out; have hfz4 := fz9 BK101.out))
  refine bodyPost_ret (results_ct rfl _ _ gb101 37 #[.int .i64 0, .int .i64 0, .string (⟨#[]⟩ : ByteArray), .string (⟨#[]⟩ : ByteArray), .int .i64 0, .string (⟨#[]⟩ : ByteArray), .string (⟨#[]⟩ : ByteArray), .slice none 0 0, .slice none 0 0] (0, 0) _ rfl (kQ BK101) Tryz.underlying37 rfl (by kernel_rfl)) rfl ?_
  exact ⟨_, _, zr, zn, zn, zB⟩
 ·have c2b1 : decide (820 < a0.size) = false := decide_eq_false (by omega)
  clear c2
  replace H := bnd H; obtain ⟨⟨t103, t104, t105⟩, A5, H⟩ := H
  dsimp only at H
  have HC6 := Aside0.mk H
  clear H
  go_enter Tryz.func15, Tryz.ntmps15
  go_upto_block 0 with (first | ((with_reducible refine gate_dst (N := 2) rfl ?_); refine bx (cs := #[.int .i64 0, .int .i64 0, .string ⟨#[]⟩, .string ⟨#[]⟩, .int .i64 0, .string ⟨#[]⟩, .string ⟨#[]⟩, .slice none 0 0, .slice none 0 0]) (t := 37) ?_; intro gb101 hg w7 hbox hb; have BK101 := Aside0.mk (hbox); have GW101 := gS hg; have GE101 := gS hg; replace HB := bS hb; clear hb hbox hg) | ((with_reducible refine gate_dst (N := 4) rfl ?_); refine bx (cs := #[.int .i64 0, .int .i64 0, .string ⟨#[]⟩, .string ⟨#[]⟩, .int .i64 0, .string ⟨#[]⟩, .string ⟨#[]⟩, .slice none 0 0, .slice none 0 0]) (t := 37) ?_; intro gb102 hg w8 hbox hb; have BK102 := Aside0.mk (hbox); have GW102 := gS hg; have GE102 := gS hg; have NB101_102 := nS hg BK101; have NB102_101 := nG hg BK101; replace BK101 := kS BK101 hb; replace HB := bS hb; clear hb hbox hg) | ((with_reducible refine gate_callee (f := 39) rfl ?_); refine gv 18 Tryz.func39 _ (strings_Cut.calls (w := _) (hG := gB) (h := A5.out)) ?_; rintro w' ⟨nd, rfl⟩))
  (try simp only [Act.put, List.setIfInBounds_toArray, List.set_cons_zero, List.set_cons_succ])
  go_cut [] (fun wc => ∃ (kq : Nat) (x103000_5 : Int) (x103001_5 : Int) (x103002_5 : ByteArray) (x103003_5 : ByteArray) (x103004_5 : Int) (x103005_5 : ByteArray) (x103006_5 : ByteArray) (x103007_5 : List (S32)) (x103008_5 : List ByteArray) (u103007 : Value) (u103008 : Value), Aside0 (impl_NoteGet.j1 kq a0 x103000_5 x103001_5 x103002_5 x103003_5 x103004_5 x103005_5 x103006_5 x103007_5 x103008_5 = some (r1, r2, r3, r4, r5, r6, r7, r8, r9, r10)) ∧ Aside0 (kq ≤ k) ∧ Aside0 (Kd.R k32 32 wc w.heap.size (fun _ => True) u103007 x103007_5) ∧ Aside0 (Kd.R Kd.string 9 wc w.heap.size (fun _ => True) u103008 x103008_5) ∧ Aside0 (wc.heap[gb101]? = some (.cells #[.int .i64 0, .int .i64 0, .string (⟨#[]⟩ : ByteArray), .string (⟨#[]⟩ : ByteArray), .int .i64 0, .string (⟨#[]⟩ : ByteArray), .string (⟨#[]⟩ : ByteArray), (.slice none 0 0), (.slice none 0 0)] 37 (0, 0))) ∧ Aside0 (wc.heap[gb102]? = some (.cells #[.int .i64 x103000_5, .int .i64 x103001_5, .string x103002_5, .string x103003_5, .int .i64 x103004_5, .string x103005_5, .string x103006_5, u103007, u103008] 37 (0, 0))) ∧ Aside0 (Below w.heap.size w wc))
  case first =>
   have H := HC6.out
   clear HC6
   replace H := its_qn_qn H; rcases H with ⟨c9b0, c9b1, H⟩ | ⟨c9b0, c9b1, H⟩
   ·(first | rw [c9b0] | (simp only [i64_w, i32_w]; rw [c9b0]) | skip)
    replace H := bnd H; obtain ⟨⟨t106, t107, t108⟩, A10, H⟩ := H
    dsimp only at H
    replace H := bnd H; obtain ⟨⟨t109, t110⟩, A11, H⟩ := H
    dsimp only at H
    replace H := bnd H; obtain ⟨⟨t111, t112, t113, t116, t119⟩, A12, H⟩ := H
    dsimp only at H
    have H' := Aside0.mk H
    clear H
    go_wp2_with (first | ((with_reducible refine gate_callee (f := 39) rfl ?_); refine gv 27 Tryz.func39 _ (strings_Cut.calls (w := _) (hG := gB) (h := A10.out)) ?_; rintro w' ⟨nd, rfl⟩; (try (rw [drewN_self w8]; generalize hq_ : World.drewN w8 _ = w8; have n0_ : Aside0 (w8.heap[gb101]? = some (.cells #[.int .i64 0, .int .i64 0, .string ⟨#[]⟩, .string ⟨#[]⟩, .int .i64 0, .string ⟨#[]⟩, .string ⟨#[]⟩, .slice none 0 0, .slice none 0 0] 37 (0, 0))) := ⟨by rw [← hq_]; exact (kQ BK101)⟩; have n1_ : Aside0 (w8.heap[gb102]? = some (.cells #[.int .i64 0, .int .i64 0, .string ⟨#[]⟩, .string ⟨#[]⟩, .int .i64 0, .string ⟨#[]⟩, .string ⟨#[]⟩, .slice none 0 0, .slice none 0 0] 37 (0, 0))) := ⟨by rw [← hq_]; exact (kQ BK102)⟩; have n2_ : Aside0 (Below w.heap.size w w8) := ⟨by rw [← hq_]; exact zB⟩; clear BK101 BK102 HB hq_; have BK101 := n0_; have BK102 := n1_; have HB := n2_; clear n0_ n1_ n2_)); have hnb13 := NB102_101.out; have hnc13 := NB101_102.out; have hcz14 := cz9 BK102.out; have hfz14 := fz9 BK102.out) | ((with_reducible refine gate_callee (f := 40) rfl ?_); refine gv 34 Tryz.func40 _ (impl_decimal.calls (w := _) (hG := gB) (h := A11.out)) ?_; intro w15 hb; replace BK101 := kS BK101 hb; replace BK102 := kP (.cells #[.int .i64 1, .int .i64 0, .string ⟨#[]⟩, .string ⟨#[]⟩, .int .i64 0, .string ⟨#[]⟩, .string ⟨#[]⟩, .slice none 0 0, .slice none 0 0] 37 (0, 0)) BK102 hb; replace HB := bS hb; clear hb; have hcz16 := cz9 BK102.out; have hfz16 := fz9 BK102.out) | ((with_reducible refine gate_callee (f := 41) rfl ?_); refine gl 40 Tryz.func41 _ ((impl_MailGet.calls (w := _) (hG := gB) (h := A12.out)).mono ?_); rintro e w17 ⟨v114, v117, rfl, ho0, ho1, hb⟩; refine ⟨_, rfl, ?_⟩; have HO115 := lS ho0; have HO118 := lS ho1; replace BK101 := kS BK101 hb; replace BK102 := kP (.cells #[.int .i64 1, .int .i64 0, .string ⟨#[]⟩, .string ⟨#[]⟩, .int .i64 t109, .string ⟨#[]⟩, .string ⟨#[]⟩, .slice none 0 0, .slice none 0 0] 37 (0, 0)) BK102 hb; replace HB := bS hb; clear hb ho0; (try clear ho1); have hcz18 := cz9 BK102.out; have hfz18 := fz9 BK102.out; obtain ⟨Ao19, co19, eo19⟩ := Kd.R_slice HO115.out; subst eo19; obtain ⟨Ao20, co20, eo20⟩ := Kd.R_slice HO118.out; subst eo20))
    go_meet
    case rel => exact ⟨_, (1), (0), ((⟨#[]⟩ : ByteArray)), ((⟨#[]⟩ : ByteArray)), (t109), (t111), (t112), (t113), (t116), (.slice Ao19 t113.length co19), (.slice Ao20 t116.length co20), H', ⟨by first | omega | exact Nat.le_refl _⟩, ⟨fM HO115 BK102 (fun _ hk => trivial)⟩, ⟨fM HO118 BK102 (fun _ hk => trivial)⟩, ⟨kQ BK101⟩, ⟨kQ BK102⟩, ⟨zB⟩⟩
   ·(first | rw [c9b0] | (simp only [i64_w, i32_w]; rw [c9b0]) | skip)
    have HC21 := Aside0.mk H
    clear H
    go_upto_if 44 with (fail)
    go_cut [44] (fun v44 wc => ∃ (kq : Nat) (x44_20 : Bool), v44 = .bool x44_20 ∧ Aside0 (impl_NoteGet.j0 kq a0 t103 t104 x44_20 0 0 (⟨#[]⟩ : ByteArray) (⟨#[]⟩ : ByteArray) 0 (⟨#[]⟩ : ByteArray) (⟨#[]⟩ : ByteArray) = some (r1, r2, r3, r4, r5, r6, r7, r8, r9, r10)) ∧ Aside0 (kq ≤ k) ∧ Aside0 (wc.heap[gb101]? = some (.cells #[.int .i64 0, .int .i64 0, .string (⟨#[]⟩ : ByteArray), .string (⟨#[]⟩ : ByteArray), .int .i64 0, .string (⟨#[]⟩ : ByteArray), .string (⟨#[]⟩ : ByteArray), (.slice none 0 0), (.slice none 0 0)] 37 (0, 0))) ∧ Aside0 (wc.heap[gb102]? = some (.cells #[.int .i64 0, .int .i64 0, .string (⟨#[]⟩ : ByteArray), .string (⟨#[]⟩ : ByteArray), .int .i64 0, .string (⟨#[]⟩ : ByteArray), .string (⟨#[]⟩ : ByteArray), (.slice none 0 0), (.slice none 0 0)] 37 (0, 0))) ∧ Aside0 (Below w.heap.size w wc))
    case first =>
     have H := HC21.out
     clear HC21
     replace H := its_qn_qn H; rcases H with ⟨c22b0, c22b1, H⟩ | ⟨c22b0, c22b1, H⟩
     ·(first | rw [c22b0] | (simp only [i64_w, i32_w]; rw [c22b0]) | skip)
      have H' := Aside0.mk H
      clear H
      go_wp2
      go_meet
      case rel => exact ⟨_, ((t103.toList == ([100, 111, 110, 101] : List UInt8))), zs, H', ⟨by first | omega | exact Nat.le_refl _⟩, ⟨kQ BK101⟩, ⟨kQ BK102⟩, ⟨zB⟩⟩
     ·(first | rw [c22b0] | (simp only [i64_w, i32_w]; rw [c22b0]) | skip)
      have H' := Aside0.mk H
      clear H
      go_wp2
      go_meet
      case rel => exact ⟨_, ((t103.toList == ([108, 97, 116, 101, 114] : List UInt8))), zs, H', ⟨by first | omega | exact Nat.le_refl _⟩, ⟨kQ BK101⟩, ⟨kQ BK102⟩, ⟨zB⟩⟩
    case rest =>
     clear HC21
     obtain ⟨kq, x44_20, rfl, HA, HJ20, BK101, BK102, HB⟩ := hcut
     cases kq with
     | zero => exact absurd HA.out (by simp [impl_NoteGet.j0])
     | succ kj20 =>
      have H := HA.out
      clear HA
      simp only [impl_NoteGet.j0] at H
      replace H := itb H; rcases H with ⟨rfl, H⟩ | ⟨rfl, H⟩
      ·replace H := bnd H; obtain ⟨t120, A24, H⟩ := H
       replace H := itn_cd H; obtain ⟨c25, c25b0, H⟩ := H
       have c25b1 : decide (0 < t120.length) = true := decide_eq_true (by omega)
       clear c25
       replace H := bnd H; obtain ⟨⟨t124, t125⟩, A26, H⟩ := H
       dsimp only at H
       replace H := its_cd_cd H; rcases H with ⟨c27, c27b0, H⟩ | ⟨c27, c27b0, H⟩
       ·have c27b1 : decide (1 < t120.length) = true := decide_eq_true (by omega)
        clear c27
        replace H := itn_cd H; obtain ⟨c28, c28b0, H⟩ := H
        have c28b1 : decide (1 < t120.length) = true := decide_eq_true (by omega)
        clear c28
        replace H := bnd H; obtain ⟨⟨t127, t128, t129⟩, A29, H⟩ := H
        dsimp only at H
        replace H := its_qn_qn H; rcases H with ⟨c30b0, c30b1, H⟩ | ⟨c30b0, c30b1, H⟩
        ·obtain ⟨ji31, hji31⟩ : ∃ j_ : Int, (wrap64 ((t120.length : Int) - 1)) = j_ := ⟨_, rfl⟩
         first | rw [hji31] at H | simp only [hji31] at H
         (try rw [hji31] at A24)
         (try rw [hji31] at A26)
         (try rw [hji31] at A29)
         have hji31w : (IntKind.i64.wrap ((t120.length : Int) - 1)) = ji31 := (i64_w _).trans hji31
         replace H := itn_d H; obtain ⟨c32b0, H⟩ := H
         replace H := itn_d H; obtain ⟨c33b0, H⟩ := H
         replace H := bnd H; obtain ⟨⟨t131, t132⟩, A34, H⟩ := H
         dsimp only at H
         have H' := Aside0.mk H
         clear H
         go_wp2_with (first | ((with_reducible refine gate_callee (f := 42) rfl ?_); refine gl 48 Tryz.func42 _ ((strings_Split.calls (w := _) (hG := gB) (h := A24.out)).mono ?_); rintro e w35 ⟨v121, rfl, ho0, hb⟩; refine ⟨_, rfl, ?_⟩; have HO122 := lS ho0; replace BK101 := kS BK101 hb; replace BK102 := kS BK102 hb; replace HB := bS hb; clear hb ho0; have hnb36 := NB102_101.out; have hnc36 := NB101_102.out; have hcz37 := cz9 BK102.out; have hfz37 := fz9 BK102.out; obtain ⟨Ao38, co38, eo38⟩ := Kd.R_slice HO122.out; subst eo38; have p123 : 0 ≤ (0 : Int) := (by omega); have q123 : 0 < (t120.length : Int) := of_decide_eq_true za; obtain ⟨ad123, e123, hx123_0⟩ := Kd.at_string (Kd.R_reads' HO122.out).2.2 0 p123 q123; cases e123; have qi123 : (0 < t120.length) = True := eq_true (by omega); (try rw [show ((0 : Int)).toNat = 0 from rfl] at hx123_0); (try rw [Addr.add_zero'] at hx123_0); have hn123_0 : ad123.block ≠ gb102 := Kd.own_blk (Kd.R_ne HO122.out BK102.out z0_); replace hx123_0 := (cell_far (p := ⟨gb102, 0, none⟩) (by first | (rw [add_block]; exact hn123_0) | (show (Addr.add _ _).block ≠ _; rw [add_block]; exact hn123_0) | exact hn123_0) (.int .i64 2)).trans hx123_0; clear hn123_0; replace p123 := eq_true p123; replace q123 := eq_true q123) | ((with_reducible refine gate_callee (f := 40) rfl ?_); refine gv 54 Tryz.func40 _ (impl_decimal.calls (w := _) (hG := gB) (h := A26.out)) ?_; intro w39 hb; replace HO122 := fS HO122 BK102 hb; replace BK101 := kS BK101 hb; replace BK102 := kP (.cells #[.int .i64 2, .int .i64 0, .string ⟨#[]⟩, .string ⟨#[]⟩, .int .i64 0, .string ⟨#[]⟩, .string ⟨#[]⟩, .slice none 0 0, .slice none 0 0] 37 (0, 0)) BK102 hb; replace HB := bS hb; clear hb; have hcz40 := cz9 BK102.out; have hfz40 := fz9 BK102.out; have p126 : 0 ≤ (1 : Int) := (by omega); have q126 : 1 < (t120.length : Int) := of_decide_eq_true za; obtain ⟨ad126, e126, hx126_0⟩ := Kd.at_string (Kd.R_reads' HO122.out).2.2 1 p126 q126; obtain rfl : ad123 = ad126 := (by injection e126); (try simp only [show (1 : Int).toNat = 1 from rfl, Nat.reduceMul, Nat.reduceEqDiff, Go.Addr.add, ↓reduceIte] at hx126_0); have qi126 : (1 < t120.length) = True := eq_true (by omega); (try rw [show ((1 : Int)).toNat = 1 from rfl] at hx126_0); have hn126_0 : ad123.block ≠ gb102 := Kd.own_blk (Kd.R_ne HO122.out BK102.out z0_); replace hx126_0 := (cell_far (p := ⟨gb102, 1, none⟩) (by first | (rw [add_block]; exact hn126_0) | (show (Addr.add _ _).block ≠ _; rw [add_block]; exact hn126_0) | exact hn126_0) (.int .i64 t124)).trans hx126_0; clear hn126_0; replace p126 := eq_true p126; replace q126 := eq_true q126) | ((with_reducible refine gate_callee (f := 43) rfl ?_); refine gv 65 Tryz.func43 _ (impl_AddrGet.calls (w := _) (hG := gB) (h := A29.out)) ?_; intro w41 hb; replace HO122 := fS HO122 BK102 hb; replace BK101 := kS BK101 hb; replace BK102 := kP (.cells #[.int .i64 2, .int .i64 t124, .string ⟨#[]⟩, .string ⟨#[]⟩, .int .i64 0, .string ⟨#[]⟩, .string ⟨#[]⟩, .slice none 0 0, .slice none 0 0] 37 (0, 0)) BK102 hb; replace HB := bS hb; clear hb; have hcz42 := cz9 BK102.out; have hfz42 := fz9 BK102.out; have p130 : 0 ≤ ((ji31) : Int) := of_decide_eq_true za; have q130 : (ji31) < (t120.length : Int) := of_decide_eq_true za; obtain ⟨ad130, e130, hx130_0⟩ := Kd.at_string (Kd.R_reads' HO122.out).2.2 (ji31) p130 q130; obtain rfl : ad123 = ad130 := (by injection e130); have hn130_0 : ad123.block ≠ gb102 := Kd.own_blk (Kd.R_ne HO122.out BK102.out z0_); have hn130_1 : ad123.block ≠ gb102 := Kd.own_blk (Kd.R_ne HO122.out BK102.out z0_); have hn130_2 : ad123.block ≠ gb102 := Kd.own_blk (Kd.R_ne HO122.out BK102.out z0_); replace hx130_0 := (cell_far (p := ⟨gb102, 2, none⟩) (by first | (rw [add_block]; exact hn130_0) | (show (Addr.add _ _).block ≠ _; rw [add_block]; exact hn130_0) | exact hn130_0) (.string t127)).trans hx130_0; replace hx130_0 := (cell_far (p := ⟨gb102, 3, none⟩) (by first | (rw [add_block]; exact hn130_1) | (show (Addr.add _ _).block ≠ _; rw [add_block]; exact hn130_1) | exact hn130_1) (.string t128)).trans hx130_0; replace hx130_0 := (cell_far (p := ⟨gb102, 0, none⟩) (by first | (rw [add_block]; exact hn130_2) | (show (Addr.add _ _).block ≠ _; rw [add_block]; exact hn130_2) | exact hn130_2) (.int .i64 3)).trans hx130_0; clear hn130_0 hn130_1 hn130_2; replace p130 := eq_true p130; replace q130 := eq_true q130) | ((with_reducible refine gate_callee (f := 40) rfl ?_); refine goesL_ (some 79) rfl rfl Tryz.func40 (by kernel_rfl) rfl #[.string (rdOf ByteArray.empty t120 (ji31))] rfl (by (try simp only [List.map_toArray, List.map_cons, List.map_nil]); first | done | (simp only [hji31]; rfl) | rfl | (simp only [List.length_drop, List.length_take]; rfl)) ?_; refine (impl_decimal.calls (w := _) (hG := gB) (h := A34.out)).mono ?_; rintro e w43 ⟨rfl, hb⟩; refine ⟨_, rfl, ?_⟩; replace HO122 := fS HO122 BK102 hb; replace BK101 := kS BK101 hb; replace BK102 := kP (.cells #[.int .i64 3, .int .i64 t124, .string t127, .string t128, .int .i64 0, .string ⟨#[]⟩, .string ⟨#[]⟩, .slice none 0 0, .slice none 0 0] 37 (0, 0)) BK102 hb; replace HB := bS hb; clear hb; have hcz44 := cz9 BK102.out; have hfz44 := fz9 BK102.out))
         go_meet
         case rel => exact ⟨_, (3), (t124), (t127), (t128), (t131), ((⟨#[]⟩ : ByteArray)), ((⟨#[]⟩ : ByteArray)), (([] : List (S32))), (([] : List ByteArray)), (.slice none 0 0), (.slice none 0 0), H', ⟨by have := HJ20.out; first | omega | exact Nat.le_refl _⟩, ⟨zn⟩, ⟨zn⟩, ⟨kQ BK101⟩, ⟨kQ BK102⟩, ⟨zB⟩⟩
        ·have H' := Aside0.mk H
         clear H
         go_wp2_with (first | ((with_reducible refine gate_callee (f := 42) rfl ?_); refine gl 48 Tryz.func42 _ ((strings_Split.calls (w := _) (hG := gB) (h := A24.out)).mono ?_); rintro e w45 ⟨v121, rfl, ho0, hb⟩; refine ⟨_, rfl, ?_⟩; have HO122 := lS ho0; replace BK101 := kS BK101 hb; replace BK102 := kS BK102 hb; replace HB := bS hb; clear hb ho0; have hnb46 := NB102_101.out; have hnc46 := NB101_102.out; have hcz47 := cz9 BK102.out; have hfz47 := fz9 BK102.out; obtain ⟨Ao48, co48, eo48⟩ := Kd.R_slice HO122.out; subst eo48; have p123 : 0 ≤ (0 : Int) := (by omega); have q123 : 0 < (t120.length : Int) := of_decide_eq_true za; obtain ⟨ad123, e123, hx123_0⟩ := Kd.at_string (Kd.R_reads' HO122.out).2.2 0 p123 q123; cases e123; have qi123 : (0 < t120.length) = True := eq_true (by omega); (try rw [show ((0 : Int)).toNat = 0 from rfl] at hx123_0); (try rw [Addr.add_zero'] at hx123_0); have hn123_0 : ad123.block ≠ gb102 := Kd.own_blk (Kd.R_ne HO122.out BK102.out z0_); replace hx123_0 := (cell_far (p := ⟨gb102, 0, none⟩) (by first | (rw [add_block]; exact hn123_0) | (show (Addr.add _ _).block ≠ _; rw [add_block]; exact hn123_0) | exact hn123_0) (.int .i64 2)).trans hx123_0; clear hn123_0; replace p123 := eq_true p123; replace q123 := eq_true q123) | ((with_reducible refine gate_callee (f := 40) rfl ?_); refine gv 54 Tryz.func40 _ (impl_decimal.calls (w := _) (hG := gB) (h := A26.out)) ?_; intro w49 hb; replace HO122 := fS HO122 BK102 hb; replace BK101 := kS BK101 hb; replace BK102 := kP (.cells #[.int .i64 2, .int .i64 0, .string ⟨#[]⟩, .string ⟨#[]⟩, .int .i64 0, .string ⟨#[]⟩, .string ⟨#[]⟩, .slice none 0 0, .slice none 0 0] 37 (0, 0)) BK102 hb; replace HB := bS hb; clear hb; have hcz50 := cz9 BK102.out; have hfz50 := fz9 BK102.out; have p126 : 0 ≤ (1 : Int) := (by omega); have q126 : 1 < (t120.length : Int) := of_decide_eq_true za; obtain ⟨ad126, e126, hx126_0⟩ := Kd.at_string (Kd.R_reads' HO122.out).2.2 1 p126 q126; obtain rfl : ad123 = ad126 := (by injection e126); (try simp only [show (1 : Int).toNat = 1 from rfl, Nat.reduceMul, Nat.reduceEqDiff, Go.Addr.add, ↓reduceIte] at hx126_0); have qi126 : (1 < t120.length) = True := eq_true (by omega); (try rw [show ((1 : Int)).toNat = 1 from rfl] at hx126_0); have hn126_0 : ad123.block ≠ gb102 := Kd.own_blk (Kd.R_ne HO122.out BK102.out z0_); replace hx126_0 := (cell_far (p := ⟨gb102, 1, none⟩) (by first | (rw [add_block]; exact hn126_0) | (show (Addr.add _ _).block ≠ _; rw [add_block]; exact hn126_0) | exact hn126_0) (.int .i64 t124)).trans hx126_0; clear hn126_0; replace p126 := eq_true p126; replace q126 := eq_true q126) | ((with_reducible refine gate_callee (f := 43) rfl ?_); refine gv 65 Tryz.func43 _ (impl_AddrGet.calls (w := _) (hG := gB) (h := A29.out)) ?_; intro w51 hb; replace HO122 := fS HO122 BK102 hb; replace BK101 := kS BK101 hb; replace BK102 := kP (.cells #[.int .i64 2, .int .i64 t124, .string ⟨#[]⟩, .string ⟨#[]⟩, .int .i64 0, .string ⟨#[]⟩, .string ⟨#[]⟩, .slice none 0 0, .slice none 0 0] 37 (0, 0)) BK102 hb; replace HB := bS hb; clear hb; have hcz52 := cz9 BK102.out; have hfz52 := fz9 BK102.out))
         go_meet
         case rel => exact ⟨_, (2), (t124), (t127), (t128), (0), ((⟨#[]⟩ : ByteArray)), ((⟨#[]⟩ : ByteArray)), (([] : List (S32))), (([] : List ByteArray)), (.slice none 0 0), (.slice none 0 0), H', ⟨by have := HJ20.out; first | omega | exact Nat.le_refl _⟩, ⟨zn⟩, ⟨zn⟩, ⟨kQ BK101⟩, ⟨kQ BK102⟩, ⟨zB⟩⟩
       ·have c27b1 : decide (1 < t120.length) = false := decide_eq_false (by omega)
        clear c27
        replace H := its_qn_qn H; rcases H with ⟨c53b0, c53b1, H⟩ | ⟨c53b0, c53b1, H⟩
        ·obtain ⟨ji54, hji54⟩ : ∃ j_ : Int, (wrap64 ((t120.length : Int) - 1)) = j_ := ⟨_, rfl⟩
         first | rw [hji54] at H | simp only [hji54] at H
         (try rw [hji54] at A24)
         (try rw [hji54] at A26)
         have hji54w : (IntKind.i64.wrap ((t120.length : Int) - 1)) = ji54 := (i64_w _).trans hji54
         replace H := itn_d H; obtain ⟨c55b0, H⟩ := H
         replace H := itn_d H; obtain ⟨c56b0, H⟩ := H
         replace H := bnd H; obtain ⟨⟨t134, t135⟩, A57, H⟩ := H
         dsimp only at H
         have H' := Aside0.mk H
         clear H
         go_wp2_with (first | ((with_reducible refine gate_callee (f := 42) rfl ?_); refine gl 48 Tryz.func42 _ ((strings_Split.calls (w := _) (hG := gB) (h := A24.out)).mono ?_); rintro e w58 ⟨v121, rfl, ho0, hb⟩; refine ⟨_, rfl, ?_⟩; have HO122 := lS ho0; replace BK101 := kS BK101 hb; replace BK102 := kS BK102 hb; replace HB := bS hb; clear hb ho0; have hnb59 := NB102_101.out; have hnc59 := NB101_102.out; have hcz60 := cz9 BK102.out; have hfz60 := fz9 BK102.out; obtain ⟨Ao61, co61, eo61⟩ := Kd.R_slice HO122.out; subst eo61; have p123 : 0 ≤ (0 : Int) := (by omega); have q123 : 0 < (t120.length : Int) := of_decide_eq_true za; obtain ⟨ad123, e123, hx123_0⟩ := Kd.at_string (Kd.R_reads' HO122.out).2.2 0 p123 q123; cases e123; have qi123 : (0 < t120.length) = True := eq_true (by omega); (try rw [show ((0 : Int)).toNat = 0 from rfl] at hx123_0); (try rw [Addr.add_zero'] at hx123_0); have hn123_0 : ad123.block ≠ gb102 := Kd.own_blk (Kd.R_ne HO122.out BK102.out z0_); replace hx123_0 := (cell_far (p := ⟨gb102, 0, none⟩) (by first | (rw [add_block]; exact hn123_0) | (show (Addr.add _ _).block ≠ _; rw [add_block]; exact hn123_0) | exact hn123_0) (.int .i64 2)).trans hx123_0; clear hn123_0; replace p123 := eq_true p123; replace q123 := eq_true q123) | ((with_reducible refine gate_callee (f := 40) rfl ?_); refine gv 54 Tryz.func40 _ (impl_decimal.calls (w := _) (hG := gB) (h := A26.out)) ?_; intro w62 hb; replace HO122 := fS HO122 BK102 hb; replace BK101 := kS BK101 hb; replace BK102 := kP (.cells #[.int .i64 2, .int .i64 0, .string ⟨#[]⟩, .string ⟨#[]⟩, .int .i64 0, .string ⟨#[]⟩, .string ⟨#[]⟩, .slice none 0 0, .slice none 0 0] 37 (0, 0)) BK102 hb; replace HB := bS hb; clear hb; have hcz63 := cz9 BK102.out; have hfz63 := fz9 BK102.out; have p133 : 0 ≤ ((ji54) : Int) := of_decide_eq_true za; have q133 : (ji54) < (t120.length : Int) := of_decide_eq_true za; obtain ⟨ad133, e133, hx133_0⟩ := Kd.at_string (Kd.R_reads' HO122.out).2.2 (ji54) p133 q133; obtain rfl : ad123 = ad133 := (by injection e133); have hn133_0 : ad123.block ≠ gb102 := Kd.own_blk (Kd.R_ne HO122.out BK102.out z0_); have hn133_1 : ad123.block ≠ gb102 := Kd.own_blk (Kd.R_ne HO122.out BK102.out z0_); replace hx133_0 := (cell_far (p := ⟨gb102, 1, none⟩) (by first | (rw [add_block]; exact hn133_0) | (show (Addr.add _ _).block ≠ _; rw [add_block]; exact hn133_0) | exact hn133_0) (.int .i64 t124)).trans hx133_0; replace hx133_0 := (cell_far (p := ⟨gb102, 0, none⟩) (by first | (rw [add_block]; exact hn133_1) | (show (Addr.add _ _).block ≠ _; rw [add_block]; exact hn133_1) | exact hn133_1) (.int .i64 3)).trans hx133_0; clear hn133_0 hn133_1; replace p133 := eq_true p133; replace q133 := eq_true q133) | ((with_reducible refine gate_callee (f := 40) rfl ?_); refine goesL_ (some 79) rfl rfl Tryz.func40 (by kernel_rfl) rfl #[.string (rdOf ByteArray.empty t120 (ji54))] rfl (by (try simp only [List.map_toArray, List.map_cons, List.map_nil]); first | done | (simp only [hji54]; rfl) | rfl | (simp only [List.length_drop, List.length_take]; rfl)) ?_; refine (impl_decimal.calls (w := _) (hG := gB) (h := A57.out)).mono ?_; rintro e w64 ⟨rfl, hb⟩; refine ⟨_, rfl, ?_⟩; replace HO122 := fS HO122 BK102 hb; replace BK101 := kS BK101 hb; replace BK102 := kP (.cells #[.int .i64 3, .int .i64 t124, .string ⟨#[]⟩, .string ⟨#[]⟩, .int .i64 0, .string ⟨#[]⟩, .string ⟨#[]⟩, .slice none 0 0, .slice none 0 0] 37 (0, 0)) BK102 hb; replace HB := bS hb; clear hb; have hcz65 := cz9 BK102.out; have hfz65 := fz9 BK102.out))
         go_meet
         case rel => exact ⟨_, (3), (t124), ((⟨#[]⟩ : ByteArray)), ((⟨#[]⟩ : ByteArray)), (t134), ((⟨#[]⟩ : ByteArray)), ((⟨#[]⟩ : ByteArray)), (([] : List (S32))), (([] : List ByteArray)), (.slice none 0 0), (.slice none 0 0), H', ⟨by have := HJ20.out; first | omega | exact Nat.le_refl _⟩, ⟨zn⟩, ⟨zn⟩, ⟨kQ BK101⟩, ⟨kQ BK102⟩, ⟨zB⟩⟩
        ·have H' := Aside0.mk H
         clear H
         go_wp2_with (first | ((with_reducible refine gate_callee (f := 42) rfl ?_); refine gl 48 Tryz.func42 _ ((strings_Split.calls (w := _) (hG := gB) (h := A24.out)).mono ?_); rintro e w66 ⟨v121, rfl, ho0, hb⟩; refine ⟨_, rfl, ?_⟩; have HO122 := lS ho0; replace BK101 := kS BK101 hb; replace BK102 := kS BK102 hb; replace HB := bS hb; clear hb ho0; have hnb67 := NB102_101.out; have hnc67 := NB101_102.out; have hcz68 := cz9 BK102.out; have hfz68 := fz9 BK102.out; obtain ⟨Ao69, co69, eo69⟩ := Kd.R_slice HO122.out; subst eo69; have p123 : 0 ≤ (0 : Int) := (by omega); have q123 : 0 < (t120.length : Int) := of_decide_eq_true za; obtain ⟨ad123, e123, hx123_0⟩ := Kd.at_string (Kd.R_reads' HO122.out).2.2 0 p123 q123; cases e123; have qi123 : (0 < t120.length) = True := eq_true (by omega); (try rw [show ((0 : Int)).toNat = 0 from rfl] at hx123_0); (try rw [Addr.add_zero'] at hx123_0); have hn123_0 : ad123.block ≠ gb102 := Kd.own_blk (Kd.R_ne HO122.out BK102.out z0_); replace hx123_0 := (cell_far (p := ⟨gb102, 0, none⟩) (by first | (rw [add_block]; exact hn123_0) | (show (Addr.add _ _).block ≠ _; rw [add_block]; exact hn123_0) | exact hn123_0) (.int .i64 2)).trans hx123_0; clear hn123_0; replace p123 := eq_true p123; replace q123 := eq_true q123) | ((with_reducible refine gate_callee (f := 40) rfl ?_); refine gv 54 Tryz.func40 _ (impl_decimal.calls (w := _) (hG := gB) (h := A26.out)) ?_; intro w70 hb; replace HO122 := fS HO122 BK102 hb; replace BK101 := kS BK101 hb; replace BK102 := kP (.cells #[.int .i64 2, .int .i64 0, .string ⟨#[]⟩, .string ⟨#[]⟩, .int .i64 0, .string ⟨#[]⟩, .string ⟨#[]⟩, .slice none 0 0, .slice none 0 0] 37 (0, 0)) BK102 hb; replace HB := bS hb; clear hb; have hcz71 := cz9 BK102.out; have hfz71 := fz9 BK102.out))
         go_meet
         case rel => exact ⟨_, (2), (t124), ((⟨#[]⟩ : ByteArray)), ((⟨#[]⟩ : ByteArray)), (0), ((⟨#[]⟩ : ByteArray)), ((⟨#[]⟩ : ByteArray)), (([] : List (S32))), (([] : List ByteArray)), (.slice none 0 0), (.slice none 0 0), H', ⟨by have := HJ20.out; first | omega | exact Nat.le_refl _⟩, ⟨zn⟩, ⟨zn⟩, ⟨kQ BK101⟩, ⟨kQ BK102⟩, ⟨zB⟩⟩
      ·have H' := Aside0.mk H
       clear H
       go_wp2
       go_meet
       case rel => exact ⟨_, (0), (0), ((⟨#[]⟩ : ByteArray)), ((⟨#[]⟩ : ByteArray)), (0), ((⟨#[]⟩ : ByteArray)), ((⟨#[]⟩ : ByteArray)), (([] : List (S32))), (([] : List ByteArray)), (.slice none 0 0), (.slice none 0 0), H', ⟨by have := HJ20.out; first | omega | exact Nat.le_refl _⟩, ⟨zn⟩, ⟨zn⟩, ⟨kQ BK101⟩, ⟨kQ BK102⟩, ⟨zB⟩⟩
  case rest =>
   clear HC6
   obtain ⟨kq, x103000_5, x103001_5, x103002_5, x103003_5, x103004_5, x103005_5, x103006_5, x103007_5, x103008_5, u103007, u103008, HA, HJ5, HO_103007, HO_103008, BK101, BK102, HB⟩ := hcut
   cases kq with
   | zero => exact absurd HA.out (by simp [impl_NoteGet.j1])
   | succ kj5 =>
    have H := HA.out
    clear HA
    simp only [impl_NoteGet.j1] at H
    replace H := bnd H; obtain ⟨t136, A72, H⟩ := H
    replace H := itb H; rcases H with ⟨rfl, H⟩ | ⟨rfl, H⟩
    ·replace H := bnd H; obtain ⟨t137, A74, H⟩ := H
     replace H := its_qn_qn H; rcases H with ⟨c75b0, c75b1, H⟩ | ⟨c75b0, c75b1, H⟩
     ·simp only [Option.some.injEq, Prod.mk.injEq] at H
      obtain ⟨rfl, rfl, rfl, rfl, rfl, rfl, rfl, rfl, rfl, rfl⟩ := H
      have hnb76 := NB102_101.out
      have hnc76 := NB101_102.out
      have hcz77 := cz9 BK102.out
      have hfz77 := fz9 BK102.out
      obtain ⟨Ao78, co78, eo78⟩ := Kd.R_slice HO_103007.out
      subst eo78
      obtain ⟨Ao79, co79, eo79⟩ := Kd.R_slice HO_103008.out
      subst eo79
      go_wp2_with (first | ((with_reducible refine gate_callee (f := 13) rfl ?_); refine gv 84 Tryz.func13 #[.agg #[.int .i64 x103000_5, .int .i64 x103001_5, .string x103002_5, .string x103003_5, .int .i64 x103004_5, .string x103005_5, .string x103006_5, .slice Ao78 x103007_5.length co78, .slice Ao79 x103008_5.length co79]] (impl_NoteOk.calls (w := _) (hG := gB) (hr0_7 := rC HO_103007) (hc0_7 := cL HO_103007) (hr0_8 := rC HO_103008) (hc0_8 := cL HO_103008) (h := A72.out)) ?_; intro w80 hb; replace HO_103007 := rS HO_103007 hb; replace HO_103008 := rS HO_103008 hb; replace BK101 := kS BK101 hb; replace BK102 := kS BK102 hb; replace HB := bS hb; clear hb; have hcz81 := cz9 BK102.out; have hfz81 := fz9 BK102.out) | (go_at_call 10; refine (impl_NotePut.calls (w := _) (hG := gB) (hr0_7 := rC HO_103007) (hc0_7 := cL HO_103007) (hr0_8 := rC HO_103008) (hc0_8 := cL HO_103008) (h := A74.out)).mono ?_; rintro e w82 ⟨rfl, hb⟩; replace HO_103007 := rS HO_103007 hb; replace HO_103008 := rS HO_103008 hb; replace BK101 := kS BK101 hb; replace BK102 := kS BK102 hb; replace HB := bS hb; clear hb; have hcz83 := cz9 BK102.out; have hfz83 := fz9 BK102.out; have hcz84 := cz9 BK101.out; have hfz84 := fz9 BK101.out))
      refine bodyPost_ret (results_ct rfl _ _ gb101 37 #[.int .i64 x103000_5, .int .i64 x103001_5, .string x103002_5, .string x103003_5, .int .i64 x103004_5, .string x103005_5, .string x103006_5, .slice Ao78 x103007_5.length co78, .slice Ao79 x103008_5.length co79] (0, 0) _ rfl (kQ BK101) Tryz.underlying37 rfl (by kernel_rfl)) rfl ?_
      exact ⟨_, _, zr, fM HO_103007 BK101 (fun _ hk => trivial), fM HO_103008 BK101 (fun _ hk => trivial), zB⟩
     ·simp only [Option.some.injEq, Prod.mk.injEq] at H
      obtain ⟨rfl, rfl, rfl, rfl, rfl, rfl, rfl, rfl, rfl, rfl⟩ := H
      have hnb85 := NB102_101.out
      have hnc85 := NB101_102.out
      have hcz86 := cz9 BK102.out
      have hfz86 := fz9 BK102.out
      obtain ⟨Ao87, co87, eo87⟩ := Kd.R_slice HO_103007.out
      subst eo87
      obtain ⟨Ao88, co88, eo88⟩ := Kd.R_slice HO_103008.out
      subst eo88
      go_wp2_with (first | ((with_reducible refine gate_callee (f := 13) rfl ?_); refine gv 84 Tryz.func13 #[.agg #[.int .i64 x103000_5, .int .i64 x103001_5, .string x103002_5, .string x103003_5, .int .i64 x103004_5, .string x103005_5, .string x103006_5, .slice Ao87 x103007_5.length co87, .slice Ao88 x103008_5.length co88]] (impl_NoteOk.calls (w := _) (hG := gB) (hr0_7 := rC HO_103007) (hc0_7 := cL HO_103007) (hr0_8 := rC HO_103008) (hc0_8 := cL HO_103008) (h := A72.out)) ?_; intro w89 hb; replace HO_103007 := rS HO_103007 hb; replace HO_103008 := rS HO_103008 hb; replace BK101 := kS BK101 hb; replace BK102 := kS BK102 hb; replace HB := bS hb; clear hb; have hcz90 := cz9 BK102.out; have hfz90 := fz9 BK102.out) | (go_at_call 10; refine (impl_NotePut.calls (w := _) (hG := gB) (hr0_7 := rC HO_103007) (hc0_7 := cL HO_103007) (hr0_8 := rC HO_103008) (hc0_8 := cL HO_103008) (h := A74.out)).mono ?_; rintro e w91 ⟨rfl, hb⟩; replace HO_103007 := rS HO_103007 hb; replace HO_103008 := rS HO_103008 hb; replace BK101 := kS BK101 hb; replace BK102 := kS BK102 hb; replace HB := bS hb; clear hb; have hcz92 := cz9 BK101.out; have hfz92 := fz9 BK101.out))
      refine bodyPost_ret (results_ct rfl _ _ gb101 37 #[.int .i64 0, .int .i64 0, .string (⟨#[]⟩ : ByteArray), .string (⟨#[]⟩ : ByteArray), .int .i64 0, .string (⟨#[]⟩ : ByteArray), .string (⟨#[]⟩ : ByteArray), .slice none 0 0, .slice none 0 0] (0, 0) _ rfl (kQ BK101) Tryz.underlying37 rfl (by kernel_rfl)) rfl ?_
      exact ⟨_, _, zr, zn, zn, zB⟩
    ·simp only [Option.some.injEq, Prod.mk.injEq] at H
     obtain ⟨rfl, rfl, rfl, rfl, rfl, rfl, rfl, rfl, rfl, rfl⟩ := H
     have hnb93 := NB102_101.out
     have hnc93 := NB101_102.out
     have hcz94 := cz9 BK102.out
     have hfz94 := fz9 BK102.out
     obtain ⟨Ao95, co95, eo95⟩ := Kd.R_slice HO_103007.out
     subst eo95
     obtain ⟨Ao96, co96, eo96⟩ := Kd.R_slice HO_103008.out
     subst eo96
     go_wp2_with (first | ((with_reducible refine gate_callee (f := 13) rfl ?_); refine gv 84 Tryz.func13 #[.agg #[.int .i64 x103000_5, .int .i64 x103001_5, .string x103002_5, .string x103003_5, .int .i64 x103004_5, .string x103005_5, .string x103006_5, .slice Ao95 x103007_5.length co95, .slice Ao96 x103008_5.length co96]] (impl_NoteOk.calls (w := _) (hG := gB) (hr0_7 := rC HO_103007) (hc0_7 := cL HO_103007) (hr0_8 := rC HO_103008) (hc0_8 := cL HO_103008) (h := A72.out)) ?_; intro w97 hb; replace HO_103007 := rS HO_103007 hb; replace HO_103008 := rS HO_103008 hb; replace BK101 := kS BK101 hb; replace BK102 := kS BK102 hb; replace HB := bS hb; clear hb; have hcz98 := cz9 BK101.out; have hfz98 := fz9 BK101.out))
     refine bodyPost_ret (results_ct rfl _ _ gb101 37 #[.int .i64 0, .int .i64 0, .string (⟨#[]⟩ : ByteArray), .string (⟨#[]⟩ : ByteArray), .int .i64 0, .string (⟨#[]⟩ : ByteArray), .string (⟨#[]⟩ : ByteArray), .slice none 0 0, .slice none 0 0] (0, 0) _ rfl (kQ BK101) Tryz.underlying37 rfl (by kernel_rfl)) rfl ?_
     exact ⟨_, _, zr, zn, zn, zB⟩
end Go.Proofs.YtbncnjgflhoneaaGreatDoor.F
namespace Go.Proofs.YtbncnjgflhoneaaGreatDoor.F
open Go.RowKit Go.Proofs.YtbncnjgflhoneaaGreatDoor.Hand Go.Proofs.YtbncnjgflhoneaaGreatDoorW.PrintWords Go.Proofs.YtbncnjgflhoneaaGreatDoorW.PrintLast Go.Proofs.YtbncnjgflhoneaaGreatDoorW.PrintMore
set_option linter.unusedVariables false
set_option linter.unusedSimpArgs false
end Go.Proofs.YtbncnjgflhoneaaGreatDoor.F
namespace Go.Proofs.YtbncnjgflhoneaaGreatDoor.Hand
open Go.RowKit Go.Proofs.YtbncnjgflhoneaaGreatDoor.F Go.Proofs.YtbncnjgflhoneaaGreatDoorW.PrintWords Go.Proofs.YtbncnjgflhoneaaGreatDoorW.PrintLast Go.Proofs.YtbncnjgflhoneaaGreatDoorW.PrintMore
abbrev NoteV : Type := Int × Int × ByteArray × ByteArray × Int × ByteArray × ByteArray × List S32 × List ByteArray
abbrev NoteR : Type := Int × Int × ByteArray × ByteArray × Int × ByteArray × ByteArray × List S32 × List ByteArray × Bool
def zeroR : NoteR := (0, 0, B [], B [], 0, B [], B [], [], [], false)
def zeroN : NoteV := (0, 0, B [], B [], 0, B [], B [], [], [])
def okC (l : List UInt8) (kind id : Int) (au ad : ByteArray) (now : Int) (u d : ByteArray) (ts : List S32) (body : List ByteArray) : Bool := noteB kind id au ad now u d ts body && decide (noteT kind id au ad now u d ts body = l)
def finC (l : List UInt8) (kind id : Int) (au ad : ByteArray) (now : Int) (u d : ByteArray) (ts : List S32) (body : List ByteArray) : NoteR := if okC l kind id au ad now u d ts body = true then (kind, id, au, ad, now, u, d, ts, body, true) else zeroR
def SmallC (au ad u d : ByteArray) (ts : List S32) (body : List ByteArray) : Prop := Short u d ts body ∧ au.size ≤ 1073741824 ∧ ad.size ≤ 1073741824
def finR (l : List UInt8) (n : NoteV) : NoteR := finC l n.1 n.2.1 n.2.2.1 n.2.2.2.1 n.2.2.2.2.1 n.2.2.2.2.2.1 n.2.2.2.2.2.2.1 n.2.2.2.2.2.2.2.1 n.2.2.2.2.2.2.2.2
theorem bare_empty {u d : ByteArray} {ts : List S32} {body : List ByteArray} (h : bareB u d ts body = true) : u = B [] ∧ d = B [] ∧ ts = [] ∧ body = [] := by
 unfold bareB at h
 rw [Bool.and_eq_true, Bool.and_eq_true] at h
 obtain ⟨h1, h2, h3⟩ := h
 obtain ⟨hu, hd⟩ := null_empty h1
 exact ⟨hu, hd, List.eq_nil_of_length_eq_zero (of_decide_eq_true h2), List.eq_nil_of_length_eq_zero (of_decide_eq_true h3)⟩
theorem bare_short : Short (B []) (B []) [] [] := ⟨by decide, by decide, fun x h => absurd h (by simp), fun x h => absurd h (by simp), by simp, by simp⟩
theorem ij1_tells (s : ByteArray) (kind id : Int) (au ad : ByteArray) (now : Int) (u d : ByteArray) (ts : List S32) (body : List ByteArray) (h : SmallC au ad u d ts body) :
  Ev (fun k => impl_NoteGet.j1 k s kind id au ad now u d ts body) (finC s.data.toList kind id au ad now u d ts body) := by
 obtain ⟨hs, hau, had⟩ := h
 have hn := pnote_tells kind id au ad now u d ts body hs had
 have hp := pNotePut_tells kind id au ad now u d ts body hs hau had
 unfold finC okC
 refine Ev.step (f := fun k => (impl_NoteOk.f k kind id au ad now u d ts body).bind fun t136 => (if t136 = true then ((impl_NotePut.f k kind id au ad now u d ts body).bind fun t137 => (if t137.toList = s.toList then (some (kind, id, au, ad, now, u, d, ts, body, true)) else (some zeroR))) else (some zeroR))) (fun k => by rw [impl_NoteGet.j1]; rfl) ?_
 cases hb : noteB kind id au ad now u d ts body
 ·rw [hb] at hn
  exact Ev.call hn (h := fun _ => some zeroR) (fun k => if_neg (by decide)) (Ev.now _)
 ·rw [hb] at hn
  unfold putB at hp
  rw [if_pos hb] at hp
  refine Ev.call hn (fun k => if_pos rfl) (Ev.call hp (h := fun _ => some (if (true && decide (noteT kind id au ad now u d ts body = s.data.toList)) = true then (kind, id, au, ad, now, u, d, ts, body, true) else zeroR)) (fun k => ?_) (Ev.now _))
  rw [B_toList, toL, Bool.true_and]
  by_cases hq : noteT kind id au ad now u d ts body = s.data.toList
  ·rw [if_pos hq, if_pos (decide_eq_true hq)]
  ·rw [if_neg hq, if_neg (by simpa using hq)]
theorem psplit_one (s : ByteArray) (hs : s.size ≤ 1073741824) (c : UInt8) : strings_Split.f s (⟨#[c]⟩ : ByteArray) = some ((cutAt c s.data.toList).map B) := by
 unfold strings_Split.f
 rw [if_pos ⟨by omega, Nat.le_refl 1⟩]
 exact congrArg some (map_B _ _ (split_one c s.size s (Nat.le_refl _)))
theorem cutAt_le (c : UInt8) : ∀ l : List UInt8, ∀ x ∈ cutAt c l, x.length ≤ l.length
 | [], x, hx => by
  rw [cutAt, List.mem_singleton] at hx
  subst hx
  exact Nat.le_refl _
 | a :: l, x, hx => by
  rw [cutAt] at hx
  by_cases e : a = c
  ·rw [if_pos e] at hx
   rcases List.mem_cons.1 hx with rfl | hx
   ·exact Nat.zero_le _
   ·have := cutAt_le c l x hx
    rw [List.length_cons]
    omega
  ·rw [if_neg e] at hx
   have := front_le [a] _ _ (cutAt_le c l) x hx
   simpa using this
def wordsI (l : List UInt8) : List (List UInt8) := cutAt 32 (Lib.cut l [32]).2.1
def addrW (w : List (List UInt8)) : ByteArray × ByteArray × Bool := if 1 < w.length then addrI (w.getD 1 []) else (B [], B [], false)
def noteI (l : List UInt8) : NoteV :=
 if (Lib.cut l [32]).1 = [97, 100, 100] then (1, 0, B [], B [], (decV (Lib.cut (Lib.cut l [32]).2.1 [10]).1).1, (mailI (Lib.cut (Lib.cut l [32]).2.1 [10]).2.1).1, (mailI (Lib.cut (Lib.cut l [32]).2.1 [10]).2.1).2.1, (mailI (Lib.cut (Lib.cut l [32]).2.1 [10]).2.1).2.2.1, (mailI (Lib.cut (Lib.cut l [32]).2.1 [10]).2.1).2.2.2.1)
 else if (Lib.cut l [32]).1 = [100, 111, 110, 101] then (2, (decV ((wordsI l).getD 0 [])).1, (addrW (wordsI l)).1, (addrW (wordsI l)).2.1, 0, B [], B [], [], [])
 else if (Lib.cut l [32]).1 = [108, 97, 116, 101, 114] then (3, (decV ((wordsI l).getD 0 [])).1, (addrW (wordsI l)).1, (addrW (wordsI l)).2.1, (decV ((wordsI l).getD ((wordsI l).length - 1) [])).1, B [], B [], [], [])
 else zeroN
theorem pdec_tells (l : List UInt8) (h : l.length ≤ 1073741824) : impl_decimal.f (B l) = some (decV l) := by
 unfold impl_decimal.f
 rw [if_pos (by rw [B_size]; omega), B_data]
theorem rd_word (w : List (List UInt8)) (i : Nat) (h : i < w.length) : rdOf ByteArray.empty (w.map B) (i : Int) = B (w.getD i []) := by
 rw [rdOf_mem' _ _ i (by rw [List.length_map]; exact h), List.getElem_map, List.getD_eq_getElem?_getD, List.getElem?_eq_getElem h]
 rfl
theorem getD_le (w : List (List UInt8)) (n : Nat) (h : ∀ x ∈ w, x.length ≤ n) (i : Nat) : (w.getD i []).length ≤ n := by
 rw [List.getD_eq_getElem?_getD]
 cases hq : w[i]? with
 | none => exact Nat.zero_le _
 | some x => exact h x (List.mem_of_getElem? hq)
theorem words_count (c : UInt8) (l : List UInt8) : (cutAt c l).length ≤ l.length + 1 := by
 rw [cutAt_sum c l]
 generalize cutAt c l = w
 induction w with
 | nil => exact Nat.le_refl _
 | cons x w ih => rw [List.map_cons, List.sum_cons, List.length_cons]; omega
theorem addrW_small (w : List (List UInt8)) (h : ∀ x ∈ w, x.length ≤ 820) : (addrW w).1.size ≤ 1073741824 ∧ (addrW w).2.1.size ≤ 1073741824 := by
 unfold addrW
 split
 ·have h1 := addrI_le (w.getD 1 [])
  have h2 := getD_le w 820 h 1
  exact ⟨by omega, by omega⟩
 ·exact ⟨by decide, by decide⟩
theorem ij0_tells (s : ByteArray) (word rest : List UInt8) (hr : rest.length ≤ 820) (late : Bool) (hw : late = true ↔ word = [108, 97, 116, 101, 114]) :
  Ev (fun k => impl_NoteGet.j0 k s (B word) (B rest) true 0 0 (B []) (B []) 0 (B []) (B [])) (finC s.data.toList (if late = true then 3 else 2) (decV ((cutAt 32 rest).getD 0 [])).1 (addrW (cutAt 32 rest)).1 (addrW (cutAt 32 rest)).2.1 (if late = true then (decV ((cutAt 32 rest).getD ((cutAt 32 rest).length - 1) [])).1 else 0) (B []) (B []) [] []) := by
 have hne := List.length_pos_iff.2 (cutAt_ne 32 rest)
 have hle := cutAt_le 32 rest
 have hlen := words_count 32 rest
 have hsm := addrW_small (cutAt 32 rest) (fun x hx => by have := hle x hx; omega)
 have base : ∀ k, impl_NoteGet.j0 (k + 1) s (B word) (B rest) true 0 0 (B []) (B []) 0 (B []) (B []) = ((some ((cutAt 32 rest).map B) : Option (List ByteArray))).bind fun t120 => (if 0 < (t120.length : Int) then ((impl_decimal.f (rdOf ByteArray.empty t120 0)).bind fun bt124 => (if (t120.length : Int) > 1 then (if 1 < (t120.length : Int) then ((impl_AddrGet.f k (rdOf ByteArray.empty t120 1)).bind fun bt127 => (if (B word).toList = ([108, 97, 116, 101, 114] : List UInt8) then (if 0 ≤ (wrap64 ((t120.length : Int) - 1)) then (if (wrap64 ((t120.length : Int) - 1)) < (t120.length : Int) then ((impl_decimal.f (rdOf ByteArray.empty t120 (wrap64 ((t120.length : Int) - 1)))).bind fun bt131 => (impl_NoteGet.j1 k s 3 bt124.1 bt127.1 bt127.2.1 bt131.1 (B []) (B []) ([] : List (S32)) ([] : List ByteArray))) else (none)) else (none)) else (impl_NoteGet.j1 k s 2 bt124.1 bt127.1 bt127.2.1 0 (B []) (B []) ([] : List (S32)) ([] : List ByteArray)))) else (none)) else (if (B word).toList = ([108, 97, 116, 101, 114] : List UInt8) then (if 0 ≤ (wrap64 ((t120.length : Int) - 1)) then (if (wrap64 ((t120.length : Int) - 1)) < (t120.length : Int) then ((impl_decimal.f (rdOf ByteArray.empty t120 (wrap64 ((t120.length : Int) - 1)))).bind fun bt134 => (impl_NoteGet.j1 k s 3 bt124.1 (B []) (B []) bt134.1 (B []) (B []) ([] : List (S32)) ([] : List ByteArray))) else (none)) else (none)) else (impl_NoteGet.j1 k s 2 bt124.1 (B []) (B []) 0 (B []) (B []) ([] : List (S32)) ([] : List ByteArray))))) else (none)) := fun k => by
  rw [impl_NoteGet.j0, if_pos rfl, psplit_one (B rest) (by rw [B_size]; omega), B_data]
 revert base hsm hlen hle hne
 generalize cutAt 32 rest = w
 intro hne hle hlen hsm base
 have hd : ∀ i, (w.getD i []).length ≤ 820 := fun i => getD_le w _ (fun x hx => by have := hle x hx; omega) i
 have hml : (w.map B).length = w.length := List.length_map ..
 have hr0 : rdOf ByteArray.empty (w.map B) 0 = B (w.getD 0 []) := rd_word w 0 hne
 have hrl : rdOf ByteArray.empty (w.map B) (((w.map B).length : Int) - 1) = B (w.getD (w.length - 1) []) := by
  rw [show ((w.map B).length : Int) - 1 = ((w.length - 1 : Nat) : Int) by omega]
  exact rd_word w _ (by omega)
 have hwr : wrap64 (((w.map B).length : Int) - 1) = ((w.map B).length : Int) - 1 := wrapIn (by omega) (by omega)
 have d0 := pdec_tells (w.getD 0 []) (by have := hd 0; omega)
 have dl := pdec_tells (w.getD (w.length - 1) []) (by have := hd (w.length - 1); omega)
 unfold addrW at hsm ⊢
 by_cases h1 : 1 < w.length
 ·have hr1 : rdOf ByteArray.empty (w.map B) 1 = B (w.getD 1 []) := rd_word w 1 h1
  have ha := iaddr_tells (B (w.getD 1 [])) (by rw [B_size]; have := hd 1; omega)
  rw [B_data] at ha
  rw [if_pos h1] at hsm ⊢
  cases hl : late
  ·have hl' : ¬ word = [108, 97, 116, 101, 114] := fun e => by have := hw.2 e; rw [hl] at this; cases this
   refine Ev.step (f := fun k => (impl_AddrGet.f k (B (w.getD 1 []))).bind fun bt127 => (impl_NoteGet.j1 k s 2 (decV (w.getD 0 [])).1 bt127.1 bt127.2.1 0 (B []) (B []) [] [])) (fun k => ?_) (Ev.bind ha (ij1_tells s 2 _ _ _ 0 (B []) (B []) [] [] ⟨bare_short, hsm⟩))
   rw [base, Option.bind_some, if_pos (by omega), hr0, d0, Option.bind_some, if_pos (by omega), if_pos (by omega), hr1, B_toList]
   refine congrArg _ (funext fun x => ?_)
   exact if_neg hl'
  ·have hl' : word = [108, 97, 116, 101, 114] := hw.1 hl
   refine Ev.step (f := fun k => (impl_AddrGet.f k (B (w.getD 1 []))).bind fun bt127 => (impl_NoteGet.j1 k s 3 (decV (w.getD 0 [])).1 bt127.1 bt127.2.1 (decV (w.getD (w.length - 1) [])).1 (B []) (B []) [] [])) (fun k => ?_) (Ev.bind ha (ij1_tells s 3 _ _ _ _ (B []) (B []) [] [] ⟨bare_short, hsm⟩))
   rw [base, Option.bind_some, if_pos (by omega), hr0, d0, Option.bind_some, if_pos (by omega), if_pos (by omega), hr1, B_toList]
   refine congrArg _ (funext fun x => ?_)
   rw [if_pos hl', hwr, if_pos (by omega), if_pos (by omega), hrl, dl, Option.bind_some]
 ·rw [if_neg h1] at hsm ⊢
  cases hl : late
  ·have hl' : ¬ word = [108, 97, 116, 101, 114] := fun e => by have := hw.2 e; rw [hl] at this; cases this
   refine Ev.step (f := fun k => impl_NoteGet.j1 k s 2 (decV (w.getD 0 [])).1 (B []) (B []) 0 (B []) (B []) [] []) (fun k => ?_) (ij1_tells s 2 _ _ _ 0 (B []) (B []) [] [] ⟨bare_short, hsm⟩)
   rw [base, Option.bind_some, if_pos (by omega), hr0, d0, Option.bind_some, if_neg (by omega), B_toList, if_neg hl']
  ·have hl' : word = [108, 97, 116, 101, 114] := hw.1 hl
   refine Ev.step (f := fun k => impl_NoteGet.j1 k s 3 (decV (w.getD 0 [])).1 (B []) (B []) (decV (w.getD (w.length - 1) [])).1 (B []) (B []) [] []) (fun k => ?_) (ij1_tells s 3 _ _ _ _ (B []) (B []) [] [] ⟨bare_short, hsm⟩)
   rw [base, Option.bind_some, if_pos (by omega), hr0, d0, Option.bind_some, if_neg (by omega), B_toList, if_pos hl', hwr, if_pos (by omega), if_pos (by omega), hrl, dl, Option.bind_some]
theorem inote_tells (s : ByteArray) : Ev (fun k => impl_NoteGet.f k s) (if s.data.toList.length > 820 then zeroR else finR s.data.toList (noteI s.data.toList)) := by
 have hl := data_length s
 by_cases h8 : s.size > 820
 ·rw [if_pos (by omega)]
  refine Ev.congr (f := fun _ => some zeroR) (fun k => ?_) (Ev.now _)
  unfold impl_NoteGet.f
  rw [if_pos (by omega)]
  rfl
 rw [if_neg (by omega)]
 have hc := cut_le [32] s.data.toList
 have step : ∀ k, impl_NoteGet.f k s = (strings_Cut.f s (⟨#[32]⟩ : ByteArray)).bind fun bt103 => (if bt103.1.toList = ([97, 100, 100] : List UInt8) then ((strings_Cut.f bt103.2.1 (⟨#[10]⟩ : ByteArray)).bind fun bt106 => ((impl_decimal.f bt106.1).bind fun bt109 => ((impl_MailGet.f k bt106.2.1).bind fun bt111 => (impl_NoteGet.j1 k s 1 0 (⟨#[]⟩ : ByteArray) (⟨#[]⟩ : ByteArray) bt109.1 bt111.1 bt111.2.1 bt111.2.2.1 bt111.2.2.2.1)))) else (if bt103.1.toList = ([100, 111, 110, 101] : List UInt8) then (impl_NoteGet.j0 k s bt103.1 bt103.2.1 (bt103.1.toList == ([100, 111, 110, 101] : List UInt8)) 0 0 (⟨#[]⟩ : ByteArray) (⟨#[]⟩ : ByteArray) 0 (⟨#[]⟩ : ByteArray) (⟨#[]⟩ : ByteArray)) else (impl_NoteGet.j0 k s bt103.1 bt103.2.1 (bt103.1.toList == ([108, 97, 116, 101, 114] : List UInt8)) 0 0 (⟨#[]⟩ : ByteArray) (⟨#[]⟩ : ByteArray) 0 (⟨#[]⟩ : ByteArray) (⟨#[]⟩ : ByteArray)))) := fun k => by
  unfold impl_NoteGet.f
  rw [if_neg (by omega)]
 have e : strings_Cut.f s (⟨#[32]⟩ : ByteArray) = some (B (Lib.cut s.data.toList [32]).1, B (Lib.cut s.data.toList [32]).2.1, (Lib.cut s.data.toList [32]).2.2) := pcut_tells s _ (by omega)
 refine Ev.congr (fun k => (step k).trans (by rw [e, Option.bind_some, B_toList])) ?_
 unfold noteI wordsI
 generalize Lib.cut s.data.toList [32] = c at *
 obtain ⟨word, rest, fl⟩ := c
 have hc1 : rest.length ≤ 820 := by
  have h2 : rest.length ≤ s.data.toList.length := hc.2
  omega
 have hc2 := cut_le [10] rest
 show Ev (fun k => if word = [97, 100, 100] then ((strings_Cut.f (B rest) (⟨#[10]⟩ : ByteArray)).bind _) else _) (finR s.data.toList (if word = [97, 100, 100] then _ else if word = [100, 111, 110, 101] then _ else if word = [108, 97, 116, 101, 114] then _ else zeroN))
 by_cases hA : word = [97, 100, 100]
 ·rw [if_pos hA]
  have e2 : strings_Cut.f (B rest) (⟨#[10]⟩ : ByteArray) = some (B (Lib.cut rest [10]).1, B (Lib.cut rest [10]).2.1, (Lib.cut rest [10]).2.2) := by
   have := pcut_tells (B rest) (⟨#[10]⟩ : ByteArray) (by rw [B_size]; omega)
   rw [B_data] at this
   exact this
  have e3 := pdec_tells (Lib.cut rest [10]).1 (by omega)
  have hm := imailget_tells (B (Lib.cut rest [10]).2.1)
  rw [B_data] at hm
  refine Ev.congr (f := fun k => (impl_MailGet.f k (B (Lib.cut rest [10]).2.1)).bind fun bt111 => (impl_NoteGet.j1 k s 1 0 (B []) (B []) (decV (Lib.cut rest [10]).1).1 bt111.1 bt111.2.1 bt111.2.2.1 bt111.2.2.2.1)) (fun k => ?_) (Ev.bind hm (ij1_tells s 1 0 (B []) (B []) _ _ _ _ _ ⟨mailI_short _, by decide, by decide⟩))
  refine (if_pos hA).trans ?_
  rw [e2, Option.bind_some]
  show (impl_decimal.f (B (Lib.cut rest [10]).1)).bind _ = _
  rw [e3, Option.bind_some]
  rfl
 rw [if_neg hA]
 by_cases hD : word = [100, 111, 110, 101]
 ·rw [if_pos hD]
  have h := ij0_tells s word rest hc1 false (by rw [hD]; decide)
  refine Ev.congr (fun k => ?_) h
  refine (if_neg hA).trans ((if_pos hD).trans ?_)
  show impl_NoteGet.j0 k s (B word) (B rest) (word == _) 0 0 _ _ 0 _ _ = _
  rw [show (word == ([100, 111, 110, 101] : List UInt8)) = true from beq_iff_eq.2 hD]
  rfl
 rw [if_neg hD]
 by_cases hL : word = [108, 97, 116, 101, 114]
 ·rw [if_pos hL]
  have h := ij0_tells s word rest hc1 true (by rw [hL]; decide)
  refine Ev.congr (fun k => ?_) h
  refine (if_neg hA).trans ((if_neg hD).trans ?_)
  show impl_NoteGet.j0 k s (B word) (B rest) (word == _) 0 0 _ _ 0 _ _ = _
  rw [show (word == ([108, 97, 116, 101, 114] : List UInt8)) = true from beq_iff_eq.2 hL]
  rfl
 ·rw [if_neg hL]
  have h := ij1_tells s 0 0 (B []) (B []) 0 (B []) (B []) [] [] ⟨bare_short, by decide, by decide⟩
  refine Ev.congr (fun k => ?_) (Ev.step (g := fun k => impl_NoteGet.j0 k s (B word) (B rest) false 0 0 (B []) (B []) 0 (B []) (B [])) (fun k => by rw [impl_NoteGet.j0, if_neg (by decide)]) h)
  refine (if_neg hA).trans ((if_neg hD).trans ?_)
  show impl_NoteGet.j0 k s (B word) (B rest) (word == _) 0 0 _ _ 0 _ _ = _
  rw [show (word == ([108, 97, 116, 101, 114] : List UInt8)) = false from beq_eq_false_iff_ne.2 hL]
  rfl
theorem not_sign {l : List UInt8} {c : UInt8} (h : ∀ x ∈ l, 48 ≤ x.toNat ∧ x.toNat ≤ 57) (hc : c.toNat < 48) : c ∉ l := fun hx => by have := h c hx; omega
theorem not_addr {u d : ByteArray} (h : addrB u d = true) {c : UInt8} (hc : plainB c = false) : c ∉ addrT u d := fun hx => by
 have := addr_signs (u := u) (d := d) (by rw [h, Bool.or_true]) c hx
 rw [hc] at this
 cases this
theorem noteI_text {kind id : Int} {au ad : ByteArray} {now : Int} {u d : ByteArray} {ts : List S32} {body : List ByteArray} (h : noteB kind id au ad now u d ts body = true) : noteI (noteT kind id au ad now u d ts body) = (kind, id, au, ad, now, u, d, ts, body) := by
 rcases note_parts h with ⟨rfl, hm, n0, n9, rfl, hn⟩ | ⟨rfl, hb, i1, i9, ha, rfl⟩ | ⟨rfl, hb, i1, i9, ha, n0, n9⟩
 ·obtain ⟨rfl, rfl⟩ := null_empty hn
  have e : noteT 1 0 (B []) (B []) now u d ts body = [97, 100, 100] ++ 32 :: (Lib.itoa now ++ 10 :: mailT u d ts body) := rfl
  have c1 : Lib.cut (noteT 1 0 (B []) (B []) now u d ts body) [32] = ([97, 100, 100], Lib.itoa now ++ 10 :: mailT u d ts body, true) := by rw [e]; exact cut_one 32 _ _ (by decide)
  have c2 : Lib.cut (Lib.itoa now ++ 10 :: mailT u d ts body) [10] = (Lib.itoa now, mailT u d ts body, true) := cut_one 10 _ _ (not_sign (itoa_signs now n0 n9) (by decide))
  unfold noteI
  rw [c1, if_pos rfl]
  show (1, 0, B [], B [], (decV (Lib.cut (Lib.itoa now ++ 10 :: mailT u d ts body) [10]).1).1, _) = _
  rw [c2]
  show (1, 0, B [], B [], (decV (Lib.itoa now)).1, (mailI (mailT u d ts body)).1, _) = _
  rw [decV_text now n0 n9, mailI_text hm (mailT_small hm)]
 ·obtain ⟨rfl, rfl, rfl, rfl⟩ := bare_empty hb
  have e : noteT 2 id au ad 0 (B []) (B []) [] [] = [100, 111, 110, 101] ++ 32 :: (Lib.itoa id ++ 32 :: addrT au ad) := rfl
  have c1 : Lib.cut (noteT 2 id au ad 0 (B []) (B []) [] []) [32] = ([100, 111, 110, 101], Lib.itoa id ++ 32 :: addrT au ad, true) := by rw [e]; exact cut_one 32 _ _ (by decide)
  have hw : wordsI (noteT 2 id au ad 0 (B []) (B []) [] []) = [Lib.itoa id, addrT au ad] := by
   unfold wordsI
   rw [c1]
   show cutAt 32 (Lib.itoa id ++ 32 :: addrT au ad) = _
   rw [cutAt_one 32 _ _ (not_sign (itoa_signs id (by omega) (by omega)) (by decide)), cutAt_no 32 _ (not_addr ha (by decide))]
  unfold noteI
  rw [c1, if_neg (show ¬ ([100, 111, 110, 101] : List UInt8) = [97, 100, 100] by decide), if_pos rfl, hw]
  show (2, (decV (Lib.itoa id)).1, (addrI (addrT au ad)).1, (addrI (addrT au ad)).2.1, _) = _
  rw [decV_text id (by omega) (by omega), addrI_text (by rw [ha, Bool.or_true])]
 ·obtain ⟨rfl, rfl, rfl, rfl⟩ := bare_empty hb
  have e : noteT 3 id au ad now (B []) (B []) [] [] = [108, 97, 116, 101, 114] ++ 32 :: (Lib.itoa id ++ 32 :: (addrT au ad ++ 32 :: Lib.itoa now)) := rfl
  have c1 : Lib.cut (noteT 3 id au ad now (B []) (B []) [] []) [32] = ([108, 97, 116, 101, 114], Lib.itoa id ++ 32 :: (addrT au ad ++ 32 :: Lib.itoa now), true) := by rw [e]; exact cut_one 32 _ _ (by decide)
  have hw : wordsI (noteT 3 id au ad now (B []) (B []) [] []) = [Lib.itoa id, addrT au ad, Lib.itoa now] := by
   unfold wordsI
   rw [c1]
   show cutAt 32 (Lib.itoa id ++ 32 :: (addrT au ad ++ 32 :: Lib.itoa now)) = _
   rw [cutAt_one 32 _ _ (not_sign (itoa_signs id (by omega) (by omega)) (by decide)), cutAt_one 32 _ _ (not_addr ha (by decide)), cutAt_no 32 _ (not_sign (itoa_signs now n0 n9) (by decide))]
  unfold noteI
  rw [c1, if_neg (show ¬ ([108, 97, 116, 101, 114] : List UInt8) = [97, 100, 100] by decide), if_neg (show ¬ ([108, 97, 116, 101, 114] : List UInt8) = [100, 111, 110, 101] by decide), if_pos rfl, hw]
  show (3, (decV (Lib.itoa id)).1, (addrI (addrT au ad)).1, (addrI (addrT au ad)).2.1, (decV (Lib.itoa now)).1, _) = _
  rw [decV_text id (by omega) (by omega), decV_text now n0 n9, addrI_text (by rw [ha, Bool.or_true])]
end Go.Proofs.YtbncnjgflhoneaaGreatDoor.Hand
namespace Go.Proofs.YtbncnjgflhoneaaGreatDoor.F
open Go.RowKit Go.Proofs.YtbncnjgflhoneaaGreatDoor.Hand Go.Proofs.YtbncnjgflhoneaaGreatDoorW.PrintWords Go.Proofs.YtbncnjgflhoneaaGreatDoorW.PrintLast Go.Proofs.YtbncnjgflhoneaaGreatDoorW.PrintMore
set_option linter.unusedVariables false
set_option linter.unusedSimpArgs false
attribute [local go_sem high] eqA32
def laws_saAddrs.l0 : Nat → List (S32) → List (S32) → Int → Option (Bool)
 | 0, _, _, _ => none
 | k + 1, x0, x1, x5 => if x5 < (x0.length : Int) then (if 0 ≤ x5 then (if x5 < (x1.length : Int) then (if (!((((rd_T32 x0 x5).f0).toList) == (((rd_T32 x1 x5).f0).toList)) || (!((((rd_T32 x0 x5).f1).toList) == (((rd_T32 x1 x5).f1).toList)))) = true then (some false) else (laws_saAddrs.l0 k x0 x1 (wrap64 (x5 + 1)))) else (none)) else (none)) else (some true)
def laws_saAddrs.f (k : Nat) (l0 : List (S32)) (l1 : List (S32)) : Option (Bool) := if (l0.length : Int) = (l1.length : Int) then (laws_saAddrs.l0 k l0 l1 0) else (some false)
set_option maxHeartbeats 8000000 in
set_option maxRecDepth 100000 in
theorem laws_saAddrs.calls (k : Nat) (A0 : Option Addr) (c0 : Nat) (l0 : List (S32)) (A1 : Option Addr) (c1 : Nat) (l1 : List (S32)) (r : Bool) (w : World) (hr0 : Kd.C k32 w A0 l0.length l0) (hc0 : l0.length ≤ c0) (hr1 : Kd.C k32 w A1 l1.length l1) (hc1 : l1.length ≤ c1) (h : laws_saAddrs.f k l0 l1 = some r) :
  Calls Tryz.prog 82 #[.slice A0 l0.length c0, .slice A1 l1.length c1] w fun e w' => e = .returned (.bool r) ∧ Drawn0 w w' := by
 have hu32 := Tryz.underlying32
 have HR0 := Aside0.mk hr0
 have HC0 := Aside0.mk hc0
 clear hr0 hc0
 have HR1 := Aside0.mk hr1
 have HC1 := Aside0.mk hc1
 clear hr1 hc1
 have H := h
 clear h
 unfold laws_saAddrs.f at H
 replace H := its_cqn_cqn H; rcases H with ⟨c3, c3b0, c3b1, H⟩ | ⟨c3, c3b0, c3b1, H⟩
 ·have c3b2 : (l0.length == l1.length) = true := by first | simpa using c3 | (simp at c3 ⊢; omega)
  clear c3
  have H' := Aside0.mk H
  clear H
  go_enter Tryz.func82, Tryz.ntmps82
  go_wp2
  repeat (go_quiet (fail); try go_wp2)
  go_loopg [5] k (fun kq v5 w' => ∃ (x5_1 : Int), v5 = .int .i64 x5_1 ∧ Aside0 (laws_saAddrs.l0 kq l0 l1 x5_1 = some r) ∧ Aside0 (kq ≤ k) ∧ Drawn0 w w')
  case atStart => exact ⟨(0), zs, H', ⟨Nat.le_refl _⟩, zD⟩
  case round =>
   clear H'
   obtain ⟨x5_1, rfl, HA, HK1, ⟨m1, rfl⟩⟩ := hrel
   cases gk with
   | zero => exact absurd HA.out (by simp [laws_saAddrs.l0])
   | succ k1 =>
    have H := HA.out
    clear HA
    simp only [laws_saAddrs.l0] at H
    replace H := its_d_d H; rcases H with ⟨c4b0, H⟩ | ⟨c4b0, H⟩
    ·replace H := itn_d H; obtain ⟨c5b0, H⟩ := H
     replace H := itn_d H; obtain ⟨c6b0, H⟩ := H
     replace H := its_c_c H; rcases H with ⟨c7, H⟩ | ⟨c7, H⟩
     ·have c7b0 : (!((((rd_T32 l0 x5_1).f0).toList) == (((rd_T32 l1 x5_1).f0).toList)) || (!((((rd_T32 l0 x5_1).f1).toList) == (((rd_T32 l1 x5_1).f1).toList)))) = true := c7
      clear c7
      obtain rfl := Option.some.inj H
      have p101 : 0 ≤ (x5_1 : Int) := of_decide_eq_true za
      have q101 : x5_1 < (l0.length : Int) := of_decide_eq_true za
      obtain ⟨ad101, e101, hx101_0, hx101_1⟩ := at_T32 HR0.out x5_1 p101 q101
      cases e101
      replace p101 := eq_true p101
      replace q101 := eq_true q101
      have p102 : 0 ≤ (x5_1 : Int) := of_decide_eq_true za
      have q102 : x5_1 < (l1.length : Int) := of_decide_eq_true za
      obtain ⟨ad102, e102, hx102_0, hx102_1⟩ := at_T32 HR1.out x5_1 p102 q102
      cases e102
      replace p102 := eq_true p102
      replace q102 := eq_true q102
      go_wp2
      repeat (go_quiet (fail); try go_wp2)
      go_ret
      exact ⟨zs, zD⟩
     ·have c7b0 : (!((((rd_T32 l0 x5_1).f0).toList) == (((rd_T32 l1 x5_1).f0).toList)) || (!((((rd_T32 l0 x5_1).f1).toList) == (((rd_T32 l1 x5_1).f1).toList)))) = false := by simpa using c7
      clear c7
      have H' := Aside0.mk H
      clear H
      have p101 : 0 ≤ (x5_1 : Int) := of_decide_eq_true za
      have q101 : x5_1 < (l0.length : Int) := of_decide_eq_true za
      obtain ⟨ad101, e101, hx101_0, hx101_1⟩ := at_T32 HR0.out x5_1 p101 q101
      cases e101
      replace p101 := eq_true p101
      replace q101 := eq_true q101
      have p102 : 0 ≤ (x5_1 : Int) := of_decide_eq_true za
      have q102 : x5_1 < (l1.length : Int) := of_decide_eq_true za
      obtain ⟨ad102, e102, hx102_0, hx102_1⟩ := at_T32 HR1.out x5_1 p102 q102
      cases e102
      replace p102 := eq_true p102
      replace q102 := eq_true q102
      go_wp2
      repeat (go_quiet (fail); try go_wp2)
      go_roundg k1
      case measure => have := HK1.out; omega
      case rel => exact ⟨(wrap64 (x5_1 + 1)), zs, H', ⟨by have := HK1.out; omega⟩, zD⟩
    ·obtain rfl := Option.some.inj H
     go_wp2
     repeat (go_quiet (fail); try go_wp2)
     go_ret
     exact ⟨zs, zD⟩
 ·have c3b2 : (l0.length == l1.length) = false := by first | simpa using c3 | (simp at c3 ⊢; omega)
  obtain rfl := Option.some.inj H
  go_enter Tryz.func82, Tryz.ntmps82
  go_wp2
  repeat (go_quiet (fail); try go_wp2)
  go_ret
  exact ⟨zs, zD⟩
end Go.Proofs.YtbncnjgflhoneaaGreatDoor.F
namespace Go.Proofs.YtbncnjgflhoneaaGreatDoor.F
open Go.RowKit Go.Proofs.YtbncnjgflhoneaaGreatDoor.Hand Go.Proofs.YtbncnjgflhoneaaGreatDoorW.PrintWords Go.Proofs.YtbncnjgflhoneaaGreatDoorW.PrintLast Go.Proofs.YtbncnjgflhoneaaGreatDoorW.PrintMore
set_option linter.unusedVariables false
set_option linter.unusedSimpArgs false
def laws_saTexts.l0 : Nat → List ByteArray → List ByteArray → Int → Option (Bool)
 | 0, _, _, _ => none
 | k + 1, x0, x1, x5 => if x5 < (x0.length : Int) then (if 0 ≤ x5 then (if x5 < (x1.length : Int) then (if (rdOf ByteArray.empty x0 x5).toList = (rdOf ByteArray.empty x1 x5).toList then (laws_saTexts.l0 k x0 x1 (wrap64 (x5 + 1))) else (some false)) else (none)) else (none)) else (some true)
def laws_saTexts.f (k : Nat) (l0 : List ByteArray) (l1 : List ByteArray) : Option (Bool) := if (l0.length : Int) = (l1.length : Int) then (laws_saTexts.l0 k l0 l1 0) else (some false)
set_option maxHeartbeats 8000000 in
set_option maxRecDepth 100000 in
theorem laws_saTexts.calls (k : Nat) (A0 : Option Addr) (c0 : Nat) (l0 : List ByteArray) (A1 : Option Addr) (c1 : Nat) (l1 : List ByteArray) (r : Bool) (w : World) (hr0 : Kd.C Kd.string w A0 l0.length l0) (hc0 : l0.length ≤ c0) (hr1 : Kd.C Kd.string w A1 l1.length l1) (hc1 : l1.length ≤ c1) (h : laws_saTexts.f k l0 l1 = some r) :
  Calls Tryz.prog 83 #[.slice A0 l0.length c0, .slice A1 l1.length c1] w fun e w' => e = .returned (.bool r) ∧ Drawn0 w w' := by
 have HR0 := Aside0.mk hr0
 have HC0 := Aside0.mk hc0
 clear hr0 hc0
 have HR1 := Aside0.mk hr1
 have HC1 := Aside0.mk hc1
 clear hr1 hc1
 have H := h
 clear h
 unfold laws_saTexts.f at H
 replace H := its_cqn_cqn H; rcases H with ⟨c3, c3b0, c3b1, H⟩ | ⟨c3, c3b0, c3b1, H⟩
 ·have c3b2 : (l0.length == l1.length) = true := by first | simpa using c3 | (simp at c3 ⊢; omega)
  clear c3
  have H' := Aside0.mk H
  clear H
  go_enter Tryz.func83, Tryz.ntmps83
  go_wp2
  repeat (go_quiet (fail); try go_wp2)
  go_loopg [5] k (fun kq v5 w' => ∃ (x5_1 : Int), v5 = .int .i64 x5_1 ∧ Aside0 (laws_saTexts.l0 kq l0 l1 x5_1 = some r) ∧ Aside0 (kq ≤ k) ∧ Drawn0 w w')
  case atStart => exact ⟨(0), zs, H', ⟨Nat.le_refl _⟩, zD⟩
  case round =>
   clear H'
   obtain ⟨x5_1, rfl, HA, HK1, ⟨m1, rfl⟩⟩ := hrel
   cases gk with
   | zero => exact absurd HA.out (by simp [laws_saTexts.l0])
   | succ k1 =>
    have H := HA.out
    clear HA
    simp only [laws_saTexts.l0] at H
    replace H := its_d_d H; rcases H with ⟨c4b0, H⟩ | ⟨c4b0, H⟩
    ·replace H := itn_d H; obtain ⟨c5b0, H⟩ := H
     replace H := itn_d H; obtain ⟨c6b0, H⟩ := H
     replace H := its_qn_qn H; rcases H with ⟨c7b0, c7b1, H⟩ | ⟨c7b0, c7b1, H⟩
     ·have H' := Aside0.mk H
      clear H
      have p101 : 0 ≤ (x5_1 : Int) := of_decide_eq_true za
      have q101 : x5_1 < (l0.length : Int) := of_decide_eq_true za
      obtain ⟨ad101, e101, hx101_0⟩ := Kd.at_string HR0.out x5_1 p101 q101
      cases e101
      replace p101 := eq_true p101
      replace q101 := eq_true q101
      have p102 : 0 ≤ (x5_1 : Int) := of_decide_eq_true za
      have q102 : x5_1 < (l1.length : Int) := of_decide_eq_true za
      obtain ⟨ad102, e102, hx102_0⟩ := Kd.at_string HR1.out x5_1 p102 q102
      cases e102
      replace p102 := eq_true p102
      replace q102 := eq_true q102
      go_wp2
      repeat (go_quiet (fail); try go_wp2)
      go_roundg k1
      case measure => have := HK1.out; omega
      case rel => exact ⟨(wrap64 (x5_1 + 1)), zs, H', ⟨by have := HK1.out; omega⟩, zD⟩
     ·obtain rfl := Option.some.inj H
      have p101 : 0 ≤ (x5_1 : Int) := of_decide_eq_true za
      have q101 : x5_1 < (l0.length : Int) := of_decide_eq_true za
      obtain ⟨ad101, e101, hx101_0⟩ := Kd.at_string HR0.out x5_1 p101 q101
      cases e101
      replace p101 := eq_true p101
      replace q101 := eq_true q101
      have p102 : 0 ≤ (x5_1 : Int) := of_decide_eq_true za
      have q102 : x5_1 < (l1.length : Int) := of_decide_eq_true za
      obtain ⟨ad102, e102, hx102_0⟩ := Kd.at_string HR1.out x5_1 p102 q102
      cases e102
      replace p102 := eq_true p102
      replace q102 := eq_true q102
      go_wp2
      repeat (go_quiet (fail); try go_wp2)
      go_ret
      exact ⟨zs, zD⟩
    ·obtain rfl := Option.some.inj H
     go_wp2
     repeat (go_quiet (fail); try go_wp2)
     go_ret
     exact ⟨zs, zD⟩
 ·have c3b2 : (l0.length == l1.length) = false := by first | simpa using c3 | (simp at c3 ⊢; omega)
  obtain rfl := Option.some.inj H
  go_enter Tryz.func83, Tryz.ntmps83
  go_wp2
  repeat (go_quiet (fail); try go_wp2)
  go_ret
  exact ⟨zs, zD⟩
attribute [local go_sem high] eqA32
def laws_saMail.f (k : Nat) (a0_0 : ByteArray) (a0_1 : ByteArray) (l0_2 : List (S32)) (l0_3 : List ByteArray) (a1_0 : ByteArray) (a1_1 : ByteArray) (l1_2 : List (S32)) (l1_3 : List ByteArray) : Option (Bool) := if (a0_0.toList == a1_0.toList && (a0_1.toList == a1_1.toList)) = true then ((laws_saAddrs.f k l0_2 l1_2).bind fun t103 => (if t103 = true then ((laws_saTexts.f k l0_3 l1_3).bind fun t104 => (some t104)) else (some false))) else (some false)
set_option maxHeartbeats 8000000 in
set_option maxRecDepth 100000 in
theorem laws_saMail.calls (k : Nat) (a0_0 : ByteArray) (a0_1 : ByteArray) (A0_2 : Option Addr) (c0_2 : Nat) (l0_2 : List (S32)) (A0_3 : Option Addr) (c0_3 : Nat) (l0_3 : List ByteArray) (a1_0 : ByteArray) (a1_1 : ByteArray) (A1_2 : Option Addr) (c1_2 : Nat) (l1_2 : List (S32)) (A1_3 : Option Addr) (c1_3 : Nat) (l1_3 : List ByteArray) (r : Bool) (w : World) (hr0_2 : Kd.C k32 w A0_2 l0_2.length l0_2) (hc0_2 : l0_2.length ≤ c0_2) (hr0_3 : Kd.C Kd.string w A0_3 l0_3.length l0_3) (hc0_3 : l0_3.length ≤ c0_3) (hr1_2 : Kd.C k32 w A1_2 l1_2.length l1_2) (hc1_2 : l1_2.length ≤ c1_2) (hr1_3 : Kd.C Kd.string w A1_3 l1_3.length l1_3) (hc1_3 : l1_3.length ≤ c1_3) (h : laws_saMail.f k a0_0 a0_1 l0_2 l0_3 a1_0 a1_1 l1_2 l1_3 = some r) :
  Calls Tryz.prog 44 #[.agg #[.string a0_0, .string a0_1, .slice A0_2 l0_2.length c0_2, .slice A0_3 l0_3.length c0_3], .agg #[.string a1_0, .string a1_1, .slice A1_2 l1_2.length c1_2, .slice A1_3 l1_3.length c1_3]] w fun e w' => e = .returned (.bool r) ∧ Below w.heap.size w w' := by
 have hu35 := Tryz.underlying35
 have hu32 := Tryz.underlying32
 have HR0_2 := Aside0.mk hr0_2
 have HC0_2 := Aside0.mk hc0_2
 clear hr0_2 hc0_2
 have HR0_3 := Aside0.mk hr0_3
 have HC0_3 := Aside0.mk hc0_3
 clear hr0_3 hc0_3
 have HR1_2 := Aside0.mk hr1_2
 have HC1_2 := Aside0.mk hc1_2
 clear hr1_2 hc1_2
 have HR1_3 := Aside0.mk hr1_3
 have HC1_3 := Aside0.mk hc1_3
 clear hr1_3 hc1_3
 have HB := Aside0.mk (Below.refl w.heap.size w)
 have H := h
 clear h
 unfold laws_saMail.f at H
 replace H := its_c_c H; rcases H with ⟨c3, H⟩ | ⟨c3, H⟩
 ·have c3b0 : (a0_0.toList == a1_0.toList && (a0_1.toList == a1_1.toList)) = true := c3
  (try (have c3b1 : decide (a0_0.toList = a1_0.toList && (a0_1.toList == a1_1.toList)) = true := by simpa using c3))
  (try (have c3b2 : (a0_0.toList == a1_0.toList && (a0_1.toList == a1_1.toList)) = true := by simpa using c3))
  clear c3
  replace H := bnd H; obtain ⟨t103, A4, H⟩ := H
  replace H := itb H; rcases H with ⟨rfl, H⟩ | ⟨rfl, H⟩
  ·replace H := bnd H; obtain ⟨t104, A6, H⟩ := H
   obtain rfl := Option.some.inj H
   go_enter Tryz.func44, Tryz.ntmps44
   go_wp2_with (first | ((with_reducible refine gate_dst (N := 2) rfl ?_); refine bx (cs := #[.string a0_0, .string a0_1, .slice A0_2 l0_2.length c0_2, .slice A0_3 l0_3.length c0_3]) (t := 35) ?_; intro gb101 hg w7 hbox hb; have BK101 := Aside0.mk (hbox); have GW101 := gS hg; have GE101 := gS hg; replace HB := bS hb; clear hb hbox hg) | ((with_reducible refine gate_dst (N := 3) rfl ?_); refine bx (cs := #[.string a1_0, .string a1_1, .slice A1_2 l1_2.length c1_2, .slice A1_3 l1_3.length c1_3]) (t := 35) ?_; intro gb102 hg w8 hbox hb; have BK102 := Aside0.mk (hbox); have GW102 := gS hg; have GE102 := gS hg; have NB101_102 := nS hg BK101; have NB102_101 := nG hg BK101; replace BK101 := kS BK101 hb; replace HB := bS hb; clear hb hbox hg; have hnb9 := NB101_102.out; have hnc9 := NB102_101.out; have hcz10 := cz4 BK101.out; have hfz10 := fz4 BK101.out; have hcz11 := cz4 BK102.out; have hfz11 := fz4 BK102.out) | (go_at_call 82; refine (laws_saAddrs.calls (w := _) (hr0 := cB HR0_2) (hc0 := HC0_2.out) (hr1 := cB HR1_2) (hc1 := HC1_2.out) (h := A4.out)).mono ?_; rintro e w' ⟨rfl, ⟨nd, rfl⟩⟩) | (go_at_call 83; refine (laws_saTexts.calls (w := _) (hr0 := by repeat (first | exact (Kd.C_below HR0_3.out zB) | (with_reducible refine Kd.C_alloc ?_ _) | (with_reducible refine Kd.C_drewN ?_ _) | (with_reducible refine Kd.C_drew ?_))) (hc0 := HC0_3.out) (hr1 := by repeat (first | exact (Kd.C_below HR1_3.out zB) | (with_reducible refine Kd.C_alloc ?_ _) | (with_reducible refine Kd.C_drewN ?_ _) | (with_reducible refine Kd.C_drew ?_))) (hc1 := HC1_3.out) (h := A6.out)).mono ?_; rintro e w' ⟨rfl, ⟨nd, rfl⟩⟩))
   go_ret
   exact ⟨zr, zB⟩
  ·obtain rfl := Option.some.inj H
   go_enter Tryz.func44, Tryz.ntmps44
   go_wp2_with (first | ((with_reducible refine gate_dst (N := 2) rfl ?_); refine bx (cs := #[.string a0_0, .string a0_1, .slice A0_2 l0_2.length c0_2, .slice A0_3 l0_3.length c0_3]) (t := 35) ?_; intro gb101 hg w12 hbox hb; have BK101 := Aside0.mk (hbox); have GW101 := gS hg; have GE101 := gS hg; replace HB := bS hb; clear hb hbox hg) | ((with_reducible refine gate_dst (N := 3) rfl ?_); refine bx (cs := #[.string a1_0, .string a1_1, .slice A1_2 l1_2.length c1_2, .slice A1_3 l1_3.length c1_3]) (t := 35) ?_; intro gb102 hg w13 hbox hb; have BK102 := Aside0.mk (hbox); have GW102 := gS hg; have GE102 := gS hg; have NB101_102 := nS hg BK101; have NB102_101 := nG hg BK101; replace BK101 := kS BK101 hb; replace HB := bS hb; clear hb hbox hg; have hnb14 := NB101_102.out; have hnc14 := NB102_101.out; have hcz15 := cz4 BK101.out; have hfz15 := fz4 BK101.out; have hcz16 := cz4 BK102.out; have hfz16 := fz4 BK102.out) | (go_at_call 82; refine (laws_saAddrs.calls (w := _) (hr0 := cB HR0_2) (hc0 := HC0_2.out) (hr1 := cB HR1_2) (hc1 := HC1_2.out) (h := A4.out)).mono ?_; rintro e w' ⟨rfl, ⟨nd, rfl⟩⟩))
   go_ret
   exact ⟨zr, zB⟩
 ·have c3b0 : (a0_0.toList == a1_0.toList && (a0_1.toList == a1_1.toList)) = false := by simpa using c3
  (try (have c3b1 : decide (a0_0.toList = a1_0.toList && (a0_1.toList == a1_1.toList)) = false := by simpa using c3))
  (try (have c3b2 : (a0_0.toList == a1_0.toList && (a0_1.toList == a1_1.toList)) = false := by simpa using c3))
  (try (have c3b3 : ¬ (a0_0.toList = a1_0.toList && (a0_1.toList == a1_1.toList)) := by simpa using c3))
  clear c3
  obtain rfl := Option.some.inj H
  go_enter Tryz.func44, Tryz.ntmps44
  go_wp2_with (first | ((with_reducible refine gate_dst (N := 2) rfl ?_); refine bx (cs := #[.string a0_0, .string a0_1, .slice A0_2 l0_2.length c0_2, .slice A0_3 l0_3.length c0_3]) (t := 35) ?_; intro gb101 hg w17 hbox hb; have BK101 := Aside0.mk (hbox); have GW101 := gS hg; have GE101 := gS hg; replace HB := bS hb; clear hb hbox hg) | ((with_reducible refine gate_dst (N := 3) rfl ?_); refine bx (cs := #[.string a1_0, .string a1_1, .slice A1_2 l1_2.length c1_2, .slice A1_3 l1_3.length c1_3]) (t := 35) ?_; intro gb102 hg w18 hbox hb; have BK102 := Aside0.mk (hbox); have GW102 := gS hg; have GE102 := gS hg; have NB101_102 := nS hg BK101; have NB102_101 := nG hg BK101; replace BK101 := kS BK101 hb; replace HB := bS hb; clear hb hbox hg; have hnb19 := NB101_102.out; have hnc19 := NB102_101.out; have hcz20 := cz4 BK101.out; have hfz20 := fz4 BK101.out; have hcz21 := cz4 BK102.out; have hfz21 := fz4 BK102.out))
  go_ret
  exact ⟨zr, zB⟩
end Go.Proofs.YtbncnjgflhoneaaGreatDoor.F
namespace Go.Proofs.YtbncnjgflhoneaaGreatDoor.F
open Go.RowKit Go.Proofs.YtbncnjgflhoneaaGreatDoor.Hand Go.Proofs.YtbncnjgflhoneaaGreatDoorW.PrintWords Go.Proofs.YtbncnjgflhoneaaGreatDoorW.PrintLast Go.Proofs.YtbncnjgflhoneaaGreatDoorW.PrintMore
set_option linter.unusedVariables false
set_option linter.unusedSimpArgs false
attribute [local go_sem high] eqA32
def laws_saNote.f (k : Nat) (a0_0 : Int) (a0_1 : Int) (a0_2 : ByteArray) (a0_3 : ByteArray) (a0_4 : Int) (a0_5 : ByteArray) (a0_6 : ByteArray) (l0_7 : List (S32)) (l0_8 : List ByteArray) (a1_0 : Int) (a1_1 : Int) (a1_2 : ByteArray) (a1_3 : ByteArray) (a1_4 : Int) (a1_5 : ByteArray) (a1_6 : ByteArray) (l1_7 : List (S32)) (l1_8 : List ByteArray) : Option (Bool) := if a0_0 = a1_0 then (if a0_1 = a1_1 then (if (a0_2.toList == a1_2.toList && (a0_3.toList == a1_3.toList)) = true then (if a0_4 = a1_4 then ((laws_saMail.f k a0_5 a0_6 l0_7 l0_8 a1_5 a1_6 l1_7 l1_8).bind fun t103 => (some t103)) else (some false)) else (some false)) else (some false)) else (some false)
set_option maxHeartbeats 8000000 in
set_option maxRecDepth 100000 in
theorem laws_saNote.calls (k : Nat) (a0_0 : Int) (a0_1 : Int) (a0_2 : ByteArray) (a0_3 : ByteArray) (a0_4 : Int) (a0_5 : ByteArray) (a0_6 : ByteArray) (A0_7 : Option Addr) (c0_7 : Nat) (l0_7 : List (S32)) (A0_8 : Option Addr) (c0_8 : Nat) (l0_8 : List ByteArray) (a1_0 : Int) (a1_1 : Int) (a1_2 : ByteArray) (a1_3 : ByteArray) (a1_4 : Int) (a1_5 : ByteArray) (a1_6 : ByteArray) (A1_7 : Option Addr) (c1_7 : Nat) (l1_7 : List (S32)) (A1_8 : Option Addr) (c1_8 : Nat) (l1_8 : List ByteArray) (r : Bool) (w : World) (hr0_7 : Kd.C k32 w A0_7 l0_7.length l0_7) (hc0_7 : l0_7.length ≤ c0_7) (hr0_8 : Kd.C Kd.string w A0_8 l0_8.length l0_8) (hc0_8 : l0_8.length ≤ c0_8) (hr1_7 : Kd.C k32 w A1_7 l1_7.length l1_7) (hc1_7 : l1_7.length ≤ c1_7) (hr1_8 : Kd.C Kd.string w A1_8 l1_8.length l1_8) (hc1_8 : l1_8.length ≤ c1_8) (h : laws_saNote.f k a0_0 a0_1 a0_2 a0_3 a0_4 a0_5 a0_6 l0_7 l0_8 a1_0 a1_1 a1_2 a1_3 a1_4 a1_5 a1_6 l1_7 l1_8 = some r) :
  Calls Tryz.prog 16 #[.agg #[.int .i64 a0_0, .int .i64 a0_1, .string a0_2, .string a0_3, .int .i64 a0_4, .string a0_5, .string a0_6, .slice A0_7 l0_7.length c0_7, .slice A0_8 l0_8.length c0_8], .agg #[.int .i64 a1_0, .int .i64 a1_1, .string a1_2, .string a1_3, .int .i64 a1_4, .string a1_5, .string a1_6, .slice A1_7 l1_7.length c1_7, .slice A1_8 l1_8.length c1_8]] w fun e w' => e = .returned (.bool r) ∧ Below w.heap.size w w' := by
 have hu37 := Tryz.underlying37
 have hu32 := Tryz.underlying32
 have hu35 := Tryz.underlying35
 have HR0_7 := Aside0.mk hr0_7
 have HC0_7 := Aside0.mk hc0_7
 clear hr0_7 hc0_7
 have HR0_8 := Aside0.mk hr0_8
 have HC0_8 := Aside0.mk hc0_8
 clear hr0_8 hc0_8
 have HR1_7 := Aside0.mk hr1_7
 have HC1_7 := Aside0.mk hc1_7
 clear hr1_7 hc1_7
 have HR1_8 := Aside0.mk hr1_8
 have HC1_8 := Aside0.mk hc1_8
 clear hr1_8 hc1_8
 have HB := Aside0.mk (Below.refl w.heap.size w)
 have H := h
 clear h
 unfold laws_saNote.f at H
 replace H := its_qn_qn H; rcases H with ⟨c3b0, c3b1, H⟩ | ⟨c3b0, c3b1, H⟩
 ·replace H := its_qn_qn H; rcases H with ⟨c4b0, c4b1, H⟩ | ⟨c4b0, c4b1, H⟩
  ·replace H := its_c_c H; rcases H with ⟨c5, H⟩ | ⟨c5, H⟩
   ·have c5b0 : (a0_2.toList == a1_2.toList && (a0_3.toList == a1_3.toList)) = true := c5
    (try (have c5b1 : decide (a0_2.toList = a1_2.toList && (a0_3.toList == a1_3.toList)) = true := by simpa using c5))
    (try (have c5b2 : (a0_2.toList == a1_2.toList && (a0_3.toList == a1_3.toList)) = true := by simpa using c5))
    clear c5
    replace H := its_qn_qn H; rcases H with ⟨c6b0, c6b1, H⟩ | ⟨c6b0, c6b1, H⟩
    ·replace H := bnd H; obtain ⟨t103, A7, H⟩ := H
     obtain rfl := Option.some.inj H
     go_enter Tryz.func16, Tryz.ntmps16
     go_wp2_with (first | ((with_reducible refine gate_dst (N := 2) rfl ?_); refine bx (cs := #[.int .i64 a0_0, .int .i64 a0_1, .string a0_2, .string a0_3, .int .i64 a0_4, .string a0_5, .string a0_6, .slice A0_7 l0_7.length c0_7, .slice A0_8 l0_8.length c0_8]) (t := 37) ?_; intro gb101 hg w8 hbox hb; have BK101 := Aside0.mk (hbox); have GW101 := gS hg; have GE101 := gS hg; replace HB := bS hb; clear hb hbox hg) | ((with_reducible refine gate_dst (N := 3) rfl ?_); refine bx (cs := #[.int .i64 a1_0, .int .i64 a1_1, .string a1_2, .string a1_3, .int .i64 a1_4, .string a1_5, .string a1_6, .slice A1_7 l1_7.length c1_7, .slice A1_8 l1_8.length c1_8]) (t := 37) ?_; intro gb102 hg w9 hbox hb; have BK102 := Aside0.mk (hbox); have GW102 := gS hg; have GE102 := gS hg; have NB101_102 := nS hg BK101; have NB102_101 := nG hg BK101; replace BK101 := kS BK101 hb; replace HB := bS hb; clear hb hbox hg; have hnb10 := NB101_102.out; have hnc10 := NB102_101.out; have hcz11 := cz9 BK101.out; have hfz11 := fz9 BK101.out; have hcz12 := cz9 BK102.out; have hfz12 := fz9 BK102.out) | (go_at_call 44; refine (laws_saMail.calls (w := _) (hr0_2 := cB HR0_7) (hc0_2 := HC0_7.out) (hr0_3 := cB HR0_8) (hc0_3 := HC0_8.out) (hr1_2 := cB HR1_7) (hc1_2 := HC1_7.out) (hr1_3 := cB HR1_8) (hc1_3 := HC1_8.out) (h := A7.out)).mono ?_; rintro e w13 ⟨rfl, hb⟩; replace BK101 := kS BK101 hb; replace BK102 := kS BK102 hb; replace HB := bS hb; clear hb))
     go_ret
     exact ⟨zr, zB⟩
    ·obtain rfl := Option.some.inj H
     go_enter Tryz.func16, Tryz.ntmps16
     go_wp2_with (first | ((with_reducible refine gate_dst (N := 2) rfl ?_); refine bx (cs := #[.int .i64 a0_0, .int .i64 a0_1, .string a0_2, .string a0_3, .int .i64 a0_4, .string a0_5, .string a0_6, .slice A0_7 l0_7.length c0_7, .slice A0_8 l0_8.length c0_8]) (t := 37) ?_; intro gb101 hg w14 hbox hb; have BK101 := Aside0.mk (hbox); have GW101 := gS hg; have GE101 := gS hg; replace HB := bS hb; clear hb hbox hg) | ((with_reducible refine gate_dst (N := 3) rfl ?_); refine bx (cs := #[.int .i64 a1_0, .int .i64 a1_1, .string a1_2, .string a1_3, .int .i64 a1_4, .string a1_5, .string a1_6, .slice A1_7 l1_7.length c1_7, .slice A1_8 l1_8.length c1_8]) (t := 37) ?_; intro gb102 hg w15 hbox hb; have BK102 := Aside0.mk (hbox); have GW102 := gS hg; have GE102 := gS hg; have NB101_102 := nS hg BK101; have NB102_101 := nG hg BK101; replace BK101 := kS BK101 hb; replace HB := bS hb; clear hb hbox hg; have hnb16 := NB101_102.out; have hnc16 := NB102_101.out; have hcz17 := cz9 BK101.out; have hfz17 := fz9 BK101.out; have hcz18 := cz9 BK102.out; have hfz18 := fz9 BK102.out))
     go_ret
     exact ⟨zr, zB⟩
   ·have c5b0 : (a0_2.toList == a1_2.toList && (a0_3.toList == a1_3.toList)) = false := by simpa using c5
    (try (have c5b1 : decide (a0_2.toList = a1_2.toList && (a0_3.toList == a1_3.toList)) = false := by simpa using c5))
    (try (have c5b2 : (a0_2.toList == a1_2.toList && (a0_3.toList == a1_3.toList)) = false := by simpa using c5))
    (try (have c5b3 : ¬ (a0_2.toList = a1_2.toList && (a0_3.toList == a1_3.toList)) := by simpa using c5))
    clear c5
    obtain rfl := Option.some.inj H
    go_enter Tryz.func16, Tryz.ntmps16
    go_wp2_with (first | ((with_reducible refine gate_dst (N := 2) rfl ?_); refine bx (cs := #[.int .i64 a0_0, .int .i64 a0_1, .string a0_2, .string a0_3, .int .i64 a0_4, .string a0_5, .string a0_6, .slice A0_7 l0_7.length c0_7, .slice A0_8 l0_8.length c0_8]) (t := 37) ?_; intro gb101 hg w19 hbox hb; have BK101 := Aside0.mk (hbox); have GW101 := gS hg; have GE101 := gS hg; replace HB := bS hb; clear hb hbox hg) | ((with_reducible refine gate_dst (N := 3) rfl ?_); refine bx (cs := #[.int .i64 a1_0, .int .i64 a1_1, .string a1_2, .string a1_3, .int .i64 a1_4, .string a1_5, .string a1_6, .slice A1_7 l1_7.length c1_7, .slice A1_8 l1_8.length c1_8]) (t := 37) ?_; intro gb102 hg w20 hbox hb; have BK102 := Aside0.mk (hbox); have GW102 := gS hg; have GE102 := gS hg; have NB101_102 := nS hg BK101; have NB102_101 := nG hg BK101; replace BK101 := kS BK101 hb; replace HB := bS hb; clear hb hbox hg; have hnb21 := NB101_102.out; have hnc21 := NB102_101.out; have hcz22 := cz9 BK101.out; have hfz22 := fz9 BK101.out; have hcz23 := cz9 BK102.out; have hfz23 := fz9 BK102.out))
    go_ret
    exact ⟨zr, zB⟩
  ·obtain rfl := Option.some.inj H
   go_enter Tryz.func16, Tryz.ntmps16
   go_wp2_with (first | ((with_reducible refine gate_dst (N := 2) rfl ?_); refine bx (cs := #[.int .i64 a0_0, .int .i64 a0_1, .string a0_2, .string a0_3, .int .i64 a0_4, .string a0_5, .string a0_6, .slice A0_7 l0_7.length c0_7, .slice A0_8 l0_8.length c0_8]) (t := 37) ?_; intro gb101 hg w24 hbox hb; have BK101 := Aside0.mk (hbox); have GW101 := gS hg; have GE101 := gS hg; replace HB := bS hb; clear hb hbox hg) | ((with_reducible refine gate_dst (N := 3) rfl ?_); refine bx (cs := #[.int .i64 a1_0, .int .i64 a1_1, .string a1_2, .string a1_3, .int .i64 a1_4, .string a1_5, .string a1_6, .slice A1_7 l1_7.length c1_7, .slice A1_8 l1_8.length c1_8]) (t := 37) ?_; intro gb102 hg w25 hbox hb; have BK102 := Aside0.mk (hbox); have GW102 := gS hg; have GE102 := gS hg; have NB101_102 := nS hg BK101; have NB102_101 := nG hg BK101; replace BK101 := kS BK101 hb; replace HB := bS hb; clear hb hbox hg; have hnb26 := NB101_102.out; have hnc26 := NB102_101.out; have hcz27 := cz9 BK101.out; have hfz27 := fz9 BK101.out; have hcz28 := cz9 BK102.out; have hfz28 := fz9 BK102.out))
   go_ret
   exact ⟨zr, zB⟩
 ·obtain rfl := Option.some.inj H
  go_enter Tryz.func16, Tryz.ntmps16
  go_wp2_with (first | ((with_reducible refine gate_dst (N := 2) rfl ?_); refine bx (cs := #[.int .i64 a0_0, .int .i64 a0_1, .string a0_2, .string a0_3, .int .i64 a0_4, .string a0_5, .string a0_6, .slice A0_7 l0_7.length c0_7, .slice A0_8 l0_8.length c0_8]) (t := 37) ?_; intro gb101 hg w29 hbox hb; have BK101 := Aside0.mk (hbox); have GW101 := gS hg; have GE101 := gS hg; replace HB := bS hb; clear hb hbox hg) | ((with_reducible refine gate_dst (N := 3) rfl ?_); refine bx (cs := #[.int .i64 a1_0, .int .i64 a1_1, .string a1_2, .string a1_3, .int .i64 a1_4, .string a1_5, .string a1_6, .slice A1_7 l1_7.length c1_7, .slice A1_8 l1_8.length c1_8]) (t := 37) ?_; intro gb102 hg w30 hbox hb; have BK102 := Aside0.mk (hbox); have GW102 := gS hg; have GE102 := gS hg; have NB101_102 := nS hg BK101; have NB102_101 := nG hg BK101; replace BK101 := kS BK101 hb; replace HB := bS hb; clear hb hbox hg; have hnb31 := NB101_102.out; have hnc31 := NB102_101.out; have hcz32 := cz9 BK101.out; have hfz32 := fz9 BK101.out; have hcz33 := cz9 BK102.out; have hfz33 := fz9 BK102.out))
  go_ret
  exact ⟨zr, zB⟩
end Go.Proofs.YtbncnjgflhoneaaGreatDoor.F
namespace Go.Proofs.YtbncnjgflhoneaaGreatDoor.Hand
open Go.RowKit Go.Proofs.YtbncnjgflhoneaaGreatDoor.F Go.Proofs.YtbncnjgflhoneaaGreatDoorW.PrintWords Go.Proofs.YtbncnjgflhoneaaGreatDoorW.PrintLast Go.Proofs.YtbncnjgflhoneaaGreatDoorW.PrintMore
theorem saAddrs_from (l : List S32) (hl : l.length ≤ 1000) : ∀ (d i : Nat), l.length = i + d → Ev (fun k => laws_saAddrs.l0 k l l (i : Int)) true
 | 0, i, hi => Ev.step (f := fun _ => some true) (fun k => by rw [laws_saAddrs.l0, if_neg (by omega)]) (Ev.now _)
 | d + 1, i, hi => by
  have w : wrap64 ((i : Int) + 1) = ((i + 1 : Nat) : Int) := by unfold wrap64; omega
  refine Ev.step (fun k => ?_) (saAddrs_from l hl d (i + 1) (by omega))
  rw [laws_saAddrs.l0, if_pos (by omega), if_pos (by omega), if_pos (by omega), if_neg (by simp), w]
theorem saTexts_from (l : List ByteArray) (hl : l.length ≤ 1000) : ∀ (d i : Nat), l.length = i + d → Ev (fun k => laws_saTexts.l0 k l l (i : Int)) true
 | 0, i, hi => Ev.step (f := fun _ => some true) (fun k => by rw [laws_saTexts.l0, if_neg (by omega)]) (Ev.now _)
 | d + 1, i, hi => by
  have w : wrap64 ((i : Int) + 1) = ((i + 1 : Nat) : Int) := by unfold wrap64; omega
  refine Ev.step (fun k => ?_) (saTexts_from l hl d (i + 1) (by omega))
  rw [laws_saTexts.l0, if_pos (by omega), if_pos (by omega), if_pos (by omega), if_pos rfl, w]
theorem saNote_self (kind id : Int) (au ad : ByteArray) (now : Int) (u d : ByteArray) (ts : List S32) (body : List ByteArray) (ht : ts.length ≤ 1000) (hb : body.length ≤ 1000) :
  Ev (fun k => laws_saNote.f k kind id au ad now u d ts body kind id au ad now u d ts body) true := by
 have h1 : Ev (fun k => laws_saAddrs.f k ts ts) true := Ev.congr (fun k => if_pos rfl) (saAddrs_from ts ht ts.length 0 (by omega))
 have h2 : Ev (fun k => laws_saTexts.f k body body) true := Ev.congr (fun k => if_pos rfl) (saTexts_from body hb body.length 0 (by omega))
 have h3 : Ev (fun k => laws_saMail.f k u d ts body u d ts body) true := Ev.congr (fun k => if_pos (by simp)) (Ev.call h1 (fun k => if_pos rfl) (Ev.bind h2 (Ev.now _)))
 refine Ev.congr (f := fun k => (laws_saMail.f k u d ts body u d ts body).bind fun t => some t) (fun k => ?_) (Ev.bind h3 (Ev.now _))
 unfold laws_saNote.f
 rw [if_pos rfl, if_pos rfl, if_pos (by simp), if_pos rfl]
end Go.Proofs.YtbncnjgflhoneaaGreatDoor.Hand
