/- Of this claim, merged by program: F86, Q10, F85. -/
import Derived.Test.YtbncnjgflhoneaaGreatDoorG02
import Derived.Test.YtbncnjgflhoneaaGreatDoorG06
import Derived.Test.YtbncnjgflhoneaaGreatDoorG08
import Derived.Test.YtbncnjgflhoneaaGreatDoorG16
import Derived.Test.YtbncnjgflhoneaaGreatDoorG18
import Derived.Test.YtbncnjgflhoneaaGreatDoorG19
namespace Go.Proofs.YtbncnjgflhoneaaGreatDoor.F
open Go.RowKit Go.Proofs.YtbncnjgflhoneaaGreatDoor.Hand Go.Proofs.YtbncnjgflhoneaaGreatDoorW.PrintWords Go.Proofs.YtbncnjgflhoneaaGreatDoorW.PrintLast Go.Proofs.YtbncnjgflhoneaaGreatDoorW.PrintMore
attribute [local go_sem] max2_int min2_int max_two min_two max_three min_three max_four min_four
set_option linter.unusedVariables false
set_option linter.unusedSimpArgs false
def spec_MailGet.f (k : Nat) (a0 : ByteArray) : Option (ByteArray × ByteArray × (List (S32)) × List ByteArray × Bool) := if (a0.size : Int) > 800 then (some ((⟨#[]⟩ : ByteArray), (⟨#[]⟩ : ByteArray), ([] : List (S32)), ([] : List ByteArray), false)) else ((spec_l2Get.f k a0).bind fun bt102 => (if bt102.2.2.2.2 = 0 then (some ((⟨#[]⟩ : ByteArray), (⟨#[]⟩ : ByteArray), ([] : List (S32)), ([] : List ByteArray), false)) else (if 0 ≤ bt102.2.2.2.2 then (if bt102.2.2.2.2 ≤ (a0.size : Int) then ((spec_DotGet.f k (a0.extract (bt102.2.2.2.2 : Int).toNat a0.size)).bind fun bt112 => (if bt112.2 = true then ((spec_l2Ok.f k bt102.1 bt102.2.1 bt102.2.2.1 bt112.1).bind fun t116 => (if t116 = true then ((spec_l2Put.f k bt102.1 bt102.2.1 bt102.2.2.1 bt112.1).bind fun t117 => (if t117.toList = a0.toList then (some (bt102.1, bt102.2.1, bt102.2.2.1, bt112.1, true)) else (some ((⟨#[]⟩ : ByteArray), (⟨#[]⟩ : ByteArray), ([] : List (S32)), ([] : List ByteArray), false)))) else (some ((⟨#[]⟩ : ByteArray), (⟨#[]⟩ : ByteArray), ([] : List (S32)), ([] : List ByteArray), false)))) else (some ((⟨#[]⟩ : ByteArray), (⟨#[]⟩ : ByteArray), ([] : List (S32)), ([] : List ByteArray), false)))) else (none)) else (none))))
theorem spec_MailGet.mono : ∀ a0 k, LeO (spec_MailGet.f k a0) (spec_MailGet.f (k + 1) a0) := by
 intro a0 k
 unfold spec_MailGet.f
 repeat' with_reducible first | apply spec_DotGet.mono | apply spec_l2Get.mono | apply spec_l2Ok.mono | apply spec_l2Put.mono | exact LeO.refl _ | exact LeO.none _ | apply LeO.ite | refine LeO.bind ?_ fun _ => ?_
set_option maxHeartbeats 8000000 in
set_option maxRecDepth 100000 in
theorem spec_MailGet.calls (k : Nat) (a0 : ByteArray) (r1 : ByteArray) (r2 : ByteArray) (r3 : List (S32)) (r4 : List ByteArray) (r5 : Bool) (w : World) (h : spec_MailGet.f k a0 = some (r1, r2, r3, r4, r5)) :
  Calls Tryz.prog 86 #[.string a0] w fun e w' => ∃ v2_ v3_ : Value, e = .returned (.tuple #[.agg #[.string r1, .string r2, v2_, v3_], .bool r5]) ∧ Kd.R k32 32 w' w.heap.size (fun _ => True) v2_ r3 ∧ Kd.R Kd.string 9 w' w.heap.size (fun _ => True) v3_ r4 ∧ Below w.heap.size w w' := by
 have hu35 := Tryz.underlying35
 have HB := Aside0.mk (Below.refl w.heap.size w)
 have H := h
 clear h
 unfold spec_MailGet.f at H
 replace H := its_cd_cd H; rcases H with ⟨c2, c2b0, H⟩ | ⟨c2, c2b0, H⟩
 ·have c2b1 : decide (800 < a0.size) = true := decide_eq_true (by omega)
  clear c2
  simp only [Option.some.injEq, Prod.mk.injEq] at H
  obtain ⟨rfl, rfl, rfl, rfl, rfl⟩ := H
  go_enter Tryz.func86, Tryz.ntmps86
  go_wp2_with (first | ((with_reducible refine gate_dst (N := 2) rfl ?_); refine bx (cs := #[.string ⟨#[]⟩, .string ⟨#[]⟩, .slice none 0 0, .slice none 0 0]) (t := 35) ?_; intro gb101 hg w3 hbox hb; have BK101 := Aside0.mk (hbox); have GW101 := gS hg; have GE101 := gS hg; replace HB := bS hb; clear hb hbox hg; obtain ⟨hcz4_0, hcz4_1, hcz4_2, hcz4_3⟩ := cz4 BK101.out; obtain ⟨hfz4_0, hfz4_1, hfz4_2, hfz4_3⟩ := fz4 BK101.out))
  refine bodyPost_ret (results_ct rfl _ _ gb101 35 #[.string (⟨#[]⟩ : ByteArray), .string (⟨#[]⟩ : ByteArray), .slice none 0 0, .slice none 0 0] (0, 0) _ rfl (kQ BK101) Tryz.underlying35 rfl z0_) rfl ?_
  exact ⟨_, _, zr, zn, zn, zB⟩
 ·have c2b1 : decide (800 < a0.size) = false := decide_eq_false (by omega)
  clear c2
  replace H := bnd H; obtain ⟨⟨t102, t103, t104, t107, t110⟩, A5, H⟩ := H
  dsimp only at H
  replace H := its_qn_qn H; rcases H with ⟨c6b0, c6b1, H⟩ | ⟨c6b0, c6b1, H⟩
  ·simp only [Option.some.injEq, Prod.mk.injEq] at H
   obtain ⟨rfl, rfl, rfl, rfl, rfl⟩ := H
   go_enter Tryz.func86, Tryz.ntmps86
   go_wp2_with (first | ((with_reducible refine gate_dst (N := 2) rfl ?_); refine bx (cs := #[.string ⟨#[]⟩, .string ⟨#[]⟩, .slice none 0 0, .slice none 0 0]) (t := 35) ?_; intro gb101 hg w7 hbox hb; have BK101 := Aside0.mk (hbox); have GW101 := gS hg; have GE101 := gS hg; replace HB := bS hb; clear hb hbox hg) | ((with_reducible refine gate_callee (f := 127) rfl ?_); refine gl 14 Tryz.func127 _ ((spec_l2Get.calls (w := _) (h := A5.out)).mono ?_); rintro e w8 ⟨v105, v108, rfl, ho0, ho1, hb⟩; refine ⟨_, rfl, ?_⟩; have HO106 := lS ho0; have HO109 := lS ho1; replace BK101 := kS BK101 hb; replace HB := bS hb; clear hb ho0; (try clear ho1)) | ((with_reducible refine gate_dst (N := 4) rfl ?_); refine bx (cs := #[.string ⟨#[]⟩, .string ⟨#[]⟩, .slice none 0 0, .slice none 0 0]) (t := 35) ?_; intro gb111 hg w9 hbox hb; replace HO106 := rS HO106 hb; replace HO109 := rS HO109 hb; have BK111 := Aside0.mk (hbox); have GW111 := gS hg; have GE111 := gS hg; have NB101_111 := nS hg BK101; have NB111_101 := nG hg BK101; replace BK101 := kS BK101 hb; replace HB := bS hb; clear hb hbox hg; have hnb10 := NB111_101.out; have hnc10 := NB101_111.out; obtain ⟨hcz11_0, hcz11_1, hcz11_2, hcz11_3⟩ := cz4 BK111.out; obtain ⟨hfz11_0, hfz11_1, hfz11_2, hfz11_3⟩ := fz4 BK111.out; obtain ⟨Ao12, co12, eo12⟩ := Kd.R_slice HO106.out; subst eo12; obtain ⟨Ao13, co13, eo13⟩ := Kd.R_slice HO109.out; subst eo13; obtain ⟨hcz14_0, hcz14_1, hcz14_2, hcz14_3⟩ := cz4 BK101.out; obtain ⟨hfz14_0, hfz14_1, hfz14_2, hfz14_3⟩ := fz4 BK101.out))
   refine bodyPost_ret (results_ct rfl _ _ gb101 35 #[.string (⟨#[]⟩ : ByteArray), .string (⟨#[]⟩ : ByteArray), .slice none 0 0, .slice none 0 0] (0, 0) _ rfl (kQ BK101) Tryz.underlying35 rfl z0_) rfl ?_
   exact ⟨_, _, zr, zn, zn, zB⟩
  ·replace H := itn_ed H; obtain ⟨c15b0, c15b1, H⟩ := H
   replace H := itn_ed H; obtain ⟨c16b0, c16b1, H⟩ := H
   replace H := bnd H; obtain ⟨⟨t112, t113⟩, A17, H⟩ := H
   dsimp only at H
   replace H := itb H; rcases H with ⟨rfl, H⟩ | ⟨rfl, H⟩
   ·replace H := bnd H; obtain ⟨t116, A19, H⟩ := H
    replace H := itb H; rcases H with ⟨rfl, H⟩ | ⟨rfl, H⟩
    ·replace H := bnd H; obtain ⟨t117, A21, H⟩ := H
     replace H := its_qn_qn H; rcases H with ⟨c22b0, c22b1, H⟩ | ⟨c22b0, c22b1, H⟩
     ·simp only [Option.some.injEq, Prod.mk.injEq] at H
      obtain ⟨rfl, rfl, rfl, rfl, rfl⟩ := H
      go_enter Tryz.func86, Tryz.ntmps86
      go_wp2_with (first | ((with_reducible refine gate_dst (N := 2) rfl ?_); refine bx (cs := #[.string ⟨#[]⟩, .string ⟨#[]⟩, .slice none 0 0, .slice none 0 0]) (t := 35) ?_; intro gb101 hg w23 hbox hb; have BK101 := Aside0.mk (hbox); have GW101 := gS hg; have GE101 := gS hg; replace HB := bS hb; clear hb hbox hg) | ((with_reducible refine gate_callee (f := 127) rfl ?_); refine gl 14 Tryz.func127 _ ((spec_l2Get.calls (w := _) (h := A5.out)).mono ?_); rintro e w24 ⟨v105, v108, rfl, ho0, ho1, hb⟩; refine ⟨_, rfl, ?_⟩; have HO106 := lS ho0; have HO109 := lS ho1; replace BK101 := kS BK101 hb; replace HB := bS hb; clear hb ho0; (try clear ho1)) | ((with_reducible refine gate_dst (N := 4) rfl ?_); refine bx (cs := #[.string ⟨#[]⟩, .string ⟨#[]⟩, .slice none 0 0, .slice none 0 0]) (t := 35) ?_; intro gb111 hg w25 hbox hb; replace HO106 := rS HO106 hb; replace HO109 := rS HO109 hb; have BK111 := Aside0.mk (hbox); have GW111 := gS hg; have GE111 := gS hg; have NB101_111 := nS hg BK101; have NB111_101 := nG hg BK101; replace BK101 := kS BK101 hb; replace HB := bS hb; clear hb hbox hg; have hnb26 := NB111_101.out; have hnc26 := NB101_111.out; obtain ⟨hcz27_0, hcz27_1, hcz27_2, hcz27_3⟩ := cz4 BK111.out; obtain ⟨hfz27_0, hfz27_1, hfz27_2, hfz27_3⟩ := fz4 BK111.out; obtain ⟨Ao28, co28, eo28⟩ := Kd.R_slice HO106.out; subst eo28; obtain ⟨Ao29, co29, eo29⟩ := Kd.R_slice HO109.out; subst eo29) | ((with_reducible refine gate_callee (f := 128) rfl ?_); refine gl 24 Tryz.func128 _ ((spec_DotGet.calls (w := _) (h := A17.out)).mono ?_); rintro e w30 ⟨v114, rfl, ho0, hb⟩; refine ⟨_, rfl, ?_⟩; replace HO106 := fS HO106 BK111 hb; have HO115 := Aside0.mk (Kd.R_lower (Kd.R_new' ho0 (Kd.R_lt (fO HO109 BK111))) (bZ)); replace HO109 := Aside0.mk (Kd.R_elder' (fO HO109 BK111) (Kd.R_base ho0) hb); replace BK101 := kS BK101 hb; replace BK111 := kP (.cells #[.string t102, .string t103, .slice Ao28 t104.length co28, .slice Ao29 t107.length co29] 35 (0, 0)) BK111 hb; replace HB := bS hb; clear hb ho0; obtain ⟨Ao31, co31, eo31⟩ := Kd.R_slice HO115.out; subst eo31; obtain ⟨hcz32_0, hcz32_1, hcz32_2, hcz32_3⟩ := cz4 BK111.out; obtain ⟨hfz32_0, hfz32_1, hfz32_2, hfz32_3⟩ := fz4 BK111.out) | (go_at_call 56; refine (spec_l2Ok.calls (w := _) (hr0_2 := by refine (Kd.R_reads' (e := 32) (base := w.heap.size) (ok := fun k_ => True) (n := t104.length) (c := co28) ?_).2.2; exact (fO HO106 BK111)) (hc0_2 := cL HO106) (hr0_3 := (Kd.R_reads' (fO HO115 BK111)).2.2) (hc0_3 := cL HO115) (h := A19.out)).mono ?_; rintro e w33 ⟨rfl, hb⟩; replace HO106 := fS HO106 BK111 hb; replace HO109 := fS HO109 BK111 hb; replace HO115 := fS HO115 BK111 hb; replace BK101 := kS BK101 hb; replace BK111 := kP (.cells #[.string t102, .string t103, .slice Ao28 t104.length co28, .slice Ao31 t112.length co31] 35 (0, 0)) BK111 hb; replace HB := bS hb; clear hb; obtain ⟨hcz34_0, hcz34_1, hcz34_2, hcz34_3⟩ := cz4 BK111.out; obtain ⟨hfz34_0, hfz34_1, hfz34_2, hfz34_3⟩ := fz4 BK111.out) | (go_at_call 60; refine (spec_l2Put.calls (w := _) (hr0_2 := rC HO106) (hc0_2 := cL HO106) (hr0_3 := rC HO115) (hc0_3 := cL HO115) (h := A21.out)).mono ?_; rintro e w35 ⟨rfl, hb⟩; replace HO106 := rS HO106 hb; replace HO109 := rS HO109 hb; replace HO115 := rS HO115 hb; replace BK101 := kS BK101 hb; replace BK111 := kS BK111 hb; replace HB := bS hb; clear hb; obtain ⟨hcz36_0, hcz36_1, hcz36_2, hcz36_3⟩ := cz4 BK111.out; obtain ⟨hfz36_0, hfz36_1, hfz36_2, hfz36_3⟩ := fz4 BK111.out; obtain ⟨hcz37_0, hcz37_1, hcz37_2, hcz37_3⟩ := cz4 BK101.out; obtain ⟨hfz37_0, hfz37_1, hfz37_2, hfz37_3⟩ := fz4 BK101.out))
      refine bodyPost_ret (results_ct rfl _ _ gb101 35 #[.string t102, .string t103, .slice Ao28 t104.length co28, .slice Ao31 t112.length co31] (0, 0) _ rfl (kQ BK101) Tryz.underlying35 rfl z0_) rfl ?_
      exact ⟨_, _, zr, fM HO106 BK101 (fun _ hk => trivial), fM HO115 BK101 (fun _ hk => trivial), zB⟩
     ·simp only [Option.some.injEq, Prod.mk.injEq] at H
      obtain ⟨rfl, rfl, rfl, rfl, rfl⟩ := H
      go_enter Tryz.func86, Tryz.ntmps86
      go_wp2_with (first | ((with_reducible refine gate_dst (N := 2) rfl ?_); refine bx (cs := #[.string ⟨#[]⟩, .string ⟨#[]⟩, .slice none 0 0, .slice none 0 0]) (t := 35) ?_; intro gb101 hg w38 hbox hb; have BK101 := Aside0.mk (hbox); have GW101 := gS hg; have GE101 := gS hg; replace HB := bS hb; clear hb hbox hg) | ((with_reducible refine gate_callee (f := 127) rfl ?_); refine gl 14 Tryz.func127 _ ((spec_l2Get.calls (w := _) (h := A5.out)).mono ?_); rintro e w39 ⟨v105, v108, rfl, ho0, ho1, hb⟩; refine ⟨_, rfl, ?_⟩; have HO106 := lS ho0; have HO109 := lS ho1; replace BK101 := kS BK101 hb; replace HB := bS hb; clear hb ho0; (try clear ho1)) | ((with_reducible refine gate_dst (N := 4) rfl ?_); refine bx (cs := #[.string ⟨#[]⟩, .string ⟨#[]⟩, .slice none 0 0, .slice none 0 0]) (t := 35) ?_; intro gb111 hg w40 hbox hb; replace HO106 := rS HO106 hb; replace HO109 := rS HO109 hb; have BK111 := Aside0.mk (hbox); have GW111 := gS hg; have GE111 := gS hg; have NB101_111 := nS hg BK101; have NB111_101 := nG hg BK101; replace BK101 := kS BK101 hb; replace HB := bS hb; clear hb hbox hg; have hnb41 := NB111_101.out; have hnc41 := NB101_111.out; obtain ⟨hcz42_0, hcz42_1, hcz42_2, hcz42_3⟩ := cz4 BK111.out; obtain ⟨hfz42_0, hfz42_1, hfz42_2, hfz42_3⟩ := fz4 BK111.out; obtain ⟨Ao43, co43, eo43⟩ := Kd.R_slice HO106.out; subst eo43; obtain ⟨Ao44, co44, eo44⟩ := Kd.R_slice HO109.out; subst eo44) | ((with_reducible refine gate_callee (f := 128) rfl ?_); refine gl 24 Tryz.func128 _ ((spec_DotGet.calls (w := _) (h := A17.out)).mono ?_); rintro e w45 ⟨v114, rfl, ho0, hb⟩; refine ⟨_, rfl, ?_⟩; replace HO106 := fS HO106 BK111 hb; have HO115 := Aside0.mk (Kd.R_lower (Kd.R_new' ho0 (Kd.R_lt (fO HO109 BK111))) (bZ)); replace HO109 := Aside0.mk (Kd.R_elder' (fO HO109 BK111) (Kd.R_base ho0) hb); replace BK101 := kS BK101 hb; replace BK111 := kP (.cells #[.string t102, .string t103, .slice Ao43 t104.length co43, .slice Ao44 t107.length co44] 35 (0, 0)) BK111 hb; replace HB := bS hb; clear hb ho0; obtain ⟨Ao46, co46, eo46⟩ := Kd.R_slice HO115.out; subst eo46; obtain ⟨hcz47_0, hcz47_1, hcz47_2, hcz47_3⟩ := cz4 BK111.out; obtain ⟨hfz47_0, hfz47_1, hfz47_2, hfz47_3⟩ := fz4 BK111.out) | (go_at_call 56; refine (spec_l2Ok.calls (w := _) (hr0_2 := by refine (Kd.R_reads' (e := 32) (base := w.heap.size) (ok := fun k_ => True) (n := t104.length) (c := co43) ?_).2.2; exact (fO HO106 BK111)) (hc0_2 := cL HO106) (hr0_3 := (Kd.R_reads' (fO HO115 BK111)).2.2) (hc0_3 := cL HO115) (h := A19.out)).mono ?_; rintro e w48 ⟨rfl, hb⟩; replace HO106 := fS HO106 BK111 hb; replace HO109 := fS HO109 BK111 hb; replace HO115 := fS HO115 BK111 hb; replace BK101 := kS BK101 hb; replace BK111 := kP (.cells #[.string t102, .string t103, .slice Ao43 t104.length co43, .slice Ao46 t112.length co46] 35 (0, 0)) BK111 hb; replace HB := bS hb; clear hb; obtain ⟨hcz49_0, hcz49_1, hcz49_2, hcz49_3⟩ := cz4 BK111.out; obtain ⟨hfz49_0, hfz49_1, hfz49_2, hfz49_3⟩ := fz4 BK111.out) | (go_at_call 60; refine (spec_l2Put.calls (w := _) (hr0_2 := rC HO106) (hc0_2 := cL HO106) (hr0_3 := rC HO115) (hc0_3 := cL HO115) (h := A21.out)).mono ?_; rintro e w50 ⟨rfl, hb⟩; replace HO106 := rS HO106 hb; replace HO109 := rS HO109 hb; replace HO115 := rS HO115 hb; replace BK101 := kS BK101 hb; replace BK111 := kS BK111 hb; replace HB := bS hb; clear hb; obtain ⟨hcz51_0, hcz51_1, hcz51_2, hcz51_3⟩ := cz4 BK101.out; obtain ⟨hfz51_0, hfz51_1, hfz51_2, hfz51_3⟩ := fz4 BK101.out))
      refine bodyPost_ret (results_ct rfl _ _ gb101 35 #[.string (⟨#[]⟩ : ByteArray), .string (⟨#[]⟩ : ByteArray), .slice none 0 0, .slice none 0 0] (0, 0) _ rfl (kQ BK101) Tryz.underlying35 rfl z0_) rfl ?_
      exact ⟨_, _, zr, zn, zn, zB⟩
    ·simp only [Option.some.injEq, Prod.mk.injEq] at H
     obtain ⟨rfl, rfl, rfl, rfl, rfl⟩ := H
     go_enter Tryz.func86, Tryz.ntmps86
     go_wp2_with (first | ((with_reducible refine gate_dst (N := 2) rfl ?_); refine bx (cs := #[.string ⟨#[]⟩, .string ⟨#[]⟩, .slice none 0 0, .slice none 0 0]) (t := 35) ?_; intro gb101 hg w52 hbox hb; have BK101 := Aside0.mk (hbox); have GW101 := gS hg; have GE101 := gS hg; replace HB := bS hb; clear hb hbox hg) | ((with_reducible refine gate_callee (f := 127) rfl ?_); refine gl 14 Tryz.func127 _ ((spec_l2Get.calls (w := _) (h := A5.out)).mono ?_); rintro e w53 ⟨v105, v108, rfl, ho0, ho1, hb⟩; refine ⟨_, rfl, ?_⟩; have HO106 := lS ho0; have HO109 := lS ho1; replace BK101 := kS BK101 hb; replace HB := bS hb; clear hb ho0; (try clear ho1)) | ((with_reducible refine gate_dst (N := 4) rfl ?_); refine bx (cs := #[.string ⟨#[]⟩, .string ⟨#[]⟩, .slice none 0 0, .slice none 0 0]) (t := 35) ?_; intro gb111 hg w54 hbox hb; replace HO106 := rS HO106 hb; replace HO109 := rS HO109 hb; have BK111 := Aside0.mk (hbox); have GW111 := gS hg; have GE111 := gS hg; have NB101_111 := nS hg BK101; have NB111_101 := nG hg BK101; replace BK101 := kS BK101 hb; replace HB := bS hb; clear hb hbox hg; have hnb55 := NB111_101.out; have hnc55 := NB101_111.out; obtain ⟨hcz56_0, hcz56_1, hcz56_2, hcz56_3⟩ := cz4 BK111.out; obtain ⟨hfz56_0, hfz56_1, hfz56_2, hfz56_3⟩ := fz4 BK111.out; obtain ⟨Ao57, co57, eo57⟩ := Kd.R_slice HO106.out; subst eo57; obtain ⟨Ao58, co58, eo58⟩ := Kd.R_slice HO109.out; subst eo58) | ((with_reducible refine gate_callee (f := 128) rfl ?_); refine gl 24 Tryz.func128 _ ((spec_DotGet.calls (w := _) (h := A17.out)).mono ?_); rintro e w59 ⟨v114, rfl, ho0, hb⟩; refine ⟨_, rfl, ?_⟩; replace HO106 := fS HO106 BK111 hb; have HO115 := Aside0.mk (Kd.R_lower (Kd.R_new' ho0 (Kd.R_lt (fO HO109 BK111))) (bZ)); replace HO109 := Aside0.mk (Kd.R_elder' (fO HO109 BK111) (Kd.R_base ho0) hb); replace BK101 := kS BK101 hb; replace BK111 := kP (.cells #[.string t102, .string t103, .slice Ao57 t104.length co57, .slice Ao58 t107.length co58] 35 (0, 0)) BK111 hb; replace HB := bS hb; clear hb ho0; obtain ⟨Ao60, co60, eo60⟩ := Kd.R_slice HO115.out; subst eo60; obtain ⟨hcz61_0, hcz61_1, hcz61_2, hcz61_3⟩ := cz4 BK111.out; obtain ⟨hfz61_0, hfz61_1, hfz61_2, hfz61_3⟩ := fz4 BK111.out) | (go_at_call 56; refine (spec_l2Ok.calls (w := _) (hr0_2 := by refine (Kd.R_reads' (e := 32) (base := w.heap.size) (ok := fun k_ => True) (n := t104.length) (c := co57) ?_).2.2; exact (fO HO106 BK111)) (hc0_2 := cL HO106) (hr0_3 := (Kd.R_reads' (fO HO115 BK111)).2.2) (hc0_3 := cL HO115) (h := A19.out)).mono ?_; rintro e w62 ⟨rfl, hb⟩; replace HO106 := fS HO106 BK111 hb; replace HO109 := fS HO109 BK111 hb; replace HO115 := fS HO115 BK111 hb; replace BK101 := kS BK101 hb; replace BK111 := kP (.cells #[.string t102, .string t103, .slice Ao57 t104.length co57, .slice Ao60 t112.length co60] 35 (0, 0)) BK111 hb; replace HB := bS hb; clear hb; obtain ⟨hcz63_0, hcz63_1, hcz63_2, hcz63_3⟩ := cz4 BK101.out; obtain ⟨hfz63_0, hfz63_1, hfz63_2, hfz63_3⟩ := fz4 BK101.out))
     refine bodyPost_ret (results_ct rfl _ _ gb101 35 #[.string (⟨#[]⟩ : ByteArray), .string (⟨#[]⟩ : ByteArray), .slice none 0 0, .slice none 0 0] (0, 0) _ rfl (kQ BK101) Tryz.underlying35 rfl z0_) rfl ?_
     exact ⟨_, _, zr, zn, zn, zB⟩
   ·simp only [Option.some.injEq, Prod.mk.injEq] at H
    obtain ⟨rfl, rfl, rfl, rfl, rfl⟩ := H
    go_enter Tryz.func86, Tryz.ntmps86
    go_wp2_with (first | ((with_reducible refine gate_dst (N := 2) rfl ?_); refine bx (cs := #[.string ⟨#[]⟩, .string ⟨#[]⟩, .slice none 0 0, .slice none 0 0]) (t := 35) ?_; intro gb101 hg w64 hbox hb; have BK101 := Aside0.mk (hbox); have GW101 := gS hg; have GE101 := gS hg; replace HB := bS hb; clear hb hbox hg) | ((with_reducible refine gate_callee (f := 127) rfl ?_); refine gl 14 Tryz.func127 _ ((spec_l2Get.calls (w := _) (h := A5.out)).mono ?_); rintro e w65 ⟨v105, v108, rfl, ho0, ho1, hb⟩; refine ⟨_, rfl, ?_⟩; have HO106 := lS ho0; have HO109 := lS ho1; replace BK101 := kS BK101 hb; replace HB := bS hb; clear hb ho0; (try clear ho1)) | ((with_reducible refine gate_dst (N := 4) rfl ?_); refine bx (cs := #[.string ⟨#[]⟩, .string ⟨#[]⟩, .slice none 0 0, .slice none 0 0]) (t := 35) ?_; intro gb111 hg w66 hbox hb; replace HO106 := rS HO106 hb; replace HO109 := rS HO109 hb; have BK111 := Aside0.mk (hbox); have GW111 := gS hg; have GE111 := gS hg; have NB101_111 := nS hg BK101; have NB111_101 := nG hg BK101; replace BK101 := kS BK101 hb; replace HB := bS hb; clear hb hbox hg; have hnb67 := NB111_101.out; have hnc67 := NB101_111.out; obtain ⟨hcz68_0, hcz68_1, hcz68_2, hcz68_3⟩ := cz4 BK111.out; obtain ⟨hfz68_0, hfz68_1, hfz68_2, hfz68_3⟩ := fz4 BK111.out; obtain ⟨Ao69, co69, eo69⟩ := Kd.R_slice HO106.out; subst eo69; obtain ⟨Ao70, co70, eo70⟩ := Kd.R_slice HO109.out; subst eo70) | ((with_reducible refine gate_callee (f := 128) rfl ?_); refine gl 24 Tryz.func128 _ ((spec_DotGet.calls (w := _) (h := A17.out)).mono ?_); rintro e w71 ⟨v114, rfl, ho0, hb⟩; refine ⟨_, rfl, ?_⟩; replace HO106 := fS HO106 BK111 hb; have HO115 := Aside0.mk (Kd.R_lower (Kd.R_new' ho0 (Kd.R_lt (fO HO109 BK111))) (bZ)); replace HO109 := Aside0.mk (Kd.R_elder' (fO HO109 BK111) (Kd.R_base ho0) hb); replace BK101 := kS BK101 hb; replace BK111 := kP (.cells #[.string t102, .string t103, .slice Ao69 t104.length co69, .slice Ao70 t107.length co70] 35 (0, 0)) BK111 hb; replace HB := bS hb; clear hb ho0; obtain ⟨Ao72, co72, eo72⟩ := Kd.R_slice HO115.out; subst eo72; obtain ⟨hcz73_0, hcz73_1, hcz73_2, hcz73_3⟩ := cz4 BK111.out; obtain ⟨hfz73_0, hfz73_1, hfz73_2, hfz73_3⟩ := fz4 BK111.out; obtain ⟨hcz74_0, hcz74_1, hcz74_2, hcz74_3⟩ := cz4 BK101.out; obtain ⟨hfz74_0, hfz74_1, hfz74_2, hfz74_3⟩ := fz4 BK101.out))
    refine bodyPost_ret (results_ct rfl _ _ gb101 35 #[.string (⟨#[]⟩ : ByteArray), .string (⟨#[]⟩ : ByteArray), .slice none 0 0, .slice none 0 0] (0, 0) _ rfl (kQ BK101) Tryz.underlying35 rfl z0_) rfl ?_
    exact ⟨_, _, zr, zn, zn, zB⟩
end Go.Proofs.YtbncnjgflhoneaaGreatDoor.F
namespace Go.Proofs.YtbncnjgflhoneaaGreatDoor.Hand
open Go.RowKit Go.Proofs.YtbncnjgflhoneaaGreatDoor.F Go.Proofs.YtbncnjgflhoneaaGreatDoorW.PrintWords Go.Proofs.YtbncnjgflhoneaaGreatDoorW.PrintLast Go.Proofs.YtbncnjgflhoneaaGreatDoorW.PrintMore
def headS : List (List UInt8) → Nat → Nat → ByteArray → ByteArray → List S32 → ByteArray × ByteArray × List S32 × Nat
  | [], _, _, u, d, ts => (u, d, ts, 0)
  | t :: r, i, n, u, d, ts =>
    if t = [] ∧ 1 < i then (u, d, ts, n + t.length + 2)
    else if i = 0 ∧ 5 < t.length ∧ t.take 5 = [102, 114, 111, 109, 32] then (if (addrS (t.drop 5)).2.2 = true then headS r (i + 1) (n + t.length + 2) (addrS (t.drop 5)).1 (addrS (t.drop 5)).2.1 ts else (u, d, ts, 0))
    else if 0 < i ∧ 3 < t.length ∧ t.take 3 = [116, 111, 32] then (if (addrS (t.drop 3)).2.2 = true then headS r (i + 1) (n + t.length + 2) u d (ts ++ [⟨(addrS (t.drop 3)).1, (addrS (t.drop 3)).2.1⟩]) else (u, d, ts, 0))
    else (u, d, ts, 0)
def outS (q : ByteArray × ByteArray × List S32 × Nat) : ByteArray × ByteArray × List S32 × List ByteArray × Int := (q.1, q.2.1, q.2.2.1, [], (q.2.2.2 : Int))
theorem from_of (t : List UInt8) (a : Nat) : (B t).extract a (B t).size = B (t.drop a) := by
  refine eq_B ?_
  rw [extract_data', B_data, List.take_of_length_le (by rw [B_size]; exact Nat.le_refl _)]
theorem upto_of (t : List UInt8) (a : Nat) : ((B t).extract 0 a).toList = t.take a := by
  rw [toL, extract_data', B_data, List.drop_zero]
theorem shead_from (L : List (List UInt8)) (hL : L.length ≤ 801) (hLs : ∀ t ∈ L, t.length ≤ 800) : ∀ (e i n : Nat) (u d : ByteArray) (ts : List S32), L.length = i + e → n ≤ i * 1000 → ts.length ≤ i →
    Ev (fun k => spec_l2Get.l0 k (L.map B) (n : Int) (i : Int) u d ts) (outS (headS (L.drop i) i n u d ts)) := by
  have hml : (L.map B).length = L.length := List.length_map ..
  intro e
  induction e with
  | zero =>
    intro i n u d ts hi hn hts
    rw [List.drop_eq_nil_of_le (by omega)]
    refine Ev.step (f := fun _ => some (u, d, ts, [], 0)) (fun k => by rw [spec_l2Get.l0, if_neg (by omega)]) (Ev.now _)
  | succ e ih =>
    intro i n u d ts hi hn hts
    have hlt : i < L.length := by omega
    have hlt' : i < (L.map B).length := by omega
    have hr : rdOf ByteArray.empty (L.map B) (i : Int) = B L[i] := by rw [rdOf_mem' _ _ i hlt', List.getElem_map]
    have ht := hLs L[i] (List.getElem_mem hlt)
    have hsz : (B L[i]).size = L[i].length := B_size _
    rw [List.drop_eq_getElem_cons hlt, headS]
    generalize L[i] = t at *
    have hw : wrap64 ((wrap64 ((n : Int) + ((B t).size : Int))) + 2) = ((n + t.length + 2 : Nat) : Int) := by
      rw [hsz, wrapIn (x := (n : Int) + (t.length : Int)) (by omega) (by omega), wrapIn (x := (n : Int) + (t.length : Int) + 2) (by omega) (by omega)]
      omega
    have hi1 : wrap64 ((i : Int) + 1) = ((i + 1 : Nat) : Int) := by rw [wrapIn (by omega) (by omega)]; omega
    have stop : Ev (fun _ : Nat => (some (u, d, ts, ([] : List ByteArray), (0 : Int)) : Option (ByteArray × ByteArray × List S32 × List ByteArray × Int))) (outS (u, d, ts, 0)) := Ev.now _
    by_cases hA : t = [] ∧ 1 < i
    · rw [if_pos hA]
      refine Ev.step (f := fun k => spec_l2Get.j1 k (L.map B) ((n + t.length + 2 : Nat) : Int) (i : Int) (B t) true u d ts) (fun k => by
        rw [spec_l2Get.l0, if_pos (by omega), if_pos (by omega), hr, hw, B_toList, if_pos hA.1, decide_eq_true (by omega)]) ?_
      exact Ev.step (f := fun _ => some (u, d, ts, [], ((n + t.length + 2 : Nat) : Int))) (fun k => by rw [spec_l2Get.j1, if_pos rfl]) (Ev.now _)
    rw [if_neg hA]
    refine Ev.step (f := fun k => spec_l2Get.j1 k (L.map B) ((n + t.length + 2 : Nat) : Int) (i : Int) (B t) false u d ts) (fun k => by
      rw [spec_l2Get.l0, if_pos (by omega), if_pos (by omega), hr, hw, B_toList]
      by_cases h0 : t = []
      · rw [if_pos h0, decide_eq_false (fun h => hA ⟨h0, by omega⟩)]
      · rw [if_neg h0]) ?_
    by_cases hB : i = 0 ∧ 5 < t.length ∧ t.take 5 = [102, 114, 111, 109, 32]
    · rw [if_pos hB]
      obtain ⟨h0, h5, hp⟩ := hB
      refine Ev.step (f := fun k => spec_l2Get.j2 k (L.map B) ((n + t.length + 2 : Nat) : Int) (i : Int) (B t) true u d ts) (fun k => by
        rw [spec_l2Get.j1, if_neg (by decide), if_pos (by omega), hsz, if_pos (by omega), if_pos (by decide), if_pos (by omega), upto_of, hp]
        rfl) ?_
      refine Ev.step (f := fun k => (spec_AddrGet.f k (B (t.drop 5))).bind fun bt108 => (if bt108.2.2 = true then (spec_l2Get.l0 k (L.map B) ((n + t.length + 2 : Nat) : Int) ((i + 1 : Nat) : Int) bt108.1 bt108.2.1 ts) else (some (u, d, ts, ([] : List ByteArray), 0)))) (fun k => by
        rw [spec_l2Get.j2, if_pos rfl, hi1, if_pos (by omega), from_of]) ?_
      have ha := saddrget_tells (B (t.drop 5)) (by rw [B_size, List.length_drop]; omega)
      rw [B_data] at ha
      refine Ev.bind ha ?_
      by_cases hok : (addrS (t.drop 5)).2.2 = true
      · rw [if_pos hok]
        exact Ev.congr (fun k => if_pos hok) (ih (i + 1) (n + t.length + 2) _ _ ts (by omega) (by omega) (by omega))
      · rw [if_neg hok]
        exact Ev.congr (fun k => if_neg hok) stop
    rw [if_neg hB]
    refine Ev.step (f := fun k => spec_l2Get.j2 k (L.map B) ((n + t.length + 2 : Nat) : Int) (i : Int) (B t) false u d ts) (fun k => by
      rw [spec_l2Get.j1, if_neg (by decide), hsz]
      by_cases h0 : i = 0
      · rw [if_pos (by omega)]
        by_cases h5 : 5 < t.length
        · rw [if_pos (by omega), if_pos (by decide), if_pos (by omega), upto_of, show (t.take 5 == [102, 114, 111, 109, 32]) = false from beq_eq_false_iff_ne.2 (fun h => hB ⟨h0, h5, h⟩)]
        · rw [if_neg (by omega)]
      · rw [if_neg (by omega)]) ?_
    by_cases hC : 0 < i ∧ 3 < t.length ∧ t.take 3 = [116, 111, 32]
    · rw [if_pos hC]
      obtain ⟨h0, h3, hp⟩ := hC
      refine Ev.step (f := fun k => spec_l2Get.j3 k (L.map B) ((n + t.length + 2 : Nat) : Int) (i : Int) (B t) true u d ts) (fun k => by
        rw [spec_l2Get.j2, if_neg (by decide), if_pos (by omega), hsz, if_pos (by omega), if_pos (by decide), if_pos (by omega), upto_of, hp]
        rfl) ?_
      refine Ev.step (f := fun k => (spec_AddrGet.f k (B (t.drop 3))).bind fun bt112 => (if bt112.2.2 = true then (if ts.length < 4398046511104 then (spec_l2Get.l0 k (L.map B) ((n + t.length + 2 : Nat) : Int) ((i + 1 : Nat) : Int) u d (ts ++ [(⟨bt112.1, bt112.2.1⟩ : S32)])) else (none)) else (some (u, d, ts, ([] : List ByteArray), 0)))) (fun k => by
        rw [spec_l2Get.j3, if_pos rfl, hi1, if_pos (by omega), from_of]) ?_
      have ha := saddrget_tells (B (t.drop 3)) (by rw [B_size, List.length_drop]; omega)
      rw [B_data] at ha
      refine Ev.bind ha ?_
      by_cases hok : (addrS (t.drop 3)).2.2 = true
      · rw [if_pos hok]
        exact Ev.congr (fun k => (if_pos hok).trans (if_pos (by omega))) (ih (i + 1) (n + t.length + 2) u d _ (by omega) (by omega) (by rw [List.length_append, List.length_singleton]; omega))
      · rw [if_neg hok]
        exact Ev.congr (fun k => if_neg hok) stop
    rw [if_neg hC]
    refine Ev.step (f := fun k => spec_l2Get.j3 k (L.map B) ((n + t.length + 2 : Nat) : Int) (i : Int) (B t) false u d ts) (fun k => by
      rw [spec_l2Get.j2, if_neg (by decide), hsz]
      by_cases h0 : 0 < i
      · rw [if_pos (by omega)]
        by_cases h3 : 3 < t.length
        · rw [if_pos (by omega), if_pos (by decide), if_pos (by omega), upto_of, show (t.take 3 == [116, 111, 32]) = false from beq_eq_false_iff_ne.2 (fun h => hC ⟨h0, h3, h⟩)]
        · rw [if_neg (by omega)]
      · rw [if_neg (by omega)]) ?_
    exact Ev.step (f := fun _ => some (u, d, ts, [], 0)) (fun k => by rw [spec_l2Get.j3, if_neg (by decide)]) stop
theorem flat_front (p : List UInt8) (x : List (List UInt8) × List UInt8) : flatL (frontP p x).1 ++ (frontP p x).2 = p ++ (flatL x.1 ++ x.2) := by
  obtain ⟨l, t⟩ := x
  cases l <;> simp [frontP, flatL]
theorem flat_crlf : ∀ l : List UInt8, flatL (crlf l).1 ++ (crlf l).2 = l
  | [] => rfl
  | [a] => rfl
  | a :: b :: l => by
    rw [crlf]
    by_cases h : a = 13 ∧ b = 10
    · obtain ⟨rfl, rfl⟩ := h
      rw [if_pos ⟨rfl, rfl⟩]
      have ih := flat_crlf l
      show flatL ([] :: (crlf l).1) ++ (crlf l).2 = _
      have : flatL ([] :: (crlf l).1) = 13 :: 10 :: flatL (crlf l).1 := by simp [flatL]
      rw [this, List.cons_append, List.cons_append, ih]
    · rw [if_neg h, flat_front, flat_crlf (b :: l)]
      rfl
theorem headS_at : ∀ (L : List (List UInt8)) (i n : Nat) (u d : ByteArray) (ts : List S32), (headS L i n u d ts).2.2.2 ≤ n + (flatL L).length
  | [], i, n, u, d, ts => Nat.zero_le _
  | t :: r, i, n, u, d, ts => by
    have e : (flatL (t :: r)).length = t.length + 2 + (flatL r).length := by simp [flatL]; omega
    have ih := headS_at r (i + 1) (n + t.length + 2)
    rw [headS, e]
    split
    · show n + t.length + 2 ≤ _
      omega
    · split
      · split
        · have := ih (addrS (t.drop 5)).1 (addrS (t.drop 5)).2.1 ts
          omega
        · exact Nat.zero_le _
      · split
        · split
          · have := ih u d (ts ++ [⟨(addrS (t.drop 3)).1, (addrS (t.drop 3)).2.1⟩])
            omega
          · exact Nat.zero_le _
        · exact Nat.zero_le _
theorem Part.more {n m : Nat} {u d : ByteArray} {ts : List S32} (h : Part n u d ts) (hm : n ≤ m) : Part m u d ts := ⟨h.1, h.2.1, Nat.le_trans h.2.2.1 hm, h.2.2.2⟩
theorem headS_part : ∀ (L : List (List UInt8)) (i n : Nat) (u d : ByteArray) (ts : List S32), (∀ t ∈ L, t.length ≤ 800) → Part i u d ts → Part (i + L.length) (headS L i n u d ts).1 (headS L i n u d ts).2.1 (headS L i n u d ts).2.2.1
  | [], i, n, u, d, ts, _, hp => hp
  | t :: r, i, n, u, d, ts, hL, hp => by
    have ht := hL t (by simp)
    have hr : ∀ t ∈ r, t.length ≤ 800 := fun x hx => hL x (by simp [hx])
    have h5 := addrS_le (t.drop 5)
    have h3 := addrS_le (t.drop 3)
    rw [List.length_drop] at h5 h3
    have stay : Part (i + (t :: r).length) u d ts := hp.more (by omega)
    rw [headS]
    split
    · exact stay
    · split
      · split
        · have := headS_part r (i + 1) (n + t.length + 2) (addrS (t.drop 5)).1 (addrS (t.drop 5)).2.1 ts hr ⟨by omega, by omega, by have := hp.2.2.1; omega, hp.2.2.2⟩
          exact this.more (by rw [List.length_cons]; omega)
        · exact stay
      · split
        · split
          · have := headS_part r (i + 1) (n + t.length + 2) u d (ts ++ [⟨(addrS (t.drop 3)).1, (addrS (t.drop 3)).2.1⟩]) hr ⟨hp.1, hp.2.1, by rw [List.length_append, List.length_singleton]; have := hp.2.2.1; omega, fun a ha => by
              rcases List.mem_append.1 ha with ha | ha
              · exact hp.2.2.2 a ha
              · rw [List.mem_singleton] at ha
                subst ha
                exact ⟨by show (addrS _).1.size ≤ 800; omega, by show (addrS _).2.1.size ≤ 800; omega⟩⟩
            exact this.more (by rw [List.length_cons]; omega)
          · exact stay
        · exact stay
def topS (l : List UInt8) : ByteArray × ByteArray × List S32 × Nat := headS (crlf l).1 0 0 (B []) (B []) []
def finS (l b : List UInt8) (u d : ByteArray) (ts : List S32) : Mail := if (dotG b).2 = true then (if mailB u d ts (dotG b).1 = true then (if mailT u d ts (dotG b).1 = l then (u, d, ts, (dotG b).1, true) else noMail) else noMail) else noMail
def mailS (l : List UInt8) : Mail := if l.length > 800 then noMail else if (topS l).2.2.2 = 0 then noMail else finS l (l.drop (topS l).2.2.2) (topS l).1 (topS l).2.1 (topS l).2.2.1
theorem top_part (l : List UInt8) (hl : l.length ≤ 800) : Part 801 (topS l).1 (topS l).2.1 (topS l).2.2.1 := by
  have hc := crlf_le l
  exact (headS_part (crlf l).1 0 0 (B []) (B []) [] (fun t ht => by have := hc.2.1 t ht; omega) ⟨by decide, by decide, by decide, fun _ h => by cases h⟩).more (by omega)
theorem smailget_tells (s : ByteArray) : Ev (fun k => spec_MailGet.f k s) (mailS s.data.toList) := by
  have hl := data_length s
  have hc := crlf_le s.data.toList
  unfold mailS
  by_cases h8 : s.size > 800
  · rw [if_pos (by omega)]
    refine Ev.congr (f := fun _ => some noMail) (fun k => ?_) (Ev.now _)
    unfold spec_MailGet.f
    rw [if_pos (by omega)]
    rfl
  rw [if_neg (by omega)]
  have hg : Ev (fun k => spec_l2Get.f k s) (outS (topS s.data.toList)) := by
    refine Ev.bind (slines_tells s (by omega)) ?_
    have h := shead_from (crlf s.data.toList).1 (by omega) (fun t ht => by have := hc.2.1 t ht; omega) _ 0 0 (B []) (B []) [] (Nat.zero_add _).symm (Nat.le_refl _) (Nat.le_refl _)
    rw [List.drop_zero] at h
    exact h
  have hat : (topS s.data.toList).2.2.2 ≤ s.size := by
    have h1 := headS_at (crlf s.data.toList).1 0 0 (B []) (B []) []
    have h2 := congrArg List.length (flat_crlf s.data.toList)
    rw [List.length_append] at h2
    show (headS _ 0 0 _ _ _).2.2.2 ≤ _
    omega
  have hpart := top_part s.data.toList (by omega)
  have step : ∀ k, spec_MailGet.f k s = (spec_l2Get.f k s).bind fun bt102 => (if bt102.2.2.2.2 = 0 then (some ((⟨#[]⟩ : ByteArray), (⟨#[]⟩ : ByteArray), ([] : List (S32)), ([] : List ByteArray), false)) else (if 0 ≤ bt102.2.2.2.2 then (if bt102.2.2.2.2 ≤ (s.size : Int) then ((spec_DotGet.f k (s.extract (bt102.2.2.2.2 : Int).toNat s.size)).bind fun bt112 => (if bt112.2 = true then ((spec_l2Ok.f k bt102.1 bt102.2.1 bt102.2.2.1 bt112.1).bind fun t116 => (if t116 = true then ((spec_l2Put.f k bt102.1 bt102.2.1 bt102.2.2.1 bt112.1).bind fun t117 => (if t117.toList = s.toList then (some (bt102.1, bt102.2.1, bt102.2.2.1, bt112.1, true)) else (some ((⟨#[]⟩ : ByteArray), (⟨#[]⟩ : ByteArray), ([] : List (S32)), ([] : List ByteArray), false)))) else (some ((⟨#[]⟩ : ByteArray), (⟨#[]⟩ : ByteArray), ([] : List (S32)), ([] : List ByteArray), false)))) else (some ((⟨#[]⟩ : ByteArray), (⟨#[]⟩ : ByteArray), ([] : List (S32)), ([] : List ByteArray), false)))) else (none)) else (none))) := fun k => by
    unfold spec_MailGet.f
    rw [if_neg (by omega)]
  refine Ev.congr step (Ev.bind hg ?_)
  unfold outS
  generalize topS s.data.toList = q at *
  obtain ⟨u, d, ts, n⟩ := q
  have hat : n ≤ s.size := hat
  have hpart : Part 801 u d ts := hpart
  by_cases h0 : n = 0
  · rw [if_pos h0]
    exact Ev.congr (f := fun _ => some noMail) (fun k => if_pos (show ((n : Nat) : Int) = 0 by omega)) (Ev.now _)
  rw [if_neg h0]
  have he : s.extract n s.size = B (s.data.toList.drop n) := by
    have := from_of s.data.toList n
    rwa [B_of] at this
  refine Ev.congr (f := fun k => (spec_DotGet.f k (B (s.data.toList.drop n))).bind fun bt112 => (if bt112.2 = true then ((spec_l2Ok.f k u d ts bt112.1).bind fun t116 => (if t116 = true then ((spec_l2Put.f k u d ts bt112.1).bind fun t117 => (if t117.toList = s.toList then (some (u, d, ts, bt112.1, true)) else (some ((⟨#[]⟩ : ByteArray), (⟨#[]⟩ : ByteArray), ([] : List (S32)), ([] : List ByteArray), false)))) else (some ((⟨#[]⟩ : ByteArray), (⟨#[]⟩ : ByteArray), ([] : List (S32)), ([] : List ByteArray), false)))) else (some ((⟨#[]⟩ : ByteArray), (⟨#[]⟩ : ByteArray), ([] : List (S32)), ([] : List ByteArray), false)))) (fun k => by
    refine (if_neg (show ¬ ((n : Nat) : Int) = 0 by omega)).trans ((if_pos (show (0 : Int) ≤ ((n : Nat) : Int) by omega)).trans ((if_pos (show ((n : Nat) : Int) ≤ (s.size : Int) by omega)).trans ?_))
    show (spec_DotGet.f k (s.extract n s.size)).bind _ = _
    rw [he]) ?_
  have hd := sdotget_tells (B (s.data.toList.drop n)) (by rw [B_size, List.length_drop]; omega)
  rw [B_data] at hd
  have hsm := dotG_small (s.data.toList.drop n)
  refine Ev.bind hd ?_
  show Ev _ (finS s.data.toList (s.data.toList.drop n) u d ts)
  unfold finS
  have hsh := hpart.short (by omega) hsm
  by_cases h2 : (dotG (s.data.toList.drop n)).2 = true
  · rw [if_pos h2]
    refine Ev.congr (fun k => if_pos h2) ?_
    have hm := smail_tells u d ts _ hsh
    cases hb : mailB u d ts (dotG (s.data.toList.drop n)).1
    · rw [hb] at hm
      exact Ev.call hm (h := fun _ => some noMail) (fun k => if_neg (by decide)) (Ev.now _)
    · rw [hb] at hm
      rw [if_pos rfl]
      refine Ev.call hm (fun k => if_pos rfl) (Ev.call (sput_tells u d ts _ hsh hb) (h := fun _ => some (if mailT u d ts (dotG (s.data.toList.drop n)).1 = s.data.toList then (u, d, ts, (dotG (s.data.toList.drop n)).1, true) else noMail)) (fun k => ?_) (Ev.now _))
      rw [B_toList, toL]
      by_cases hq : mailT u d ts (dotG (s.data.toList.drop n)).1 = s.data.toList
      · rw [if_pos hq, if_pos hq]
      · rw [if_neg hq, if_neg hq]
        rfl
  · rw [if_neg h2]
    exact Ev.congr (fun k => if_neg h2) (Ev.now _)
theorem mailS_short (l : List UInt8) : Short (mailS l).1 (mailS l).2.1 (mailS l).2.2.1 (mailS l).2.2.2.1 := by
  unfold mailS
  split
  · exact noMail_short
  · rename_i h8
    have hp := top_part l (by omega)
    split
    · exact noMail_short
    · unfold finS
      split
      · split
        · split
          · exact hp.short (by omega) (dotG_small _)
          · exact noMail_short
        · exact noMail_short
      · exact noMail_short
theorem crlf_flat (s : List UInt8) : ∀ L : List (List UInt8), (∀ x ∈ L, (13 : UInt8) ∉ x) → crlf (flatL L ++ s) = (L ++ (crlf s).1, (crlf s).2)
  | [], _ => rfl
  | x :: L, h => by
    have e : flatL (x :: L) ++ s = x ++ 13 :: 10 :: (flatL L ++ s) := by simp [flatL]
    rw [e, crlf_line _ _ (h x (by simp)), crlf_flat s L (fun y hy => h y (by simp [hy]))]
    rfl
theorem addrT_pos (u d : ByteArray) : 2 ≤ (addrT u d).length := by
  unfold addrT
  split
  · exact Nat.le_refl _
  · simp
    omega
theorem headS_to (u d : ByteArray) (rest : List (List UInt8)) : ∀ (ts acc : List S32) (i n : Nat), 0 < i → 1 < i + ts.length → (∀ a ∈ ts, addrB a.f0 a.f1 = true) → headS (ts.map toL' ++ [] :: rest) i n u d acc = (u, d, acc ++ ts, n + (flatL (ts.map toL')).length + 2)
  | [], acc, i, n, _, h1, _ => by
    rw [List.map_nil, List.nil_append, headS, if_pos ⟨rfl, by simpa using h1⟩, List.append_nil]
    rfl
  | a :: ts, acc, i, n, hi, h1, h => by
    have hA := addrS_text (u := a.f0) (d := a.f1) (by rw [h a (by simp), Bool.or_true])
    have hp := addrT_pos a.f0 a.f1
    have ht : toL' a = 116 :: 111 :: 32 :: addrT a.f0 a.f1 := rfl
    have hd : (toL' a).drop 3 = addrT a.f0 a.f1 := rfl
    rw [List.length_cons] at h1
    rw [List.map_cons, List.cons_append, headS, if_neg (fun h => by rw [ht] at h; cases h.1), if_neg (by omega), if_pos ⟨hi, by rw [ht]; simp; omega, rfl⟩, hd, hA, if_pos rfl, headS_to u d rest ts _ (i + 1) _ (by omega) (by omega) (fun x hx => h x (by simp [hx])), List.append_assoc]
    have e : (flatL (toL' a :: ts.map toL')).length = (toL' a).length + 2 + (flatL (ts.map toL')).length := by simp [flatL]; omega
    rw [e]
    simp only [Prod.mk.injEq]
    exact ⟨trivial, trivial, rfl, by omega⟩
theorem mailS_text {u d : ByteArray} {ts : List S32} {body : List ByteArray} (h : mailB u d ts body = true) (hl : (mailT u d ts body).length ≤ 800) : mailS (mailT u d ts body) = (u, d, ts, body, true) := by
  obtain ⟨h1, h2, h3, _, h5⟩ := mail_parts h
  have hL := mail_lines h
  have hc : crlf (mailT u d ts body) = ((fromL u d :: ts.map toL') ++ [] :: (body.map dotted ++ [[46]]), []) := by
    rw [mailT_lines, crlf_flat _ _ (fun x hx => (hL x hx).1)]
    have : crlf (13 :: 10 :: dotsL body) = ([] :: (crlf (dotsL body)).1, (crlf (dotsL body)).2) := by rw [crlf, if_pos ⟨rfl, rfl⟩]
    rw [this, crlf_dots body (body_signs h5)]
  have hA := addrS_text h1
  have hp := addrT_pos u d
  have hf : fromL u d = 102 :: 114 :: 111 :: 109 :: 32 :: addrT u d := rfl
  have hd : (fromL u d).drop 5 = addrT u d := rfl
  have ht : topS (mailT u d ts body) = (u, d, ts, (flatL (fromL u d :: ts.map toL')).length + 2) := by
    unfold topS
    rw [hc, List.cons_append, headS, if_neg (by omega), if_pos ⟨rfl, by rw [hf]; simp; omega, rfl⟩, hd, hA, if_pos rfl, headS_to u d _ ts [] 1 _ (by decide) (by omega) h3]
    have e : (flatL (fromL u d :: ts.map toL')).length = (fromL u d).length + 2 + (flatL (ts.map toL')).length := by simp [flatL]; omega
    rw [e]
    simp only [Prod.mk.injEq]
    exact ⟨trivial, trivial, rfl, by omega⟩
  have hdrop : (mailT u d ts body).drop ((flatL (fromL u d :: ts.map toL')).length + 2) = dotsL body := by
    rw [mailT_lines, ← List.drop_drop, List.drop_left]
    rfl
  unfold mailS
  rw [if_neg (by omega), ht, if_neg (by simp), hdrop]
  unfold finS
  rw [dotG_text h5, if_pos rfl, if_pos h, if_pos rfl]
end Go.Proofs.YtbncnjgflhoneaaGreatDoor.Hand
namespace Go.Proofs.YtbncnjgflhoneaaGreatDoor.F
open Go.RowKit Go.Proofs.YtbncnjgflhoneaaGreatDoor.Hand Go.Proofs.YtbncnjgflhoneaaGreatDoorW.PrintWords Go.Proofs.YtbncnjgflhoneaaGreatDoorW.PrintLast Go.Proofs.YtbncnjgflhoneaaGreatDoorW.PrintMore
attribute [local go_sem] max2_int min2_int max_two min_two max_three min_three max_four min_four
set_option linter.unusedVariables false
set_option linter.unusedSimpArgs false
def spec_l1Num.l0 : Nat → ByteArray → Int → Int → Option (Int)
 | 0, _, _, _ => none
 | k + 1, x0, x3, x4 => if x4 < (x0.size : Int) then (if 0 ≤ x4 then (if (bt x0 x4) < 48 then (some (-1)) else (if (bt x0 x4) > 57 then (some (-1)) else (if x4 ≥ 9 then (some (-1)) else (spec_l1Num.l0 k x0 (wrap64 ((wrap64 (x3 * 10)) + (((bt x0 x4) - 48) % 256))) (wrap64 (x4 + 1)))))) else (none)) else (if (x0.size : Int) = 0 then (some (-1)) else (if (x0.size : Int) > 1 then (if 0 < (x0.size : Int) then (if (bt x0 0) = 48 then (some (-1)) else (some x3)) else (none)) else (some x3)))
def spec_l1Num.f (k : Nat) (a0 : ByteArray) : Option (Int) := spec_l1Num.l0 k a0 0 0
theorem spec_l1Num.mono_l : ∀ k, (∀ y0 y1 y2, LeO (spec_l1Num.l0 k y0 y1 y2) (spec_l1Num.l0 (k + 1) y0 y1 y2))
 | 0 => fun _ _ _ r h => by simp [spec_l1Num.l0] at h
 | k + 1 => by
  have ih0 := spec_l1Num.mono_l k
  ·intro y0 y1 y2
   unfold spec_l1Num.l0
   repeat' with_reducible first | apply ih0 | exact LeO.refl _ | exact LeO.none _ | apply LeO.ite | refine LeO.bind ?_ fun _ => ?_
theorem spec_l1Num.mono : ∀ a0 k, LeO (spec_l1Num.f k a0) (spec_l1Num.f (k + 1) a0) := by
 intro a0 k
 have ih0 := spec_l1Num.mono_l k
 unfold spec_l1Num.f
 repeat' with_reducible first | apply ih0 | exact LeO.refl _ | exact LeO.none _ | apply LeO.ite | refine LeO.bind ?_ fun _ => ?_
set_option maxHeartbeats 8000000 in
set_option maxRecDepth 100000 in
theorem spec_l1Num.calls (k : Nat) (a0 : ByteArray) (r : Int) (w : World) (h : spec_l1Num.f k a0 = some r) :
  Calls Tryz.prog 85 #[.string a0] w fun e w' => e = .returned (.int .i64 r) ∧ Drawn0 w w' := by
 have H := h
 clear h
 unfold spec_l1Num.f at H
 have H' := Aside0.mk H
 clear H
 go_enter Tryz.func85, Tryz.ntmps85
 go_wp2
 go_loopg [3, 4] k (fun kq v3 v4 w' => ∃ (x3_1 : Int) (x4_1 : Int), v3 = .int .i64 x3_1 ∧ v4 = .int .i64 x4_1 ∧ Aside0 (spec_l1Num.l0 kq a0 x3_1 x4_1 = some r) ∧ Aside0 (kq ≤ k) ∧ Drawn0 w w')
 case atStart => exact ⟨(0), (0), zs, zs, H', ⟨Nat.le_refl _⟩, zD⟩
 case round =>
  clear H'
  obtain ⟨x3_1, x4_1, rfl, rfl, HA, HK1, ⟨m1, rfl⟩⟩ := hrel
  cases gk with
  | zero => exact absurd HA.out (by simp [spec_l1Num.l0])
  | succ k1 =>
   have H := HA.out
   clear HA
   simp only [spec_l1Num.l0] at H
   replace H := its_d_d H; rcases H with ⟨c2b0, H⟩ | ⟨c2b0, H⟩
   ·replace H := itn_d H; obtain ⟨c3b0, H⟩ := H
    replace H := its_d_d H; rcases H with ⟨c5b0, H⟩ | ⟨c5b0, H⟩
    ·obtain rfl := Option.some.inj H
     have p4 : 0 ≤ (x4_1 : Int) := of_decide_eq_true za
     have q4 : x4_1 < (a0.size : Int) := of_decide_eq_true za
     have hx4 := bt_at a0 x4_1
     replace p4 := eq_true p4
     replace q4 := eq_true q4
     go_wp2
     go_ret
     exact ⟨zs, zD⟩
    ·replace H := its_d_d H; rcases H with ⟨c7b0, H⟩ | ⟨c7b0, H⟩
     ·obtain rfl := Option.some.inj H
      have p4 : 0 ≤ (x4_1 : Int) := of_decide_eq_true za
      have q4 : x4_1 < (a0.size : Int) := of_decide_eq_true za
      have hx4 := bt_at a0 x4_1
      replace p4 := eq_true p4
      replace q4 := eq_true q4
      have p6 : 0 ≤ (x4_1 : Int) := of_decide_eq_true za
      have q6 : x4_1 < (a0.size : Int) := of_decide_eq_true za
      have hx6 := bt_at a0 x4_1
      replace p6 := eq_true p6
      replace q6 := eq_true q6
      go_wp2
      go_ret
      exact ⟨zs, zD⟩
     ·replace H := its_d_d H; rcases H with ⟨c8b0, H⟩ | ⟨c8b0, H⟩
      ·obtain rfl := Option.some.inj H
       have p4 : 0 ≤ (x4_1 : Int) := of_decide_eq_true za
       have q4 : x4_1 < (a0.size : Int) := of_decide_eq_true za
       have hx4 := bt_at a0 x4_1
       replace p4 := eq_true p4
       replace q4 := eq_true q4
       have p6 : 0 ≤ (x4_1 : Int) := of_decide_eq_true za
       have q6 : x4_1 < (a0.size : Int) := of_decide_eq_true za
       have hx6 := bt_at a0 x4_1
       replace p6 := eq_true p6
       replace q6 := eq_true q6
       go_wp2
       go_ret
       exact ⟨zs, zD⟩
      ·have H' := Aside0.mk H
       clear H
       have p4 : 0 ≤ (x4_1 : Int) := of_decide_eq_true za
       have q4 : x4_1 < (a0.size : Int) := of_decide_eq_true za
       have hx4 := bt_at a0 x4_1
       replace p4 := eq_true p4
       replace q4 := eq_true q4
       have p6 : 0 ≤ (x4_1 : Int) := of_decide_eq_true za
       have q6 : x4_1 < (a0.size : Int) := of_decide_eq_true za
       have hx6 := bt_at a0 x4_1
       replace p6 := eq_true p6
       replace q6 := eq_true q6
       have p9 : 0 ≤ (x4_1 : Int) := of_decide_eq_true za
       have q9 : x4_1 < (a0.size : Int) := of_decide_eq_true za
       have hx9 := bt_at a0 x4_1
       replace p9 := eq_true p9
       replace q9 := eq_true q9
       go_wp2
       go_roundg k1
       case measure => have := HK1.out; omega
       case rel => exact ⟨(wrap64 ((wrap64 (x3_1 * 10)) + (((bt a0 x4_1) - 48) % 256))), (wrap64 (x4_1 + 1)), zs, zs, H', ⟨by have := HK1.out; omega⟩, zD⟩
   ·replace H := its_qn_qn H; rcases H with ⟨c10b0, c10b1, H⟩ | ⟨c10b0, c10b1, H⟩
    ·obtain rfl := Option.some.inj H
     go_wp2
     go_ret
     exact ⟨zs, zD⟩
    ·replace H := its_cd_cd H; rcases H with ⟨c11, c11b0, H⟩ | ⟨c11, c11b0, H⟩
     ·have c11b1 : decide (1 < a0.size) = true := decide_eq_true (by omega)
      clear c11
      replace H := itn_cd H; obtain ⟨c12, c12b0, H⟩ := H
      have c12b1 : decide (0 < a0.size) = true := decide_eq_true (by omega)
      clear c12
      replace H := its_qn_qn H; rcases H with ⟨c14b0, c14b1, H⟩ | ⟨c14b0, c14b1, H⟩
      ·obtain rfl := Option.some.inj H
       have p13 : 0 ≤ (0 : Int) := (by omega)
       have q13 : 0 < a0.size := (by have : (0 : Int) < (a0.size : Int) := of_decide_eq_true za; omega)
       have hx13 : ∀ h : 0 < a0.size, ((a0[0]'h).toNat : Int) = bt a0 0 := bt_at a0 0
       clear p13
       have qi13 : (0 < (a0.size : Int)) = True := eq_true (of_decide_eq_true za)
       replace q13 := eq_true q13
       go_wp2
       go_ret
       exact ⟨zs, zD⟩
      ·obtain rfl := Option.some.inj H
       have p13 : 0 ≤ (0 : Int) := (by omega)
       have q13 : 0 < a0.size := (by have : (0 : Int) < (a0.size : Int) := of_decide_eq_true za; omega)
       have hx13 : ∀ h : 0 < a0.size, ((a0[0]'h).toNat : Int) = bt a0 0 := bt_at a0 0
       clear p13
       have qi13 : (0 < (a0.size : Int)) = True := eq_true (of_decide_eq_true za)
       replace q13 := eq_true q13
       go_wp2
       go_ret
       exact ⟨zs, zD⟩
     ·have c11b1 : decide (1 < a0.size) = false := decide_eq_false (by omega)
      clear c11
      obtain rfl := Option.some.inj H
      go_wp2
      go_ret
      exact ⟨zs, zD⟩
end Go.Proofs.YtbncnjgflhoneaaGreatDoor.F
