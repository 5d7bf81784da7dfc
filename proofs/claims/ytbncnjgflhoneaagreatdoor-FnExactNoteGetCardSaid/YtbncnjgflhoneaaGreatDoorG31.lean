/- Of this claim, merged by program: F5. -/
import Derived.Test.YtbncnjgflhoneaaGreatDoorG02
import Derived.Test.YtbncnjgflhoneaaGreatDoorG22
import Derived.Test.YtbncnjgflhoneaaGreatDoorG24
import Derived.Test.YtbncnjgflhoneaaGreatDoorG27
import Derived.Test.YtbncnjgflhoneaaGreatDoorG28
import Derived.Test.YtbncnjgflhoneaaGreatDoorG30
namespace Go.Proofs.YtbncnjgflhoneaaGreatDoor.F
open Go.RowKit Go.Proofs.YtbncnjgflhoneaaGreatDoor.Hand Go.Proofs.YtbncnjgflhoneaaGreatDoorW.PrintWords Go.Proofs.YtbncnjgflhoneaaGreatDoorW.PrintLast Go.Proofs.YtbncnjgflhoneaaGreatDoorW.PrintMore
attribute [local go_sem] max2_int min2_int max_two min_two max_three min_three max_four min_four
set_option linter.unusedVariables false
set_option linter.unusedSimpArgs false

mutual
def laws_FnExactNoteGet.j0 : Nat → ByteArray → Bool → Bool → Int → Int → ByteArray → ByteArray → Int → ByteArray → ByteArray → List (S32) → List ByteArray → Int → Int → ByteArray → ByteArray → Int → ByteArray → ByteArray → List (S32) → List ByteArray → Option (Bool)
 | 0, _, _, _, _, _, _, _, _, _, _, _, _, _, _, _, _, _, _, _, _, _ => none
 | k + 1, x0, x4, x32, x116000, x116001, x116002, x116003, x116004, x116005, x116006, x116007, x116008, x131000, x131001, x131002, x131003, x131004, x131005, x131006, x131007, x131008 => if x32 = true then (some false) else ((laws_markNote.f k x131000 x131001 x131002 x131003 x131004 x131005 x131006 x131007 x131008 1).bind fun bt132 => ((laws_heldNote.f k x131000 x131001 x131002 x131003 x131004 x131005 x131006 bt132.2.1 bt132.2.2 1).bind fun t135 => (if t135 < 0 then (some false) else (if t135 = bt132.1 then ((impl_NoteGet.f k x0).bind fun bt136 => ((laws_eqNote.f k bt136.1 bt136.2.1 bt136.2.2.1 bt136.2.2.2.1 bt136.2.2.2.2.1 bt136.2.2.2.2.2.1 bt136.2.2.2.2.2.2.1 bt136.2.2.2.2.2.2.2.1 bt136.2.2.2.2.2.2.2.2.1 x116000 x116001 x116002 x116003 x116004 x116005 x116006 x116007 x116008).bind fun t151 => (if t151 = true then (laws_FnExactNoteGet.j1 k bt132.1 (bt136.2.2.2.2.2.2.2.2.2 != x4) x131000 x131001 x131002 x131003 x131004 x131005 x131006 bt132.2.1 bt132.2.2) else (laws_FnExactNoteGet.j1 k bt132.1 true x131000 x131001 x131002 x131003 x131004 x131005 x131006 bt132.2.1 bt132.2.2)))) else (some false)))))
def laws_FnExactNoteGet.j1 : Nat → Int → Bool → Int → Int → ByteArray → ByteArray → Int → ByteArray → ByteArray → List (S32) → List ByteArray → Option (Bool)
 | 0, _, _, _, _, _, _, _, _, _, _, _ => none
 | k + 1, x7, x57, x131000, x131001, x131002, x131003, x131004, x131005, x131006, x131007, x131008 => if x57 = true then (some false) else ((laws_heldNote.f k x131000 x131001 x131002 x131003 x131004 x131005 x131006 x131007 x131008 1).bind fun t152 => (if t152 < 0 then (some false) else (if t152 = x7 then (some true) else (some false))))
end
def laws_FnExactNoteGet.f (k : Nat) (a0 : ByteArray) : Option (Bool) := if (a0.size : Int) > 1048576 then (some true) else ((spec_NoteGet.f k a0).bind fun bt101 => ((impl_NoteGet.f k a0).bind fun bt116 => ((laws_eqNote.f k bt116.1 bt116.2.1 bt116.2.2.1 bt116.2.2.2.1 bt116.2.2.2.2.1 bt116.2.2.2.2.2.1 bt116.2.2.2.2.2.2.1 bt116.2.2.2.2.2.2.2.1 bt116.2.2.2.2.2.2.2.2.1 bt101.1 bt101.2.1 bt101.2.2.1 bt101.2.2.2.1 bt101.2.2.2.2.1 bt101.2.2.2.2.2.1 bt101.2.2.2.2.2.2.1 bt101.2.2.2.2.2.2.2.1 bt101.2.2.2.2.2.2.2.2.1).bind fun t131 => (if t131 = true then (laws_FnExactNoteGet.j0 k a0 bt101.2.2.2.2.2.2.2.2.2 (bt116.2.2.2.2.2.2.2.2.2 != bt101.2.2.2.2.2.2.2.2.2) bt101.1 bt101.2.1 bt101.2.2.1 bt101.2.2.2.1 bt101.2.2.2.2.1 bt101.2.2.2.2.2.1 bt101.2.2.2.2.2.2.1 bt101.2.2.2.2.2.2.2.1 bt101.2.2.2.2.2.2.2.2.1 bt116.1 bt116.2.1 bt116.2.2.1 bt116.2.2.2.1 bt116.2.2.2.2.1 bt116.2.2.2.2.2.1 bt116.2.2.2.2.2.2.1 bt116.2.2.2.2.2.2.2.1 bt116.2.2.2.2.2.2.2.2.1) else (laws_FnExactNoteGet.j0 k a0 bt101.2.2.2.2.2.2.2.2.2 true bt101.1 bt101.2.1 bt101.2.2.1 bt101.2.2.2.1 bt101.2.2.2.2.1 bt101.2.2.2.2.2.1 bt101.2.2.2.2.2.2.1 bt101.2.2.2.2.2.2.2.1 bt101.2.2.2.2.2.2.2.2.1 bt116.1 bt116.2.1 bt116.2.2.1 bt116.2.2.2.1 bt116.2.2.2.2.1 bt116.2.2.2.2.2.1 bt116.2.2.2.2.2.2.1 bt116.2.2.2.2.2.2.2.1 bt116.2.2.2.2.2.2.2.2.1)))))
theorem laws_FnExactNoteGet.mono_l : ∀ k, (∀ y0 y1 y2 y3 y4 y5 y6 y7 y8 y9 y10 y11 y12 y13 y14 y15 y16 y17 y18 y19 y20, LeO (laws_FnExactNoteGet.j0 k y0 y1 y2 y3 y4 y5 y6 y7 y8 y9 y10 y11 y12 y13 y14 y15 y16 y17 y18 y19 y20) (laws_FnExactNoteGet.j0 (k + 1) y0 y1 y2 y3 y4 y5 y6 y7 y8 y9 y10 y11 y12 y13 y14 y15 y16 y17 y18 y19 y20)) ∧ (∀ y0 y1 y2 y3 y4 y5 y6 y7 y8 y9 y10, LeO (laws_FnExactNoteGet.j1 k y0 y1 y2 y3 y4 y5 y6 y7 y8 y9 y10) (laws_FnExactNoteGet.j1 (k + 1) y0 y1 y2 y3 y4 y5 y6 y7 y8 y9 y10))
 | 0 => ⟨fun _ _ _ _ _ _ _ _ _ _ _ _ _ _ _ _ _ _ _ _ _ r h => by simp [laws_FnExactNoteGet.j0] at h, fun _ _ _ _ _ _ _ _ _ _ _ r h => by simp [laws_FnExactNoteGet.j1] at h⟩
 | k + 1 => by
  obtain ⟨ih0, ih1⟩ := laws_FnExactNoteGet.mono_l k
  refine ⟨?_, ?_⟩
  ·intro y0 y1 y2 y3 y4 y5 y6 y7 y8 y9 y10 y11 y12 y13 y14 y15 y16 y17 y18 y19 y20
   unfold laws_FnExactNoteGet.j0
   repeat' with_reducible first | apply ih0 | apply ih1 | apply impl_NoteGet.mono | apply laws_eqNote.mono | apply laws_heldNote.mono | apply laws_markNote.mono | apply spec_NoteGet.mono | exact LeO.refl _ | exact LeO.none _ | apply LeO.ite | refine LeO.bind ?_ fun _ => ?_
  ·intro y0 y1 y2 y3 y4 y5 y6 y7 y8 y9 y10
   unfold laws_FnExactNoteGet.j1
   repeat' with_reducible first | apply ih0 | apply ih1 | apply impl_NoteGet.mono | apply laws_eqNote.mono | apply laws_heldNote.mono | apply laws_markNote.mono | apply spec_NoteGet.mono | exact LeO.refl _ | exact LeO.none _ | apply LeO.ite | refine LeO.bind ?_ fun _ => ?_
theorem laws_FnExactNoteGet.mono : ∀ a0 k, LeO (laws_FnExactNoteGet.f k a0) (laws_FnExactNoteGet.f (k + 1) a0) := by
 intro a0 k
 obtain ⟨ih0, ih1⟩ := laws_FnExactNoteGet.mono_l k
 unfold laws_FnExactNoteGet.f
 repeat' with_reducible first | apply ih0 | apply ih1 | apply impl_NoteGet.mono | apply laws_eqNote.mono | apply laws_heldNote.mono | apply laws_markNote.mono | apply spec_NoteGet.mono | exact LeO.refl _ | exact LeO.none _ | apply LeO.ite | refine LeO.bind ?_ fun _ => ?_
set_option maxHeartbeats 8000000 in
set_option maxRecDepth 100000 in
theorem laws_FnExactNoteGet.calls (k : Nat) (a0 : ByteArray) (r : Bool) (w : World) (hG : Laid w) (h : laws_FnExactNoteGet.f k a0 = some r) :
  Calls Tryz.prog 5 #[.string a0] w fun e w' => e = .returned (.bool r) ∧ Below w.heap.size w w' := by
 have hu37 := Tryz.underlying37
 have HG := Aside0.mk hG
 clear hG
 have HB := Aside0.mk (Below.refl w.heap.size w)
 have H := h
 clear h
 unfold laws_FnExactNoteGet.f at H
 replace H := its_cd_cd H; rcases H with ⟨c2, c2b0, H⟩ | ⟨c2, c2b0, H⟩
 ·have c2b1 : decide (1048576 < a0.size) = true := decide_eq_true (by omega)
  clear c2
  obtain rfl := Option.some.inj H
  go_enter Tryz.func5, Tryz.ntmps5
  go_wp2
  go_ret
  exact ⟨zr, zB⟩
 ·have c2b1 : decide (1048576 < a0.size) = false := decide_eq_false (by omega)
  clear c2
  replace H := bnd H; obtain ⟨⟨t101, t102, t103, t104, t105, t106, t107, t108, t111, t114⟩, A3, H⟩ := H
  dsimp only at H
  replace H := bnd H; obtain ⟨⟨t116, t117, t118, t119, t120, t121, t122, t123, t126, t129⟩, A4, H⟩ := H
  dsimp only at H
  have HC5 := Aside0.mk H
  clear H
  go_enter Tryz.func5, Tryz.ntmps5
  go_upto_region 5 with (first | ((with_reducible refine gate_callee (f := 17) rfl ?_); refine gl 16 Tryz.func17 _ ((spec_NoteGet.calls (w := _) (h := A3.out)).mono ?_); rintro e w6 ⟨v109, v112, rfl, ho0, ho1, hb⟩; refine ⟨_, rfl, ?_⟩; have HO110 := lS ho0; have HO113 := lS ho1; replace HB := bS hb; clear hb ho0; (try clear ho1)) | ((with_reducible refine gate_dst (N := 3) rfl ?_); refine bx (cs := #[.int .i64 0, .int .i64 0, .string ⟨#[]⟩, .string ⟨#[]⟩, .int .i64 0, .string ⟨#[]⟩, .string ⟨#[]⟩, .slice none 0 0, .slice none 0 0]) (t := 37) ?_; intro gb115 hg w7 hbox hb; replace HO110 := rS HO110 hb; replace HO113 := rS HO113 hb; have BK115 := Aside0.mk (hbox); have GW115 := gS hg; have GE115 := gS hg; replace HB := bS hb; clear hb hbox hg; obtain ⟨hcz8_0, hcz8_1, hcz8_2, hcz8_3, hcz8_4, hcz8_5, hcz8_6, hcz8_7, hcz8_8⟩ := cz9 BK115.out; obtain ⟨hfz8_0, hfz8_1, hfz8_2, hfz8_3, hfz8_4, hfz8_5, hfz8_6, hfz8_7, hfz8_8⟩ := fz9 BK115.out; obtain ⟨Ao9, co9, eo9⟩ := Kd.R_slice HO110.out; subst eo9; obtain ⟨Ao10, co10, eo10⟩ := Kd.R_slice HO113.out; subst eo10) | ((with_reducible refine gate_callee (f := 15) rfl ?_); refine gl 21 Tryz.func15 _ ((impl_NoteGet.calls (w := _) (hG := gB) (h := A4.out)).mono ?_); rintro e w11 ⟨v124, v127, rfl, ho0, ho1, hb⟩; refine ⟨_, rfl, ?_⟩; have HO125 := Aside0.mk (Kd.R_lower (Kd.R_new' ho0 (Kd.R_lt (fO HO110 BK115))) (bZ)); replace HO110 := Aside0.mk (Kd.R_elder' (fO HO110 BK115) (Kd.R_base ho0) hb); have HO128 := Aside0.mk (Kd.R_lower (Kd.R_new' ho1 (Kd.R_lt (fO HO113 BK115))) (bZ)); replace HO113 := Aside0.mk (Kd.R_elder' (fO HO113 BK115) (Kd.R_base ho1) hb); replace BK115 := kP (.cells #[.int .i64 t101, .int .i64 t102, .string t103, .string t104, .int .i64 t105, .string t106, .string t107, .slice Ao9 t108.length co9, .slice Ao10 t111.length co10] 37 (0, 0)) BK115 hb; replace HB := bS hb; clear hb ho0; (try clear ho1)) | ((with_reducible refine gate_dst (N := 5) rfl ?_); refine bx (cs := #[.int .i64 0, .int .i64 0, .string ⟨#[]⟩, .string ⟨#[]⟩, .int .i64 0, .string ⟨#[]⟩, .string ⟨#[]⟩, .slice none 0 0, .slice none 0 0]) (t := 37) ?_; intro gb130 hg w12 hbox hb; replace HO110 := rS HO110 hb; replace HO113 := rS HO113 hb; replace HO125 := rS HO125 hb; replace HO128 := rS HO128 hb; have BK130 := Aside0.mk (hbox); have GW130 := gS hg; have GE130 := gS hg; have NB115_130 := nS hg BK115; have NB130_115 := nG hg BK115; replace BK115 := kS BK115 hb; replace HB := bS hb; clear hb hbox hg; have hnb13 := NB130_115.out; have hnc13 := NB115_130.out; obtain ⟨hcz14_0, hcz14_1, hcz14_2, hcz14_3, hcz14_4, hcz14_5, hcz14_6, hcz14_7, hcz14_8⟩ := cz9 BK130.out; obtain ⟨hfz14_0, hfz14_1, hfz14_2, hfz14_3, hfz14_4, hfz14_5, hfz14_6, hfz14_7, hfz14_8⟩ := fz9 BK130.out; obtain ⟨Ao15, co15, eo15⟩ := Kd.R_slice HO125.out; subst eo15; obtain ⟨Ao16, co16, eo16⟩ := Kd.R_slice HO128.out; subst eo16))
  (try simp only [Act.put, List.setIfInBounds_toArray, List.set_cons_zero, List.set_cons_succ])
  go_cut [32] (fun v32 wc => ∃ (kq : Nat) (x32_4 : Bool), v32 = .bool x32_4 ∧ Aside0 (laws_FnExactNoteGet.j0 kq a0 t114 x32_4 t101 t102 t103 t104 t105 t106 t107 t108 t111 t116 t117 t118 t119 t120 t121 t122 t123 t126 = some r) ∧ Aside0 (kq ≤ k) ∧ Aside0 (Kd.R k32 32 wc w.heap.size (fun k_ => some k_ ≠ ((.slice Ao15 t123.length co15) : Value).ownBlock) (.slice Ao9 t108.length co9) t108) ∧ Aside0 (Kd.R Kd.string 9 wc w.heap.size (fun k_ => some k_ ≠ ((.slice Ao16 t126.length co16) : Value).ownBlock) (.slice Ao10 t111.length co10) t111) ∧ Aside0 (Kd.R k32 32 wc w.heap.size (fun k_ => some k_ ≠ ((.slice Ao9 t108.length co9) : Value).ownBlock) (.slice Ao15 t123.length co15) t123) ∧ Aside0 (Kd.R Kd.string 9 wc w.heap.size (fun k_ => some k_ ≠ ((.slice Ao10 t111.length co10) : Value).ownBlock) (.slice Ao16 t126.length co16) t126) ∧ Aside0 (wc.heap[gb115]? = some (.cells #[.int .i64 t101, .int .i64 t102, .string t103, .string t104, .int .i64 t105, .string t106, .string t107, (.slice Ao9 t108.length co9), (.slice Ao10 t111.length co10)] 37 (0, 0))) ∧ Aside0 (wc.heap[gb130]? = some (.cells #[.int .i64 t116, .int .i64 t117, .string t118, .string t119, .int .i64 t120, .string t121, .string t122, (.slice Ao15 t123.length co15), (.slice Ao16 t126.length co16)] 37 (0, 0))) ∧ Aside0 (Below w.heap.size w wc))
  case first =>
   have H := HC5.out
   clear HC5
   replace H := bnd H; obtain ⟨t131, A17, H⟩ := H
   replace H := itb H; rcases H with ⟨rfl, H⟩ | ⟨rfl, H⟩
   ·have H' := Aside0.mk H
    clear H
    have hnb19 := NB130_115.out
    have hnc19 := NB115_130.out
    obtain ⟨hcz20_0, hcz20_1, hcz20_2, hcz20_3, hcz20_4, hcz20_5, hcz20_6, hcz20_7, hcz20_8⟩ := cz9 BK130.out
    obtain ⟨hfz20_0, hfz20_1, hfz20_2, hfz20_3, hfz20_4, hfz20_5, hfz20_6, hfz20_7, hfz20_8⟩ := fz9 BK130.out
    obtain ⟨hcz21_0, hcz21_1, hcz21_2, hcz21_3, hcz21_4, hcz21_5, hcz21_6, hcz21_7, hcz21_8⟩ := cz9 BK115.out
    obtain ⟨hfz21_0, hfz21_1, hfz21_2, hfz21_3, hfz21_4, hfz21_5, hfz21_6, hfz21_7, hfz21_8⟩ := fz9 BK115.out
    go_wp2_with (first | ((with_reducible refine gate_callee (f := 11) rfl ?_); refine goesL_ (some 26) rfl rfl Tryz.func11 z0_ rfl #[.agg #[.int .i64 t116, .int .i64 t117, .string t118, .string t119, .int .i64 t120, .string t121, .string t122, .slice Ao15 t123.length co15, .slice Ao16 t126.length co16], .agg #[.int .i64 t101, .int .i64 t102, .string t103, .string t104, .int .i64 t105, .string t106, .string t107, .slice Ao9 t108.length co9, .slice Ao10 t111.length co10]] rfl zm ?_; (with_reducible refine (laws_eqNote.calls k t116 t117 t118 t119 t120 t121 t122 _ _ t123 _ _ t126 t101 t102 t103 t104 t105 t106 t107 _ _ t108 _ _ t111 true _ ?side1 ?side2 ?side3 ?side4 ?side5 ?side6 ?side7 ?side8 A17.out).mono ?_); (case side1 => refine (Kd.R_reads' (e := 32) (base := w.heap.size) (ok := fun k_ => (True ∧ some k_ ≠ (.slice Ao9 t108.length co9 : Value).ownBlock)) (n := t123.length) (c := co15) ?_).2.2; exact (fO HO125 BK130)); (case side2 => exact (Kd.R_reads' HO125.out).2.1); (case side3 => refine (Kd.R_reads' (e := 9) (base := w.heap.size) (ok := fun k_ => (True ∧ some k_ ≠ (.slice Ao10 t111.length co10 : Value).ownBlock)) (n := t126.length) (c := co16) ?_).2.2; exact (fO HO128 BK130)); (case side4 => exact (Kd.R_reads' HO128.out).2.1); (case side5 => refine (Kd.R_reads' (e := 32) (base := w.heap.size) (ok := fun k_ => (True ∧ some k_ ≠ (.slice Ao15 t123.length co15 : Value).ownBlock)) (n := t108.length) (c := co9) ?_).2.2; exact (fO HO110 BK130)); (case side6 => exact (Kd.R_reads' HO110.out).2.1); (case side7 => refine (Kd.R_reads' (e := 9) (base := w.heap.size) (ok := fun k_ => (True ∧ some k_ ≠ (.slice Ao16 t126.length co16 : Value).ownBlock)) (n := t111.length) (c := co10) ?_).2.2; exact (fO HO113 BK130)); (case side8 => exact (Kd.R_reads' HO113.out).2.1); rintro e w22 ⟨rfl, hb⟩; refine ⟨_, rfl, ?_⟩; replace HO110 := fS HO110 BK130 hb; replace HO113 := fS HO113 BK130 hb; replace HO125 := fS HO125 BK130 hb; replace HO128 := fS HO128 BK130 hb; replace BK115 := kS BK115 hb; replace BK130 := kP (.cells #[.int .i64 t116, .int .i64 t117, .string t118, .string t119, .int .i64 t120, .string t121, .string t122, .slice Ao15 t123.length co15, .slice Ao16 t126.length co16] 37 (0, 0)) BK130 hb; replace HB := bS hb; clear hb))
    go_meet
    case rel => exact ⟨_, ((t129 != t114)), zs, H', ⟨by first | omega | exact Nat.le_refl _⟩, ⟨by (with_reducible repeat (first | apply Kd.R_alloc | apply Kd.R_drewN | apply Kd.R_drew)); exact Kd.R_mono HO110.out (fun _ hk => hk.2)⟩, ⟨by (with_reducible repeat (first | apply Kd.R_alloc | apply Kd.R_drewN | apply Kd.R_drew)); exact Kd.R_mono HO113.out (fun _ hk => hk.2)⟩, ⟨by (with_reducible repeat (first | apply Kd.R_alloc | apply Kd.R_drewN | apply Kd.R_drew)); exact Kd.R_mono HO125.out (fun _ hk => hk.2)⟩, ⟨by (with_reducible repeat (first | apply Kd.R_alloc | apply Kd.R_drewN | apply Kd.R_drew)); exact Kd.R_mono HO128.out (fun _ hk => hk.2)⟩, ⟨kQ BK115⟩, ⟨kQ BK130⟩, ⟨zB⟩⟩
   ·have H' := Aside0.mk H
    clear H
    have hnb23 := NB130_115.out
    have hnc23 := NB115_130.out
    obtain ⟨hcz24_0, hcz24_1, hcz24_2, hcz24_3, hcz24_4, hcz24_5, hcz24_6, hcz24_7, hcz24_8⟩ := cz9 BK130.out
    obtain ⟨hfz24_0, hfz24_1, hfz24_2, hfz24_3, hfz24_4, hfz24_5, hfz24_6, hfz24_7, hfz24_8⟩ := fz9 BK130.out
    obtain ⟨hcz25_0, hcz25_1, hcz25_2, hcz25_3, hcz25_4, hcz25_5, hcz25_6, hcz25_7, hcz25_8⟩ := cz9 BK115.out
    obtain ⟨hfz25_0, hfz25_1, hfz25_2, hfz25_3, hfz25_4, hfz25_5, hfz25_6, hfz25_7, hfz25_8⟩ := fz9 BK115.out
    go_wp2_with (first | ((with_reducible refine gate_callee (f := 11) rfl ?_); refine goesL_ (some 26) rfl rfl Tryz.func11 z0_ rfl #[.agg #[.int .i64 t116, .int .i64 t117, .string t118, .string t119, .int .i64 t120, .string t121, .string t122, .slice Ao15 t123.length co15, .slice Ao16 t126.length co16], .agg #[.int .i64 t101, .int .i64 t102, .string t103, .string t104, .int .i64 t105, .string t106, .string t107, .slice Ao9 t108.length co9, .slice Ao10 t111.length co10]] rfl zm ?_; (with_reducible refine (laws_eqNote.calls k t116 t117 t118 t119 t120 t121 t122 _ _ t123 _ _ t126 t101 t102 t103 t104 t105 t106 t107 _ _ t108 _ _ t111 false _ ?side1 ?side2 ?side3 ?side4 ?side5 ?side6 ?side7 ?side8 A17.out).mono ?_); (case side1 => refine (Kd.R_reads' (e := 32) (base := w.heap.size) (ok := fun k_ => (True ∧ some k_ ≠ (.slice Ao9 t108.length co9 : Value).ownBlock)) (n := t123.length) (c := co15) ?_).2.2; exact (fO HO125 BK130)); (case side2 => exact (Kd.R_reads' HO125.out).2.1); (case side3 => refine (Kd.R_reads' (e := 9) (base := w.heap.size) (ok := fun k_ => (True ∧ some k_ ≠ (.slice Ao10 t111.length co10 : Value).ownBlock)) (n := t126.length) (c := co16) ?_).2.2; exact (fO HO128 BK130)); (case side4 => exact (Kd.R_reads' HO128.out).2.1); (case side5 => refine (Kd.R_reads' (e := 32) (base := w.heap.size) (ok := fun k_ => (True ∧ some k_ ≠ (.slice Ao15 t123.length co15 : Value).ownBlock)) (n := t108.length) (c := co9) ?_).2.2; exact (fO HO110 BK130)); (case side6 => exact (Kd.R_reads' HO110.out).2.1); (case side7 => refine (Kd.R_reads' (e := 9) (base := w.heap.size) (ok := fun k_ => (True ∧ some k_ ≠ (.slice Ao16 t126.length co16 : Value).ownBlock)) (n := t111.length) (c := co10) ?_).2.2; exact (fO HO113 BK130)); (case side8 => exact (Kd.R_reads' HO113.out).2.1); rintro e w26 ⟨rfl, hb⟩; refine ⟨_, rfl, ?_⟩; replace HO110 := fS HO110 BK130 hb; replace HO113 := fS HO113 BK130 hb; replace HO125 := fS HO125 BK130 hb; replace HO128 := fS HO128 BK130 hb; replace BK115 := kS BK115 hb; replace BK130 := kP (.cells #[.int .i64 t116, .int .i64 t117, .string t118, .string t119, .int .i64 t120, .string t121, .string t122, .slice Ao15 t123.length co15, .slice Ao16 t126.length co16] 37 (0, 0)) BK130 hb; replace HB := bS hb; clear hb))
    go_meet
    case rel => exact ⟨_, (true), zs, H', ⟨by first | omega | exact Nat.le_refl _⟩, ⟨by (with_reducible repeat (first | apply Kd.R_alloc | apply Kd.R_drewN | apply Kd.R_drew)); exact Kd.R_mono HO110.out (fun _ hk => hk.2)⟩, ⟨by (with_reducible repeat (first | apply Kd.R_alloc | apply Kd.R_drewN | apply Kd.R_drew)); exact Kd.R_mono HO113.out (fun _ hk => hk.2)⟩, ⟨by (with_reducible repeat (first | apply Kd.R_alloc | apply Kd.R_drewN | apply Kd.R_drew)); exact Kd.R_mono HO125.out (fun _ hk => hk.2)⟩, ⟨by (with_reducible repeat (first | apply Kd.R_alloc | apply Kd.R_drewN | apply Kd.R_drew)); exact Kd.R_mono HO128.out (fun _ hk => hk.2)⟩, ⟨kQ BK115⟩, ⟨kQ BK130⟩, ⟨zB⟩⟩
  case rest =>
   clear HC5
   obtain ⟨kq, x32_4, rfl, HA, HJ4, HO_116007, HO_116008, HO_131007, HO_131008, BK115, BK130, HB⟩ := hcut
   cases kq with
   | zero => exact absurd HA.out (by simp [laws_FnExactNoteGet.j0])
   | succ kj4 =>
    have H := HA.out
    clear HA
    simp only [laws_FnExactNoteGet.j0] at H
    replace H := itb H; rcases H with ⟨rfl, H⟩ | ⟨rfl, H⟩
    ·obtain rfl := Option.some.inj H
     go_wp2
     go_ret
     exact ⟨zr, zB⟩
    ·replace H := bnd H; obtain ⟨⟨t132, t133, t134⟩, A28, H⟩ := H
     dsimp only at H
     replace H := bnd H; obtain ⟨t135, A29, H⟩ := H
     replace H := its_d_d H; rcases H with ⟨c30b0, H⟩ | ⟨c30b0, H⟩
     ·obtain rfl := Option.some.inj H
      have hnb31 := NB130_115.out
      have hnc31 := NB115_130.out
      obtain ⟨hcz32_0, hcz32_1, hcz32_2, hcz32_3, hcz32_4, hcz32_5, hcz32_6, hcz32_7, hcz32_8⟩ := cz9 BK130.out
      obtain ⟨hfz32_0, hfz32_1, hfz32_2, hfz32_3, hfz32_4, hfz32_5, hfz32_6, hfz32_7, hfz32_8⟩ := fz9 BK130.out
      go_wp2_with (first | ((with_reducible refine gate_callee (f := 18) rfl ?_); refine gl 35 Tryz.func18 #[.agg #[.int .i64 t116, .int .i64 t117, .string t118, .string t119, .int .i64 t120, .string t121, .string t122, .slice Ao15 t123.length co15, .slice Ao16 t126.length co16], .int .i64 1] ((laws_markNote.calls (w := _) (hB := by repeat (first | (with_reducible first | exact HB.out | apply below_alloc | apply pw_below_drewN | apply below_drew1 | refine below_set ?_ GE115.out | refine below_set ?_ GE130.out) | exact HB.out)) (ho0_7 := Kd.R_tight rfl HO_131007.out) (ho0_8 := Kd.R_tight rfl HO_131008.out) (h := A28.out)).mono ?_); rintro e w33 ⟨rfl, hy0, hy1, hb, hkp⟩; refine ⟨_, rfl, ?_⟩; replace HO_116007 := Aside0.mk (Kd.R_mono (ok' := fun k_ => some k_ ≠ (.slice Ao15 t123.length co15 : Value).ownBlock) (Kd.R_keptB ((Kd.R_apart' HO_116007.out (Kd.R_typed HO_131008.out) (by decide))) hkp (fun k_ hk_ hs_ => Or.elim hs_ (fun e_ => (hk_.1) e_) (fun e_ => (hk_.2) e_))) (fun k_ hk_ => hk_.1.1)); replace HO_116008 := Aside0.mk (Kd.R_mono (ok' := fun k_ => some k_ ≠ (.slice Ao16 t126.length co16 : Value).ownBlock) (Kd.R_keptB ((Kd.R_apart' HO_116008.out (Kd.R_typed HO_131007.out) (by decide))) hkp (fun k_ hk_ hs_ => Or.elim hs_ (fun e_ => (hk_.2) e_) (fun e_ => (hk_.1) e_))) (fun k_ hk_ => hk_.1.1)); replace BK115 := Aside0.mk (blk_kept (kQ BK115) hkp (fun hs_ => Or.elim hs_ (fun e_ => (fun e_ => (Kd.R_ne HO_131007.out BK115.out (by decide)) e_) e_) (fun e_ => (fun e_ => (Kd.R_ne HO_131008.out BK115.out (by decide)) e_) e_))); replace BK130 := Aside0.mk (blk_kept (kQ BK130) hkp (fun hs_ => Or.elim hs_ (fun e_ => (fun e_ => (Kd.R_ne HO_131007.out BK130.out (by decide)) e_) e_) (fun e_ => (fun e_ => (Kd.R_ne HO_131008.out BK130.out (by decide)) e_) e_))); replace HO_131007 := Aside0.mk (Kd.R_reok rfl hy0 (fun k_ e_ => HO_131007.out.1 k_ e_)); replace HO_131008 := Aside0.mk (Kd.R_reok rfl hy1 (fun k_ e_ => HO_131008.out.1 k_ e_)); replace HB := Aside0.mk (hb); clear hb; (try clear hkp); (try clear hy0); (try clear hy1); obtain ⟨hcz34_0, hcz34_1, hcz34_2, hcz34_3, hcz34_4, hcz34_5, hcz34_6, hcz34_7, hcz34_8⟩ := cz9 BK130.out; obtain ⟨hfz34_0, hfz34_1, hfz34_2, hfz34_3, hfz34_4, hfz34_5, hfz34_6, hfz34_7, hfz34_8⟩ := fz9 BK130.out) | ((with_reducible refine gate_callee (f := 19) rfl ?_); refine goesL_ (some 38) rfl rfl Tryz.func19 z0_ rfl #[.agg #[.int .i64 t116, .int .i64 t117, .string t118, .string t119, .int .i64 t120, .string t121, .string t122, .slice Ao15 t133.length co15, .slice Ao16 t134.length co16], .int .i64 1] rfl (by (try simp only [List.map_toArray, List.map_cons, List.map_nil]); first | done | (rw [show t133.length = t123.length from (Kd.R_reads' HO_131007.out).1.symm, show t134.length = t126.length from (Kd.R_reads' HO_131008.out).1.symm] <;> rfl) | rfl | (simp only [List.length_drop, List.length_take]; rfl)) ?_; refine (laws_heldNote.calls (w := _) (hr0_7 := rC HO_131007) (hc0_7 := by rw [show t133.length = t123.length from (Kd.R_reads' HO_131007.out).1.symm]; exact (Kd.R_reads' HO_131007.out).2.1) (hr0_8 := rC HO_131008) (hc0_8 := by rw [show t134.length = t126.length from (Kd.R_reads' HO_131008.out).1.symm]; exact (Kd.R_reads' HO_131008.out).2.1) (h := A29.out)).mono ?_; rintro e w35 ⟨rfl, hb⟩; refine ⟨_, rfl, ?_⟩; replace HO_116007 := rS HO_116007 hb; replace HO_116008 := rS HO_116008 hb; replace HO_131007 := rS HO_131007 hb; replace HO_131008 := rS HO_131008 hb; replace BK115 := kS BK115 hb; replace BK130 := kS BK130 hb; replace HB := bS hb; clear hb))
      go_ret
      exact ⟨zr, zB⟩
     ·replace H := its_qn_qn H; rcases H with ⟨c36b0, c36b1, H⟩ | ⟨c36b0, c36b1, H⟩
      ·replace H := bnd H; obtain ⟨⟨t136, t137, t138, t139, t140, t141, t142, t143, t146, t149⟩, A37, H⟩ := H
       dsimp only at H
       have HC38 := Aside0.mk H
       clear H
       have hnb39 := NB130_115.out
       have hnc39 := NB115_130.out
       obtain ⟨hcz40_0, hcz40_1, hcz40_2, hcz40_3, hcz40_4, hcz40_5, hcz40_6, hcz40_7, hcz40_8⟩ := cz9 BK130.out
       obtain ⟨hfz40_0, hfz40_1, hfz40_2, hfz40_3, hfz40_4, hfz40_5, hfz40_6, hfz40_7, hfz40_8⟩ := fz9 BK130.out
       go_upto_region 16 with (first | ((with_reducible refine gate_callee (f := 18) rfl ?_); refine gl 35 Tryz.func18 #[.agg #[.int .i64 t116, .int .i64 t117, .string t118, .string t119, .int .i64 t120, .string t121, .string t122, .slice Ao15 t123.length co15, .slice Ao16 t126.length co16], .int .i64 1] ((laws_markNote.calls (w := _) (hB := by repeat (first | (with_reducible first | exact HB.out | apply below_alloc | apply pw_below_drewN | apply below_drew1 | refine below_set ?_ GE115.out | refine below_set ?_ GE130.out) | exact HB.out)) (ho0_7 := Kd.R_tight rfl HO_131007.out) (ho0_8 := Kd.R_tight rfl HO_131008.out) (h := A28.out)).mono ?_); rintro e w41 ⟨rfl, hy0, hy1, hb, hkp⟩; refine ⟨_, rfl, ?_⟩; replace HO_116007 := Aside0.mk (Kd.R_mono (ok' := fun k_ => some k_ ≠ (.slice Ao15 t123.length co15 : Value).ownBlock) (Kd.R_keptB ((Kd.R_apart' HO_116007.out (Kd.R_typed HO_131008.out) (by decide))) hkp (fun k_ hk_ hs_ => Or.elim hs_ (fun e_ => (hk_.1) e_) (fun e_ => (hk_.2) e_))) (fun k_ hk_ => hk_.1.1)); replace HO_116008 := Aside0.mk (Kd.R_mono (ok' := fun k_ => some k_ ≠ (.slice Ao16 t126.length co16 : Value).ownBlock) (Kd.R_keptB ((Kd.R_apart' HO_116008.out (Kd.R_typed HO_131007.out) (by decide))) hkp (fun k_ hk_ hs_ => Or.elim hs_ (fun e_ => (hk_.2) e_) (fun e_ => (hk_.1) e_))) (fun k_ hk_ => hk_.1.1)); replace BK115 := Aside0.mk (blk_kept (kQ BK115) hkp (fun hs_ => Or.elim hs_ (fun e_ => (fun e_ => (Kd.R_ne HO_131007.out BK115.out (by decide)) e_) e_) (fun e_ => (fun e_ => (Kd.R_ne HO_131008.out BK115.out (by decide)) e_) e_))); replace BK130 := Aside0.mk (blk_kept (kQ BK130) hkp (fun hs_ => Or.elim hs_ (fun e_ => (fun e_ => (Kd.R_ne HO_131007.out BK130.out (by decide)) e_) e_) (fun e_ => (fun e_ => (Kd.R_ne HO_131008.out BK130.out (by decide)) e_) e_))); replace HO_131007 := Aside0.mk (Kd.R_reok rfl hy0 (fun k_ e_ => HO_131007.out.1 k_ e_)); replace HO_131008 := Aside0.mk (Kd.R_reok rfl hy1 (fun k_ e_ => HO_131008.out.1 k_ e_)); replace HB := Aside0.mk (hb); clear hb; (try clear hkp); (try clear hy0); (try clear hy1); obtain ⟨hcz42_0, hcz42_1, hcz42_2, hcz42_3, hcz42_4, hcz42_5, hcz42_6, hcz42_7, hcz42_8⟩ := cz9 BK130.out; obtain ⟨hfz42_0, hfz42_1, hfz42_2, hfz42_3, hfz42_4, hfz42_5, hfz42_6, hfz42_7, hfz42_8⟩ := fz9 BK130.out) | ((with_reducible refine gate_callee (f := 19) rfl ?_); refine goesL_ (some 38) rfl rfl Tryz.func19 z0_ rfl #[.agg #[.int .i64 t116, .int .i64 t117, .string t118, .string t119, .int .i64 t120, .string t121, .string t122, .slice Ao15 t133.length co15, .slice Ao16 t134.length co16], .int .i64 1] rfl (by (try simp only [List.map_toArray, List.map_cons, List.map_nil]); first | done | (rw [show t133.length = t123.length from (Kd.R_reads' HO_131007.out).1.symm, show t134.length = t126.length from (Kd.R_reads' HO_131008.out).1.symm] <;> rfl) | rfl | (simp only [List.length_drop, List.length_take]; rfl)) ?_; refine (laws_heldNote.calls (w := _) (hr0_7 := rC HO_131007) (hc0_7 := by rw [show t133.length = t123.length from (Kd.R_reads' HO_131007.out).1.symm]; exact (Kd.R_reads' HO_131007.out).2.1) (hr0_8 := rC HO_131008) (hc0_8 := by rw [show t134.length = t126.length from (Kd.R_reads' HO_131008.out).1.symm]; exact (Kd.R_reads' HO_131008.out).2.1) (h := A29.out)).mono ?_; rintro e w43 ⟨rfl, hb⟩; refine ⟨_, rfl, ?_⟩; replace HO_116007 := rS HO_116007 hb; replace HO_116008 := rS HO_116008 hb; replace HO_131007 := rS HO_131007 hb; replace HO_131008 := rS HO_131008 hb; replace BK115 := kS BK115 hb; replace BK130 := kS BK130 hb; replace HB := bS hb; clear hb) | ((with_reducible refine gate_callee (f := 15) rfl ?_); refine gl 46 Tryz.func15 _ ((impl_NoteGet.calls (w := _) (hG := gB) (h := A37.out)).mono ?_); rintro e w44 ⟨v144, v147, rfl, ho0, ho1, hb⟩; refine ⟨_, rfl, ?_⟩; have HO145 := Aside0.mk (Kd.R_lower (Kd.R_new' (Kd.R_new' ho0 (Kd.R_lt (rO HO_116007))) (Kd.R_lt (rO HO_131007))) (bZ)); replace HO_116007 := Aside0.mk (Kd.R_elder' (rO HO_116007) (Kd.R_base ho0) hb); replace HO_131007 := Aside0.mk (Kd.R_elder' (rO HO_131007) (Kd.R_base ho0) hb); have HO148 := Aside0.mk (Kd.R_lower (Kd.R_new' (Kd.R_new' ho1 (Kd.R_lt (rO HO_116008))) (Kd.R_lt (rO HO_131008))) (bZ)); replace HO_116008 := Aside0.mk (Kd.R_elder' (rO HO_116008) (Kd.R_base ho1) hb); replace HO_131008 := Aside0.mk (Kd.R_elder' (rO HO_131008) (Kd.R_base ho1) hb); replace BK115 := kS BK115 hb; replace BK130 := kS BK130 hb; replace HB := bS hb; clear hb ho0; (try clear ho1)) | ((with_reducible refine gate_dst (N := 9) rfl ?_); refine bx (cs := #[.int .i64 0, .int .i64 0, .string ⟨#[]⟩, .string ⟨#[]⟩, .int .i64 0, .string ⟨#[]⟩, .string ⟨#[]⟩, .slice none 0 0, .slice none 0 0]) (t := 37) ?_; intro gb150 hg w45 hbox hb; replace HO_116007 := rS HO_116007 hb; replace HO_116008 := rS HO_116008 hb; replace HO_131007 := rS HO_131007 hb; replace HO_131008 := rS HO_131008 hb; replace HO145 := rS HO145 hb; replace HO148 := rS HO148 hb; have BK150 := Aside0.mk (hbox); have GW150 := gS hg; have GE150 := gS hg; have NB115_150 := nS hg BK115; have NB150_115 := nG hg BK115; replace BK115 := kS BK115 hb; have NB130_150 := nS hg BK130; have NB150_130 := nG hg BK130; replace BK130 := kS BK130 hb; replace HB := bS hb; clear hb hbox hg; have hnb46 := NB150_115.out; have hnc46 := NB115_150.out; have hnb47 := NB150_130.out; have hnc47 := NB130_150.out; obtain ⟨hcz48_0, hcz48_1, hcz48_2, hcz48_3, hcz48_4, hcz48_5, hcz48_6, hcz48_7, hcz48_8⟩ := cz9 BK150.out; obtain ⟨hfz48_0, hfz48_1, hfz48_2, hfz48_3, hfz48_4, hfz48_5, hfz48_6, hfz48_7, hfz48_8⟩ := fz9 BK150.out; obtain ⟨Ao49, co49, eo49⟩ := Kd.R_slice HO145.out; subst eo49; obtain ⟨Ao50, co50, eo50⟩ := Kd.R_slice HO148.out; subst eo50))
       (try simp only [Act.put, List.setIfInBounds_toArray, List.set_cons_zero, List.set_cons_succ])
       go_cut [57] (fun v57 wc => ∃ (kq : Nat) (x57_37 : Bool), v57 = .bool x57_37 ∧ Aside0 (laws_FnExactNoteGet.j1 kq t132 x57_37 t116 t117 t118 t119 t120 t121 t122 t133 t134 = some r) ∧ Aside0 (kq ≤ kj4) ∧ Aside0 (Kd.R k32 32 wc w.heap.size (fun k_ => some k_ ≠ ((.slice Ao15 t123.length co15) : Value).ownBlock ∧ some k_ ≠ ((.slice Ao49 t143.length co49) : Value).ownBlock) (.slice Ao9 t108.length co9) t108) ∧ Aside0 (Kd.R Kd.string 9 wc w.heap.size (fun k_ => some k_ ≠ ((.slice Ao16 t126.length co16) : Value).ownBlock ∧ some k_ ≠ ((.slice Ao50 t146.length co50) : Value).ownBlock) (.slice Ao10 t111.length co10) t111) ∧ Aside0 (Kd.R k32 32 wc w.heap.size (fun k_ => some k_ ≠ ((.slice Ao9 t108.length co9) : Value).ownBlock ∧ some k_ ≠ ((.slice Ao49 t143.length co49) : Value).ownBlock) (.slice Ao15 t123.length co15) t133) ∧ Aside0 (Kd.R Kd.string 9 wc w.heap.size (fun k_ => some k_ ≠ ((.slice Ao10 t111.length co10) : Value).ownBlock ∧ some k_ ≠ ((.slice Ao50 t146.length co50) : Value).ownBlock) (.slice Ao16 t126.length co16) t134) ∧ Aside0 (Kd.R k32 32 wc w.heap.size (fun k_ => some k_ ≠ ((.slice Ao9 t108.length co9) : Value).ownBlock ∧ some k_ ≠ ((.slice Ao15 t123.length co15) : Value).ownBlock) (.slice Ao49 t143.length co49) t143) ∧ Aside0 (Kd.R Kd.string 9 wc w.heap.size (fun k_ => some k_ ≠ ((.slice Ao10 t111.length co10) : Value).ownBlock ∧ some k_ ≠ ((.slice Ao16 t126.length co16) : Value).ownBlock) (.slice Ao50 t146.length co50) t146) ∧ Aside0 (wc.heap[gb115]? = some (.cells #[.int .i64 t101, .int .i64 t102, .string t103, .string t104, .int .i64 t105, .string t106, .string t107, (.slice Ao9 t108.length co9), (.slice Ao10 t111.length co10)] 37 (0, 0))) ∧ Aside0 (wc.heap[gb130]? = some (.cells #[.int .i64 t116, .int .i64 t117, .string t118, .string t119, .int .i64 t120, .string t121, .string t122, (.slice Ao15 t123.length co15), (.slice Ao16 t126.length co16)] 37 (0, 0))) ∧ Aside0 (wc.heap[gb150]? = some (.cells #[.int .i64 t136, .int .i64 t137, .string t138, .string t139, .int .i64 t140, .string t141, .string t142, (.slice Ao49 t143.length co49), (.slice Ao50 t146.length co50)] 37 (0, 0))) ∧ Aside0 (Below w.heap.size w wc))
       case first =>
        have H := HC38.out
        clear HC38
        replace H := bnd H; obtain ⟨t151, A51, H⟩ := H
        replace H := itb H; rcases H with ⟨rfl, H⟩ | ⟨rfl, H⟩
        ·have H' := Aside0.mk H
         clear H
         have hnb53 := NB150_115.out
         have hnc53 := NB115_150.out
         have hnb54 := NB150_130.out
         have hnc54 := NB130_150.out
         obtain ⟨hcz55_0, hcz55_1, hcz55_2, hcz55_3, hcz55_4, hcz55_5, hcz55_6, hcz55_7, hcz55_8⟩ := cz9 BK150.out
         obtain ⟨hfz55_0, hfz55_1, hfz55_2, hfz55_3, hfz55_4, hfz55_5, hfz55_6, hfz55_7, hfz55_8⟩ := fz9 BK150.out
         have hnb56 := NB115_130.out
         have hnc56 := NB130_115.out
         obtain ⟨hcz57_0, hcz57_1, hcz57_2, hcz57_3, hcz57_4, hcz57_5, hcz57_6, hcz57_7, hcz57_8⟩ := cz9 BK115.out
         obtain ⟨hfz57_0, hfz57_1, hfz57_2, hfz57_3, hfz57_4, hfz57_5, hfz57_6, hfz57_7, hfz57_8⟩ := fz9 BK115.out
         go_wp2_with (first | ((with_reducible refine gate_callee (f := 11) rfl ?_); refine goesL_ (some 51) rfl rfl Tryz.func11 z0_ rfl #[.agg #[.int .i64 t136, .int .i64 t137, .string t138, .string t139, .int .i64 t140, .string t141, .string t142, .slice Ao49 t143.length co49, .slice Ao50 t146.length co50], .agg #[.int .i64 t101, .int .i64 t102, .string t103, .string t104, .int .i64 t105, .string t106, .string t107, .slice Ao9 t108.length co9, .slice Ao10 t111.length co10]] rfl zm ?_; (with_reducible refine (laws_eqNote.calls kj4 t136 t137 t138 t139 t140 t141 t142 _ _ t143 _ _ t146 t101 t102 t103 t104 t105 t106 t107 _ _ t108 _ _ t111 true _ ?side1 ?side2 ?side3 ?side4 ?side5 ?side6 ?side7 ?side8 A51.out).mono ?_); (case side1 => refine (Kd.R_reads' (e := 32) (base := w.heap.size) (ok := fun k_ => ((True ∧ some k_ ≠ (.slice Ao9 t108.length co9 : Value).ownBlock) ∧ some k_ ≠ (.slice Ao15 t123.length co15 : Value).ownBlock)) (n := t143.length) (c := co49) ?_).2.2; exact (fO HO145 BK150)); (case side2 => exact (Kd.R_reads' HO145.out).2.1); (case side3 => refine (Kd.R_reads' (e := 9) (base := w.heap.size) (ok := fun k_ => ((True ∧ some k_ ≠ (.slice Ao10 t111.length co10 : Value).ownBlock) ∧ some k_ ≠ (.slice Ao16 t126.length co16 : Value).ownBlock)) (n := t146.length) (c := co50) ?_).2.2; exact (fO HO148 BK150)); (case side4 => exact (Kd.R_reads' HO148.out).2.1); (case side5 => refine (Kd.R_reads' (e := 32) (base := w.heap.size) (ok := fun k_ => (some k_ ≠ (.slice Ao15 t123.length co15 : Value).ownBlock ∧ some k_ ≠ (.slice Ao49 t143.length co49 : Value).ownBlock)) (n := t108.length) (c := co9) ?_).2.2; exact (fO HO_116007 BK150)); (case side6 => exact (Kd.R_reads' HO_116007.out).2.1); (case side7 => refine (Kd.R_reads' (e := 9) (base := w.heap.size) (ok := fun k_ => (some k_ ≠ (.slice Ao16 t126.length co16 : Value).ownBlock ∧ some k_ ≠ (.slice Ao50 t146.length co50 : Value).ownBlock)) (n := t111.length) (c := co10) ?_).2.2; exact (fO HO_116008 BK150)); (case side8 => exact (Kd.R_reads' HO_116008.out).2.1); rintro e w58 ⟨rfl, hb⟩; refine ⟨_, rfl, ?_⟩; replace HO_116007 := fS HO_116007 BK150 hb; replace HO_116008 := fS HO_116008 BK150 hb; replace HO_131007 := fS HO_131007 BK150 hb; replace HO_131008 := fS HO_131008 BK150 hb; replace HO145 := fS HO145 BK150 hb; replace HO148 := fS HO148 BK150 hb; replace BK115 := kS BK115 hb; replace BK130 := kS BK130 hb; replace BK150 := kP (.cells #[.int .i64 t136, .int .i64 t137, .string t138, .string t139, .int .i64 t140, .string t141, .string t142, .slice Ao49 t143.length co49, .slice Ao50 t146.length co50] 37 (0, 0)) BK150 hb; replace HB := bS hb; clear hb))
         go_meet
         case rel => exact ⟨_, ((t149 != t114)), zs, H', ⟨by have := HJ4.out; first | omega | exact Nat.le_refl _⟩, ⟨rO HO_116007⟩, ⟨rO HO_116008⟩, ⟨rO HO_131007⟩, ⟨rO HO_131008⟩, ⟨by (with_reducible repeat (first | apply Kd.R_alloc | apply Kd.R_drewN | apply Kd.R_drew)); exact Kd.R_mono HO145.out (fun _ hk => ⟨hk.1.2, hk.2⟩)⟩, ⟨by (with_reducible repeat (first | apply Kd.R_alloc | apply Kd.R_drewN | apply Kd.R_drew)); exact Kd.R_mono HO148.out (fun _ hk => ⟨hk.1.2, hk.2⟩)⟩, ⟨kQ BK115⟩, ⟨kQ BK130⟩, ⟨kQ BK150⟩, ⟨zB⟩⟩
        ·have H' := Aside0.mk H
         clear H
         have hnb59 := NB150_115.out
         have hnc59 := NB115_150.out
         have hnb60 := NB150_130.out
         have hnc60 := NB130_150.out
         obtain ⟨hcz61_0, hcz61_1, hcz61_2, hcz61_3, hcz61_4, hcz61_5, hcz61_6, hcz61_7, hcz61_8⟩ := cz9 BK150.out
         obtain ⟨hfz61_0, hfz61_1, hfz61_2, hfz61_3, hfz61_4, hfz61_5, hfz61_6, hfz61_7, hfz61_8⟩ := fz9 BK150.out
         have hnb62 := NB115_130.out
         have hnc62 := NB130_115.out
         obtain ⟨hcz63_0, hcz63_1, hcz63_2, hcz63_3, hcz63_4, hcz63_5, hcz63_6, hcz63_7, hcz63_8⟩ := cz9 BK115.out
         obtain ⟨hfz63_0, hfz63_1, hfz63_2, hfz63_3, hfz63_4, hfz63_5, hfz63_6, hfz63_7, hfz63_8⟩ := fz9 BK115.out
         go_wp2_with (first | ((with_reducible refine gate_callee (f := 11) rfl ?_); refine goesL_ (some 51) rfl rfl Tryz.func11 z0_ rfl #[.agg #[.int .i64 t136, .int .i64 t137, .string t138, .string t139, .int .i64 t140, .string t141, .string t142, .slice Ao49 t143.length co49, .slice Ao50 t146.length co50], .agg #[.int .i64 t101, .int .i64 t102, .string t103, .string t104, .int .i64 t105, .string t106, .string t107, .slice Ao9 t108.length co9, .slice Ao10 t111.length co10]] rfl zm ?_; (with_reducible refine (laws_eqNote.calls kj4 t136 t137 t138 t139 t140 t141 t142 _ _ t143 _ _ t146 t101 t102 t103 t104 t105 t106 t107 _ _ t108 _ _ t111 false _ ?side1 ?side2 ?side3 ?side4 ?side5 ?side6 ?side7 ?side8 A51.out).mono ?_); (case side1 => refine (Kd.R_reads' (e := 32) (base := w.heap.size) (ok := fun k_ => ((True ∧ some k_ ≠ (.slice Ao9 t108.length co9 : Value).ownBlock) ∧ some k_ ≠ (.slice Ao15 t123.length co15 : Value).ownBlock)) (n := t143.length) (c := co49) ?_).2.2; exact (fO HO145 BK150)); (case side2 => exact (Kd.R_reads' HO145.out).2.1); (case side3 => refine (Kd.R_reads' (e := 9) (base := w.heap.size) (ok := fun k_ => ((True ∧ some k_ ≠ (.slice Ao10 t111.length co10 : Value).ownBlock) ∧ some k_ ≠ (.slice Ao16 t126.length co16 : Value).ownBlock)) (n := t146.length) (c := co50) ?_).2.2; exact (fO HO148 BK150)); (case side4 => exact (Kd.R_reads' HO148.out).2.1); (case side5 => refine (Kd.R_reads' (e := 32) (base := w.heap.size) (ok := fun k_ => (some k_ ≠ (.slice Ao15 t123.length co15 : Value).ownBlock ∧ some k_ ≠ (.slice Ao49 t143.length co49 : Value).ownBlock)) (n := t108.length) (c := co9) ?_).2.2; exact (fO HO_116007 BK150)); (case side6 => exact (Kd.R_reads' HO_116007.out).2.1); (case side7 => refine (Kd.R_reads' (e := 9) (base := w.heap.size) (ok := fun k_ => (some k_ ≠ (.slice Ao16 t126.length co16 : Value).ownBlock ∧ some k_ ≠ (.slice Ao50 t146.length co50 : Value).ownBlock)) (n := t111.length) (c := co10) ?_).2.2; exact (fO HO_116008 BK150)); (case side8 => exact (Kd.R_reads' HO_116008.out).2.1); rintro e w64 ⟨rfl, hb⟩; refine ⟨_, rfl, ?_⟩; replace HO_116007 := fS HO_116007 BK150 hb; replace HO_116008 := fS HO_116008 BK150 hb; replace HO_131007 := fS HO_131007 BK150 hb; replace HO_131008 := fS HO_131008 BK150 hb; replace HO145 := fS HO145 BK150 hb; replace HO148 := fS HO148 BK150 hb; replace BK115 := kS BK115 hb; replace BK130 := kS BK130 hb; replace BK150 := kP (.cells #[.int .i64 t136, .int .i64 t137, .string t138, .string t139, .int .i64 t140, .string t141, .string t142, .slice Ao49 t143.length co49, .slice Ao50 t146.length co50] 37 (0, 0)) BK150 hb; replace HB := bS hb; clear hb))
         go_meet
         case rel => exact ⟨_, (true), zs, H', ⟨by have := HJ4.out; first | omega | exact Nat.le_refl _⟩, ⟨rO HO_116007⟩, ⟨rO HO_116008⟩, ⟨rO HO_131007⟩, ⟨rO HO_131008⟩, ⟨by (with_reducible repeat (first | apply Kd.R_alloc | apply Kd.R_drewN | apply Kd.R_drew)); exact Kd.R_mono HO145.out (fun _ hk => ⟨hk.1.2, hk.2⟩)⟩, ⟨by (with_reducible repeat (first | apply Kd.R_alloc | apply Kd.R_drewN | apply Kd.R_drew)); exact Kd.R_mono HO148.out (fun _ hk => ⟨hk.1.2, hk.2⟩)⟩, ⟨kQ BK115⟩, ⟨kQ BK130⟩, ⟨kQ BK150⟩, ⟨zB⟩⟩
       case rest =>
        clear HC38
        obtain ⟨kq, x57_37, rfl, HA, HJ37, HO_116007, HO_116008, HO_131007, HO_131008, HO_151007, HO_151008, BK115, BK130, BK150, HB⟩ := hcut
        have hl131007_37 := (Kd.R_reads' HO_131007.out).1
        rw [hl131007_37] at HO_131007
        (try simp only [hl131007_37])
        (try simp only [hl131007_37] at BK115)
        (try simp only [hl131007_37] at BK130)
        (try simp only [hl131007_37] at BK150)
        (try simp only [hl131007_37] at HO_116007)
        (try simp only [hl131007_37] at HO_116008)
        (try simp only [hl131007_37] at HO_131008)
        (try simp only [hl131007_37] at HO_151007)
        (try simp only [hl131007_37] at HO_151008)
        have hl131008_37 := (Kd.R_reads' HO_131008.out).1
        rw [hl131008_37] at HO_131008
        (try simp only [hl131008_37])
        (try simp only [hl131008_37] at BK115)
        (try simp only [hl131008_37] at BK130)
        (try simp only [hl131008_37] at BK150)
        (try simp only [hl131008_37] at HO_116007)
        (try simp only [hl131008_37] at HO_116008)
        (try simp only [hl131008_37] at HO_131007)
        (try simp only [hl131008_37] at HO_151007)
        (try simp only [hl131008_37] at HO_151008)
        cases kq with
        | zero => exact absurd HA.out (by simp [laws_FnExactNoteGet.j1])
        | succ kj37 =>
         have H := HA.out
         clear HA
         simp only [laws_FnExactNoteGet.j1] at H
         replace H := itb H; rcases H with ⟨rfl, H⟩ | ⟨rfl, H⟩
         ·obtain rfl := Option.some.inj H
          go_wp2
          go_ret
          exact ⟨zr, zB⟩
         ·replace H := bnd H; obtain ⟨t152, A66, H⟩ := H
          replace H := its_d_d H; rcases H with ⟨c67b0, H⟩ | ⟨c67b0, H⟩
          ·obtain rfl := Option.some.inj H
           have hnb68 := NB130_115.out
           have hnc68 := NB115_130.out
           have hnb69 := NB130_150.out
           have hnc69 := NB150_130.out
           obtain ⟨hcz70_0, hcz70_1, hcz70_2, hcz70_3, hcz70_4, hcz70_5, hcz70_6, hcz70_7, hcz70_8⟩ := cz9 BK130.out
           obtain ⟨hfz70_0, hfz70_1, hfz70_2, hfz70_3, hfz70_4, hfz70_5, hfz70_6, hfz70_7, hfz70_8⟩ := fz9 BK130.out
           go_wp2_with (first | ((with_reducible refine gate_callee (f := 19) rfl ?_); refine gv 60 Tryz.func19 #[.agg #[.int .i64 t116, .int .i64 t117, .string t118, .string t119, .int .i64 t120, .string t121, .string t122, .slice Ao15 t133.length co15, .slice Ao16 t134.length co16], .int .i64 1] (laws_heldNote.calls (w := _) (hr0_7 := rC HO_131007) (hc0_7 := cL HO_131007) (hr0_8 := rC HO_131008) (hc0_8 := cL HO_131008) (h := A66.out)) ?_; intro w71 hb; replace HO_116007 := rS HO_116007 hb; replace HO_116008 := rS HO_116008 hb; replace HO_131007 := rS HO_131007 hb; replace HO_131008 := rS HO_131008 hb; replace HO_151007 := rS HO_151007 hb; replace HO_151008 := rS HO_151008 hb; replace BK115 := kS BK115 hb; replace BK130 := kS BK130 hb; replace BK150 := kS BK150 hb; replace HB := bS hb; clear hb))
           go_ret
           exact ⟨zr, zB⟩
          ·replace H := its_qn_qn H; rcases H with ⟨c72b0, c72b1, H⟩ | ⟨c72b0, c72b1, H⟩
           ·obtain rfl := Option.some.inj H
            have hnb73 := NB130_115.out
            have hnc73 := NB115_130.out
            have hnb74 := NB130_150.out
            have hnc74 := NB150_130.out
            obtain ⟨hcz75_0, hcz75_1, hcz75_2, hcz75_3, hcz75_4, hcz75_5, hcz75_6, hcz75_7, hcz75_8⟩ := cz9 BK130.out
            obtain ⟨hfz75_0, hfz75_1, hfz75_2, hfz75_3, hfz75_4, hfz75_5, hfz75_6, hfz75_7, hfz75_8⟩ := fz9 BK130.out
            go_wp2_with (first | ((with_reducible refine gate_callee (f := 19) rfl ?_); refine gv 60 Tryz.func19 #[.agg #[.int .i64 t116, .int .i64 t117, .string t118, .string t119, .int .i64 t120, .string t121, .string t122, .slice Ao15 t133.length co15, .slice Ao16 t134.length co16], .int .i64 1] (laws_heldNote.calls (w := _) (hr0_7 := rC HO_131007) (hc0_7 := cL HO_131007) (hr0_8 := rC HO_131008) (hc0_8 := cL HO_131008) (h := A66.out)) ?_; intro w76 hb; replace HO_116007 := rS HO_116007 hb; replace HO_116008 := rS HO_116008 hb; replace HO_131007 := rS HO_131007 hb; replace HO_131008 := rS HO_131008 hb; replace HO_151007 := rS HO_151007 hb; replace HO_151008 := rS HO_151008 hb; replace BK115 := kS BK115 hb; replace BK130 := kS BK130 hb; replace BK150 := kS BK150 hb; replace HB := bS hb; clear hb))
            go_ret
            exact ⟨zr, zB⟩
           ·obtain rfl := Option.some.inj H
            have hnb77 := NB130_115.out
            have hnc77 := NB115_130.out
            have hnb78 := NB130_150.out
            have hnc78 := NB150_130.out
            obtain ⟨hcz79_0, hcz79_1, hcz79_2, hcz79_3, hcz79_4, hcz79_5, hcz79_6, hcz79_7, hcz79_8⟩ := cz9 BK130.out
            obtain ⟨hfz79_0, hfz79_1, hfz79_2, hfz79_3, hfz79_4, hfz79_5, hfz79_6, hfz79_7, hfz79_8⟩ := fz9 BK130.out
            go_wp2_with (first | ((with_reducible refine gate_callee (f := 19) rfl ?_); refine gv 60 Tryz.func19 #[.agg #[.int .i64 t116, .int .i64 t117, .string t118, .string t119, .int .i64 t120, .string t121, .string t122, .slice Ao15 t133.length co15, .slice Ao16 t134.length co16], .int .i64 1] (laws_heldNote.calls (w := _) (hr0_7 := rC HO_131007) (hc0_7 := cL HO_131007) (hr0_8 := rC HO_131008) (hc0_8 := cL HO_131008) (h := A66.out)) ?_; intro w80 hb; replace HO_116007 := rS HO_116007 hb; replace HO_116008 := rS HO_116008 hb; replace HO_131007 := rS HO_131007 hb; replace HO_131008 := rS HO_131008 hb; replace HO_151007 := rS HO_151007 hb; replace HO_151008 := rS HO_151008 hb; replace BK115 := kS BK115 hb; replace BK130 := kS BK130 hb; replace BK150 := kS BK150 hb; replace HB := bS hb; clear hb))
            go_ret
            exact ⟨zr, zB⟩
      ·obtain rfl := Option.some.inj H
       have hnb81 := NB130_115.out
       have hnc81 := NB115_130.out
       obtain ⟨hcz82_0, hcz82_1, hcz82_2, hcz82_3, hcz82_4, hcz82_5, hcz82_6, hcz82_7, hcz82_8⟩ := cz9 BK130.out
       obtain ⟨hfz82_0, hfz82_1, hfz82_2, hfz82_3, hfz82_4, hfz82_5, hfz82_6, hfz82_7, hfz82_8⟩ := fz9 BK130.out
       go_wp2_with (first | ((with_reducible refine gate_callee (f := 18) rfl ?_); refine gl 35 Tryz.func18 #[.agg #[.int .i64 t116, .int .i64 t117, .string t118, .string t119, .int .i64 t120, .string t121, .string t122, .slice Ao15 t123.length co15, .slice Ao16 t126.length co16], .int .i64 1] ((laws_markNote.calls (w := _) (hB := by repeat (first | (with_reducible first | exact HB.out | apply below_alloc | apply pw_below_drewN | apply below_drew1 | refine below_set ?_ GE115.out | refine below_set ?_ GE130.out) | exact HB.out)) (ho0_7 := Kd.R_tight rfl HO_131007.out) (ho0_8 := Kd.R_tight rfl HO_131008.out) (h := A28.out)).mono ?_); rintro e w83 ⟨rfl, hy0, hy1, hb, hkp⟩; refine ⟨_, rfl, ?_⟩; replace HO_116007 := Aside0.mk (Kd.R_mono (ok' := fun k_ => some k_ ≠ (.slice Ao15 t123.length co15 : Value).ownBlock) (Kd.R_keptB ((Kd.R_apart' HO_116007.out (Kd.R_typed HO_131008.out) (by decide))) hkp (fun k_ hk_ hs_ => Or.elim hs_ (fun e_ => (hk_.1) e_) (fun e_ => (hk_.2) e_))) (fun k_ hk_ => hk_.1.1)); replace HO_116008 := Aside0.mk (Kd.R_mono (ok' := fun k_ => some k_ ≠ (.slice Ao16 t126.length co16 : Value).ownBlock) (Kd.R_keptB ((Kd.R_apart' HO_116008.out (Kd.R_typed HO_131007.out) (by decide))) hkp (fun k_ hk_ hs_ => Or.elim hs_ (fun e_ => (hk_.2) e_) (fun e_ => (hk_.1) e_))) (fun k_ hk_ => hk_.1.1)); replace BK115 := Aside0.mk (blk_kept (kQ BK115) hkp (fun hs_ => Or.elim hs_ (fun e_ => (fun e_ => (Kd.R_ne HO_131007.out BK115.out (by decide)) e_) e_) (fun e_ => (fun e_ => (Kd.R_ne HO_131008.out BK115.out (by decide)) e_) e_))); replace BK130 := Aside0.mk (blk_kept (kQ BK130) hkp (fun hs_ => Or.elim hs_ (fun e_ => (fun e_ => (Kd.R_ne HO_131007.out BK130.out (by decide)) e_) e_) (fun e_ => (fun e_ => (Kd.R_ne HO_131008.out BK130.out (by decide)) e_) e_))); replace HO_131007 := Aside0.mk (Kd.R_reok rfl hy0 (fun k_ e_ => HO_131007.out.1 k_ e_)); replace HO_131008 := Aside0.mk (Kd.R_reok rfl hy1 (fun k_ e_ => HO_131008.out.1 k_ e_)); replace HB := Aside0.mk (hb); clear hb; (try clear hkp); (try clear hy0); (try clear hy1); obtain ⟨hcz84_0, hcz84_1, hcz84_2, hcz84_3, hcz84_4, hcz84_5, hcz84_6, hcz84_7, hcz84_8⟩ := cz9 BK130.out; obtain ⟨hfz84_0, hfz84_1, hfz84_2, hfz84_3, hfz84_4, hfz84_5, hfz84_6, hfz84_7, hfz84_8⟩ := fz9 BK130.out) | ((with_reducible refine gate_callee (f := 19) rfl ?_); refine goesL_ (some 38) rfl rfl Tryz.func19 z0_ rfl #[.agg #[.int .i64 t116, .int .i64 t117, .string t118, .string t119, .int .i64 t120, .string t121, .string t122, .slice Ao15 t133.length co15, .slice Ao16 t134.length co16], .int .i64 1] rfl (by (try simp only [List.map_toArray, List.map_cons, List.map_nil]); first | done | (rw [show t133.length = t123.length from (Kd.R_reads' HO_131007.out).1.symm, show t134.length = t126.length from (Kd.R_reads' HO_131008.out).1.symm] <;> rfl) | rfl | (simp only [List.length_drop, List.length_take]; rfl)) ?_; refine (laws_heldNote.calls (w := _) (hr0_7 := rC HO_131007) (hc0_7 := by rw [show t133.length = t123.length from (Kd.R_reads' HO_131007.out).1.symm]; exact (Kd.R_reads' HO_131007.out).2.1) (hr0_8 := rC HO_131008) (hc0_8 := by rw [show t134.length = t126.length from (Kd.R_reads' HO_131008.out).1.symm]; exact (Kd.R_reads' HO_131008.out).2.1) (h := A29.out)).mono ?_; rintro e w85 ⟨rfl, hb⟩; refine ⟨_, rfl, ?_⟩; replace HO_116007 := rS HO_116007 hb; replace HO_116008 := rS HO_116008 hb; replace HO_131007 := rS HO_131007 hb; replace HO_131008 := rS HO_131008 hb; replace BK115 := kS BK115 hb; replace BK130 := kS BK130 hb; replace HB := bS hb; clear hb))
       go_ret
       exact ⟨zr, zB⟩
def laws_FnExactNoteGet.Pure : Prop := ∀ (a0 : ByteArray), a0.size ≤ 140737488351232 → ∃ k, laws_FnExactNoteGet.f k a0 = some true
theorem laws_FnExactNoteGet.walk (P : laws_FnExactNoteGet.Pure) (a0 : ByteArray) (w : World) (hG : Laid w) (w0 : a0.size ≤ 140737488351232) :
  Calls Tryz.prog 5 #[.string a0] w fun e w' => e = .returned (.bool true) ∧ Below w.heap.size w w' := by
 obtain ⟨k, h⟩ := P a0 w0
 refine (laws_FnExactNoteGet.calls k a0 true w hG h).mono ?_
 rintro e w' ⟨rfl, hd⟩
 exact ⟨rfl, hd⟩
end Go.Proofs.YtbncnjgflhoneaaGreatDoor.F
