/- FnNotePut: for every byte string the law returns true (both sides write the drawn note alike and take it alike; what is written is read back as it was) and its argument reads as it did: the given row, and its tied card. Conditions: the listed tables and error values of the library of Go read, when the call begins, as the row lists them. -/
import Derived.ProofKit
import Derived.Carry
import Derived.Lay
import Derived.LaidMore
import Derived.Deep.DeepHandedRow
import Derived.Lib.LaidTab
import Derived.Lib.LaidU8
import Derived.Shelf.Vars
import Derived.SevenTiedAt
import Derived.ShutString
import Derived.OpenShut
import Derived.ChangeSlices
import Derived.Test.YtbncnjgflhoneaaGreatDoorM01
import Derived.Test.YtbncnjgflhoneaaGreatDoorM02
import Derived.Test.YtbncnjgflhoneaaGreatDoorM05
import Derived.Test.YtbncnjgflhoneaaGreatDoorM13
import Derived.Test.YtbncnjgflhoneaaGreatDoorM14
import Derived.Test.YtbncnjgflhoneaaGreatDoorM17
import Derived.Test.YtbncnjgflhoneaaGreatDoorM18
namespace Go.Proofs.YtbncnjgflhoneaaGreatDoor.F
open Go.RowKit Go.Proofs.YtbncnjgflhoneaaGreatDoor.Hand Go.Proofs.YtbncnjgflhoneaaGreatDoorW.PrintWords Go.Proofs.YtbncnjgflhoneaaGreatDoorW.PrintLast Go.Proofs.YtbncnjgflhoneaaGreatDoorW.PrintMore
set_option linter.unusedVariables false
set_option linter.unusedSimpArgs false
def spec_NoteOk.f (k : Nat) (a0_0 : Int) (a0_1 : Int) (a0_2 : ByteArray) (a0_3 : ByteArray) (a0_4 : Int) (a0_5 : ByteArray) (a0_6 : ByteArray) (l0_7 : List (S32)) (l0_8 : List ByteArray) : Option (Bool) := (spec_l6Ok.f k a0_0 a0_1 a0_2 a0_3 a0_4 a0_5 a0_6 l0_7 l0_8).bind fun t102 => (some t102)
set_option maxHeartbeats 8000000 in
set_option maxRecDepth 100000 in
theorem spec_NoteOk.calls (k : Nat) (a0_0 : Int) (a0_1 : Int) (a0_2 : ByteArray) (a0_3 : ByteArray) (a0_4 : Int) (a0_5 : ByteArray) (a0_6 : ByteArray) (A0_7 : Option Addr) (c0_7 : Nat) (l0_7 : List (S32)) (A0_8 : Option Addr) (c0_8 : Nat) (l0_8 : List ByteArray) (r : Bool) (w : World) (hr0_7 : Kd.C k32 w A0_7 l0_7.length l0_7) (hc0_7 : l0_7.length ≤ c0_7) (hr0_8 : Kd.C Kd.string w A0_8 l0_8.length l0_8) (hc0_8 : l0_8.length ≤ c0_8) (h : spec_NoteOk.f k a0_0 a0_1 a0_2 a0_3 a0_4 a0_5 a0_6 l0_7 l0_8 = some r) :
  Calls Tryz.prog 14 #[.agg #[.int .i64 a0_0, .int .i64 a0_1, .string a0_2, .string a0_3, .int .i64 a0_4, .string a0_5, .string a0_6, .slice A0_7 l0_7.length c0_7, .slice A0_8 l0_8.length c0_8]] w fun e w' => e = .returned (.bool r) ∧ Below w.heap.size w w' := by
 have hu37 := Tryz.underlying37
 have HR0_7 := Aside0.mk hr0_7
 have HC0_7 := Aside0.mk hc0_7
 clear hr0_7 hc0_7
 have HR0_8 := Aside0.mk hr0_8
 have HC0_8 := Aside0.mk hc0_8
 clear hr0_8 hc0_8
 have HB := Aside0.mk (Below.refl w.heap.size w)
 have H := h
 clear h
 unfold spec_NoteOk.f at H
 replace H := bnd H; obtain ⟨t102, A2, H⟩ := H
 obtain rfl := Option.some.inj H
 go_enter Tryz.func14, Tryz.ntmps14
 go_wp2_with (first | ((with_reducible refine gate_dst (N := 1) rfl ?_); refine bx (cs := #[.int .i64 a0_0, .int .i64 a0_1, .string a0_2, .string a0_3, .int .i64 a0_4, .string a0_5, .string a0_6, .slice A0_7 l0_7.length c0_7, .slice A0_8 l0_8.length c0_8]) (t := 37) ?_; intro gb101 hg w3 hbox hb; have BK101 := Aside0.mk (hbox); have GW101 := gS hg; have GE101 := gS hg; replace HB := bS hb; clear hb hbox hg; have hcz4 := cz9 BK101.out; have hfz4 := fz9 BK101.out) | ((with_reducible refine gate_callee (f := 23) rfl ?_); refine gv 4 Tryz.func23 #[.agg #[.int .i64 a0_0, .int .i64 a0_1, .string a0_2, .string a0_3, .int .i64 a0_4, .string a0_5, .string a0_6, .slice A0_7 l0_7.length c0_7, .slice A0_8 l0_8.length c0_8]] (spec_l6Ok.calls (w := _) (hr0_7 := cB HR0_7) (hc0_7 := HC0_7.out) (hr0_8 := cB HR0_8) (hc0_8 := HC0_8.out) (h := A2.out)) ?_; intro w5 hb; replace BK101 := kS BK101 hb; replace HB := bS hb; clear hb))
 go_ret
 exact ⟨zr, zB⟩
def laws_FnNotePut.T5 : Bool × List (List Nat × List Nat) := (true, [([], []), ([], []), ([1], [1]), ([0, 2], [0, 2]), ([3, 2], [3]), ([4], [4]), ([5, 4], [4, 5]), ([4], [4]), ([7, 4, 4], [4, 7]), ([6, 8, 4], [4, 6, 8]), ([4, 9], [4, 9]), ([10, 8], [10]), ([11], [11]), ([12, 11, 11], [11, 12]), ([11], [11]), ([14, 13, 11], [11, 14]), ([13, 15, 11], [11, 13, 15]), ([11, 16], [11, 16]), ([17, 15], [17]), ([18], [18]), ([19, 18], [18, 19]), ([18, 20], [18, 20])])
def laws_FnNotePut.B5 : List Nat := [0, 0, 2, 7, 15, 31, 63, 31, 159, 511, 1023, 2047, 4095, 8191, 4095, 32767, 65535, 131071, 262143, 524287, 1048575, 2097151]
theorem laws_FnNotePut.tab5 : rtab .any (opsOf Tryz.f4 5) = laws_FnNotePut.T5 := by kernel_rfl
theorem laws_FnNotePut.bits5 : waitsOk laws_FnNotePut.T5.2 laws_FnNotePut.B5 = true := by kernel_rfl
set_option maxRecDepth 100000 in
theorem laws_FnNotePut.long (A0 : Option Addr) (c0 : Nat) (l0 : List Int) (w : World) (h : (l0.length : Int) > 1048576) :
  Calls Tryz.prog 4 #[.slice A0 l0.length c0] w fun e w' => e = .returned (.bool true) ∧ Below w.heap.size w w' := by
 have HB := Aside0.mk (Below.refl w.heap.size w)
 have c2b0 : decide ((l0.length : Int) > 1048576) = true := decide_eq_true h
 have c2b1 : decide (1048576 < l0.length) = true := decide_eq_true (by omega)
 clear h
 go_enter Tryz.func4, Tryz.ntmps4
 go_wp2
 go_ret
 exact ⟨zr, zB⟩
set_option maxHeartbeats 1000000 in
set_option maxRecDepth 100000 in
theorem laws_FnNotePut.told (k : Nat) (A0 : Option Addr) (c0 : Nat) (l0 : List Int) (w : World) (hG : Laid w) (hr0 : Kd.C (Kd.int .u8) w A0 l0.length l0) (hc0 : l0.length ≤ c0) (h8 : ¬ (l0.length : Int) > 1048576) {kind id now : Int} {au ad u d s : ByteArray} {ts : List S32} {body : List ByteArray} {b : Bool}
  (h1 : spec_DrawNotePut.f k l0 = some (kind, id, au, ad, now, u, d, ts, body)) (h2 : impl_NotePut.f k kind id au ad now u d ts body = some s) (h3 : spec_NotePut.f k kind id au ad now u d ts body = some s) (h4 : impl_NoteOk.f k kind id au ad now u d ts body = some b) (h5 : spec_NoteOk.f k kind id au ad now u d ts body = some b)
  (he : (s.toList == ([] : List UInt8)) = !b) (h6 : b = true → impl_NoteGet.f k s = some (kind, id, au, ad, now, u, d, ts, body, true)) (h7 : laws_saNote.f k kind id au ad now u d ts body kind id au ad now u d ts body = some true) :
  Calls Tryz.prog 4 #[.slice A0 l0.length c0] w fun e w' => e = .returned (.bool true) ∧ Below w.heap.size w w' := by
 have hu37 := Tryz.underlying37
 have HG := Aside0.mk hG
 have HR0 := Aside0.mk hr0
 have HC0 := Aside0.mk hc0
 have HB := Aside0.mk (Below.refl w.heap.size w)
 have c2b0 : decide ((l0.length : Int) > 1048576) = false := decide_eq_false h8
 have c2b1 : decide (1048576 < l0.length) = false := decide_eq_false (by omega)
 have A1 := Aside0.mk h1
 have A2 := Aside0.mk h2
 have A3 := Aside0.mk h3
 have A4 := Aside0.mk h4
 have A5 := Aside0.mk h5
 have A6 := Aside0.mk h6
 have A7 := Aside0.mk h7
 have E1 := Aside0.mk he
 have E2 : Aside0 (s.toList.isEmpty = !b) := ⟨by rw [← he]; cases s.toList <;> rfl⟩
 clear he
 clear hG hr0 hc0 h8 h1 h2 h3 h4 h5 h6 h7
 go_enter Tryz.func4, Tryz.ntmps4
 go_upto_region 5 with (first | ((with_reducible refine gate_callee (f := 12) rfl ?_); refine gl 11 Tryz.func12 #[.slice A0 l0.length c0] ((spec_DrawNotePut.calls (w := _) (hr0 := by repeat (first | exact HR0.out | (with_reducible refine Kd.C_alloc ?_ _) | (with_reducible refine Kd.C_drewN ?_ _) | (with_reducible refine Kd.C_drew ?_))) (hc0 := HC0.out) (h := A1.out)).mono ?_); rintro e w6 ⟨v109, v112, rfl, ho0, ho1, hb⟩; refine ⟨_, rfl, ?_⟩; have HO110 := lS ho0; have HO113 := lS ho1; replace HB := bS hb; clear hb ho0; (try clear ho1)) | ((with_reducible refine gate_dst (N := 3) rfl ?_); refine bx (cs := #[.int .i64 0, .int .i64 0, .string ⟨#[]⟩, .string ⟨#[]⟩, .int .i64 0, .string ⟨#[]⟩, .string ⟨#[]⟩, .slice none 0 0, .slice none 0 0]) (t := 37) ?_; intro gb114 hg w7 hbox hb; replace HO110 := rS HO110 hb; replace HO113 := rS HO113 hb; have BK114 := Aside0.mk (hbox); have GW114 := gS hg; replace HB := bS hb; clear hb hbox hg; have hcz8 := cz9 BK114.out; have hfz8 := fz9 BK114.out; obtain ⟨Ao9, co9, eo9⟩ := Kd.R_slice HO110.out; subst eo9; obtain ⟨Ao10, co10, eo10⟩ := Kd.R_slice HO113.out; subst eo10) | ((with_reducible refine gate_callee (f := 10) rfl ?_); refine gv 13 Tryz.func10 #[.agg #[.int .i64 kind, .int .i64 id, .string au, .string ad, .int .i64 now, .string u, .string d, .slice Ao9 ts.length co9, .slice Ao10 body.length co10]] (impl_NotePut.calls (w := _) (hG := gB) (hr0_7 := by refine (Kd.R_reads' (e := 32) (base := w.heap.size) (ok := fun _ => True) (n := ts.length) (c := co9) ?_).2.2; exact (fO HO110 BK114)) (hc0_7 := cL HO110) (hr0_8 := (Kd.R_reads' (fO HO113 BK114)).2.2) (hc0_8 := cL HO113) (h := A2.out)) ?_; intro w11 hb; replace HO110 := fS HO110 BK114 hb; replace HO113 := fS HO113 BK114 hb; replace BK114 := kP (.cells #[.int .i64 kind, .int .i64 id, .string au, .string ad, .int .i64 now, .string u, .string d, .slice Ao9 ts.length co9, .slice Ao10 body.length co10] 37 (0, 0)) BK114 hb; replace HB := bS hb; clear hb))
 (try simp only [Act.put, List.setIfInBounds_toArray, List.set_cons_zero, List.set_cons_succ])
 replace HO110 := Aside0.mk (Kd.R_drew HO110.out)
 replace HO113 := Aside0.mk (Kd.R_drew HO113.out)
 replace BK114 := Aside0.mk (blk_drew BK114.out)
 replace HB := Aside0.mk (below_drew1 HB.out)
 refine start_ (n := 22) (S := fun w' => w'.cell? ⟨gb114, 0, none⟩ = some (.int .i64 kind) ∧ w'.cell? ⟨gb114, 1, none⟩ = some (.int .i64 id) ∧ w'.cell? ⟨gb114, 2, none⟩ = some (.string au) ∧ w'.cell? ⟨gb114, 3, none⟩ = some (.string ad) ∧ w'.cell? ⟨gb114, 4, none⟩ = some (.int .i64 now) ∧ w'.cell? ⟨gb114, 5, none⟩ = some (.string u) ∧ w'.cell? ⟨gb114, 6, none⟩ = some (.string d) ∧ w'.cell? ⟨gb114, 7, none⟩ = some (.slice Ao9 ts.length co9) ∧ w'.cell? ⟨gb114, 8, none⟩ = some (.slice Ao10 body.length co10)) (ds := []) #[false, false, false, false, false, false, false, false, false, false, false, false, false, false, false, false, false, false, false, false, false, false] (by kernel_rfl) rfl rfl zH (fun hHeld => ?_); refine with_tabW laws_FnNotePut.tab5 laws_FnNotePut.bits5 (fun HT_ HW_ => ?_)
 generalize w11.drew = w12 at HO110 HO113 BK114 HB hHeld ⊢
 refine pu 0 14 ?_
 refine ta 1 15 ?_
 refine on 2 (some 16) (fun K hK => ?_)
 refine goes_ Tryz.func8 (by kernel_rfl) rfl #[.agg #[.int .i64 kind, .int .i64 id, .string au, .string ad, .int .i64 now, .string u, .string d, .slice Ao9 ts.length co9, .slice Ao10 body.length co10]] (by rfl) rfl rfl zm ?_
 refine (spec_NotePut.calls (w := _) (hr0_7 := rC HO110) (hc0_7 := cL HO110) (hr0_8 := rC HO113) (hc0_8 := cL HO113) (h := A3.out)).mono ?_
 rintro e w1 ⟨rfl, hb⟩
 refine ⟨_, rfl, ?_⟩
 replace HO110 := rS HO110 hb; replace HO113 := rS HO113 hb; replace BK114 := kS BK114 hb; replace HB := bS hb; clear hb
 refine kO 16 hK (fun hHeld => ?_)
 clear hK K
 refine pu 3 17 ?_
 refine pu 4 18 ?_
 refine pu 5 19 ?_
 refine pu 6 20 ?_
 refine ta 7 21 ?_
 refine on 8 (some 22) (fun K hK => ?_)
 refine goes_ Tryz.func13 (by kernel_rfl) rfl #[.agg #[.int .i64 kind, .int .i64 id, .string au, .string ad, .int .i64 now, .string u, .string d, .slice Ao9 ts.length co9, .slice Ao10 body.length co10]] (by rfl) rfl rfl zm ?_
 refine (impl_NoteOk.calls (w := _) (hG := gB) (hr0_7 := rC HO110) (hc0_7 := cL HO110) (hr0_8 := rC HO113) (hc0_8 := cL HO113) (h := A4.out)).mono ?_
 rintro e w1 ⟨rfl, hb⟩
 refine ⟨_, rfl, ?_⟩
 replace HO110 := rS HO110 hb; replace HO113 := rS HO113 hb; replace BK114 := kS BK114 hb; replace HB := bS hb; clear hb
 refine kO 22 hK (fun hHeld => ?_)
 clear hK K
 have he := E2.out
 refine pu 9 23 ?_
 refine pu 10 24 ?_
 refine pu 11 25 ?_
 refine ta 12 26 ?_
 refine ta 14 28 ?_
 refine on 13 (some 27) (fun K hK => ?_)
 refine goes_ Tryz.func13 (by kernel_rfl) rfl #[.agg #[.int .i64 kind, .int .i64 id, .string au, .string ad, .int .i64 now, .string u, .string d, .slice Ao9 ts.length co9, .slice Ao10 body.length co10]] (by rfl) rfl rfl zm ?_
 refine (impl_NoteOk.calls (w := _) (hG := gB) (hr0_7 := rC HO110) (hc0_7 := cL HO110) (hr0_8 := rC HO113) (hc0_8 := cL HO113) (h := A4.out)).mono ?_
 rintro e w1 ⟨rfl, hb⟩
 refine ⟨_, rfl, ?_⟩
 replace HO110 := rS HO110 hb; replace HO113 := rS HO113 hb; replace BK114 := kS BK114 hb; replace HB := bS hb; clear hb
 refine kO 27 hK (fun hHeld => ?_)
 clear hK K
 refine on 15 (some 29) (fun K hK => ?_)
 refine goes_ Tryz.func14 (by kernel_rfl) rfl #[.agg #[.int .i64 kind, .int .i64 id, .string au, .string ad, .int .i64 now, .string u, .string d, .slice Ao9 ts.length co9, .slice Ao10 body.length co10]] (by rfl) rfl rfl zm ?_
 refine (spec_NoteOk.calls (w := _) (hr0_7 := rC HO110) (hc0_7 := cL HO110) (hr0_8 := rC HO113) (hc0_8 := cL HO113) (h := A5.out)).mono ?_
 rintro e w1 ⟨rfl, hb⟩
 refine ⟨_, rfl, ?_⟩
 replace HO110 := rS HO110 hb; replace HO113 := rS HO113 hb; replace BK114 := kS BK114 hb; replace HB := bS hb; clear hb
 refine kO 29 hK (fun hHeld => ?_)
 clear hK K
 refine pu 16 30 ?_
 refine pu 17 31 ?_
 refine pu 18 32 ?_
 refine pu 19 33 ?_
 refine pu 20 34 ?_
 refine pu 21 35 ?_
 refine done_ (done_of HT_.out (by kernel_rfl)) ?_
 have hcz := cz9 BK114.out
 cases b with
 | false =>
  go_wp2_with (first | ((with_reducible refine gate_callee (f := 8) rfl ?_); refine gv 38 Tryz.func8 #[.agg #[.int .i64 kind, .int .i64 id, .string au, .string ad, .int .i64 now, .string u, .string d, .slice Ao9 ts.length co9, .slice Ao10 body.length co10]] (spec_NotePut.calls (w := _) (hr0_7 := rC HO110) (hc0_7 := cL HO110) (hr0_8 := rC HO113) (hc0_8 := cL HO113) (h := A3.out)) ?_; intro w1 hb; replace HO110 := rS HO110 hb; replace HO113 := rS HO113 hb; replace BK114 := kS BK114 hb; replace HB := bS hb; clear hb; have hcz := cz9 BK114.out) | (go_at_call 13; refine (impl_NoteOk.calls (w := _) (hG := gB) (hr0_7 := rC HO110) (hc0_7 := cL HO110) (hr0_8 := rC HO113) (hc0_8 := cL HO113) (h := A4.out)).mono ?_; rintro e w2 ⟨rfl, hb⟩; replace HO110 := rS HO110 hb; replace HO113 := rS HO113 hb; replace BK114 := kS BK114 hb; replace HB := bS hb; clear hb))
  go_ret
  exact ⟨zr, zB⟩
 | true =>
  have A8 := Aside0.mk (A6.out rfl)
  go_wp2_with (first | ((with_reducible refine gate_callee (f := 15) rfl ?_); refine gl 49 Tryz.func15 _ ((impl_NoteGet.calls (w := _) (hG := gB) (h := A8.out)).mono ?_); rintro e w47 ⟨v130, v133, rfl, ho0, ho1, hb⟩; refine ⟨_, rfl, ?_⟩; have HO131 := lS ho0; have HO134 := lS ho1; replace HO110 := rS HO110 hb; replace HO113 := rS HO113 hb; replace BK114 := kS BK114 hb; replace HB := bS hb; clear hb ho0 ho1) | ((with_reducible refine gate_dst (N := 5) rfl ?_); refine bx (cs := #[.int .i64 0, .int .i64 0, .string ⟨#[]⟩, .string ⟨#[]⟩, .int .i64 0, .string ⟨#[]⟩, .string ⟨#[]⟩, .slice none 0 0, .slice none 0 0]) (t := 37) ?_; intro gb136 hg w48 hbox hb; replace HO110 := rS HO110 hb; replace HO113 := rS HO113 hb; replace HO131 := rS HO131 hb; replace HO134 := rS HO134 hb; have BK136 := Aside0.mk (hbox); have GW136 := gS hg; have NB114_136 := nS hg BK114; have NB136_114 := nG hg BK114; replace BK114 := kS BK114 hb; replace HB := bS hb; clear hb hbox hg; have hnb49 := NB136_114.out; have hnc49 := NB114_136.out; have hcz50 := cz9 BK136.out; have hfz50 := fz9 BK136.out; obtain ⟨Ao51, co51, eo51⟩ := Kd.R_slice HO131.out; subst eo51; obtain ⟨Ao52, co52, eo52⟩ := Kd.R_slice HO134.out; subst eo52; have hcz53 := cz9 BK114.out; have hfz53 := fz9 BK114.out) | (go_at_call 16; refine (laws_saNote.calls (w := _) (hr0_7 := by refine (Kd.R_reads' (e := 32) (base := w.heap.size) (ok := fun _ => True) (n := ts.length) (c := co51) ?_).2.2; exact (fO HO131 BK136)) (hc0_7 := cL HO131) (hr0_8 := (Kd.R_reads' (fO HO134 BK136)).2.2) (hc0_8 := cL HO134) (hr1_7 := by refine (Kd.R_reads' (e := 32) (base := w.heap.size) (ok := fun _ => True) (n := ts.length) (c := co9) ?_).2.2; exact (fO HO110 BK136)) (hc1_7 := cL HO110) (hr1_8 := (Kd.R_reads' (fO HO113 BK136)).2.2) (hc1_8 := cL HO113) (h := A7.out)).mono ?_; rintro e w54 ⟨rfl, hb⟩; replace BK136 := kP (.cells #[.int .i64 kind, .int .i64 id, .string au, .string ad, .int .i64 now, .string u, .string d, .slice Ao51 ts.length co51, .slice Ao52 body.length co52] 37 (0, 0)) BK136 hb; replace HB := bS hb; clear hb))
  go_ret
  exact ⟨zr, zB⟩
end Go.Proofs.YtbncnjgflhoneaaGreatDoor.F
namespace Go.Proofs.YtbncnjgflhoneaaGreatDoor.Hand
open Go.RowKit Go.Proofs.YtbncnjgflhoneaaGreatDoor.F Go.Proofs.YtbncnjgflhoneaaGreatDoorW.PrintWords Go.Proofs.YtbncnjgflhoneaaGreatDoorW.PrintLast Go.Proofs.YtbncnjgflhoneaaGreatDoorW.PrintMore
theorem anyAddr_ev {s : List Int} (hs : Byt s) {p : Int} (h0 : 0 ≤ p) (h1 : p ≤ 1000) : ∃ u d q, Ev (fun k => spec_l20AnyAddr.f k s p) (u, d, q) ∧ Sm u ∧ Sm d := by
 obtain ⟨u, d, ha, su, sd⟩ := addr_ev hs h0 (by omega)
 obtain ⟨v, hv, _⟩ := pick_ev hs (p := p + 2) (by omega) (by omega) (n := 10) (by omega)
 unfold spec_l20AnyAddr.f
 by_cases c0 : v = 0
 ·obtain ⟨x, hx, mx⟩ := of_ev hs (p := p + 2 + 1) (by omega) (by omega) [(⟨#[]⟩ : ByteArray), (⟨#[65]⟩ : ByteArray), (⟨#[116, 111, 111, 108, 111, 110, 103, 110, 97, 109, 101]⟩ : ByteArray), (⟨#[97, 64, 98]⟩ : ByteArray)] (by decide)
  exact ⟨x, d, _, Ev.bind ha (Ev.bind hv (Ev.congr (fun k => if_pos c0) (Ev.bind hx (Ev.now (x, d, p + 2 + 1 + 1))))), small_of mx (by decide), sd⟩
 by_cases c1 : v = 1
 ·obtain ⟨x, hx, mx⟩ := of_ev hs (p := p + 2 + 1) (by omega) (by omega) [(⟨#[]⟩ : ByteArray), (⟨#[97, 46, 46, 98]⟩ : ByteArray), (⟨#[46, 97]⟩ : ByteArray), (⟨#[97, 46, 98, 46, 99, 46, 100]⟩ : ByteArray), (⟨#[85, 112, 46, 111, 114, 103]⟩ : ByteArray)] (by decide)
  exact ⟨u, x, _, Ev.bind ha (Ev.bind hv (Ev.congr (fun k => (if_neg c0).trans (if_pos c1)) (Ev.bind hx (Ev.now (u, x, p + 2 + 1 + 1))))), su, small_of mx (by decide)⟩
 by_cases c2 : v = 2
 ·exact ⟨(⟨#[]⟩ : ByteArray), (⟨#[]⟩ : ByteArray), p + 2 + 1, Ev.bind ha (Ev.bind hv (Ev.congr (fun k => (if_neg c0).trans ((if_neg c1).trans (if_pos c2))) (Ev.now _))), no_text, no_text⟩
 ·exact ⟨u, d, p + 2 + 1, Ev.bind ha (Ev.bind hv (Ev.congr (fun k => (if_neg c0).trans ((if_neg c1).trans (if_neg c2))) (Ev.now _))), su, sd⟩
theorem anyNote_ev {s : List Int} (hs : Byt s) {p : Int} (h0 : 0 ≤ p) (h1 : p ≤ 400) (a : Int) {l : List S117} (hl : OkS l) : ∃ kind id au ad now u d ts body q, Ev (fun k => spec_l20AnyNote.f k s p a l) (kind, id, au, ad, now, u, d, ts, body, q) ∧ Drawn au ad u d ts body := by
 obtain ⟨kind, id, au, ad, now, u, d, ts, body, q, hn, hd, q0, q1⟩ := note_ev hs h0 h1 a hl
 obtain ⟨v, hv, _⟩ := pick_ev hs (p := q) (by omega) (by omega) (n := 12) (by omega)
 unfold spec_l20AnyNote.f
 by_cases c0 : v = 0
 ·obtain ⟨x, hx, _⟩ := one_ev hs (p := q + 1) (by omega) (by omega) [0, 4, 1, 2] (by decide)
  exact ⟨x, id, au, ad, now, u, d, ts, body, _, Ev.bind hn (Ev.bind hv (Ev.congr (fun k => if_pos c0) (Ev.bind hx (Ev.now (x, id, au, ad, now, u, d, ts, body, q + 1 + 1))))), hd⟩
 by_cases c1 : v = 1
 ·obtain ⟨x, hx, _⟩ := one_ev hs (p := q + 1) (by omega) (by omega) [-1, 1000, 0] (by decide)
  exact ⟨kind, x, au, ad, now, u, d, ts, body, _, Ev.bind hn (Ev.bind hv (Ev.congr (fun k => (if_neg c0).trans (if_pos c1)) (Ev.bind hx (Ev.now (kind, x, au, ad, now, u, d, ts, body, q + 1 + 1))))), hd⟩
 by_cases c2 : v = 2
 ·obtain ⟨x, y, r, hx, sx, sy⟩ := anyAddr_ev hs (p := q + 1) (by omega) (by omega)
  exact ⟨kind, id, x, y, now, u, d, ts, body, r, Ev.bind hn (Ev.bind hv (Ev.congr (fun k => (if_neg c0).trans ((if_neg c1).trans (if_pos c2))) (Ev.bind hx (Ev.now (kind, id, x, y, now, u, d, ts, body, r))))), ⟨sx, sy, hd.u, hd.d, hd.t4, hd.ts, hd.body⟩⟩
 by_cases c3 : v = 3
 ·obtain ⟨x, hx, _⟩ := one_ev hs (p := q + 1) (by omega) (by omega) [-1, 10000] (by decide)
  exact ⟨kind, id, au, ad, x, u, d, ts, body, _, Ev.bind hn (Ev.bind hv (Ev.congr (fun k => (if_neg c0).trans ((if_neg c1).trans ((if_neg c2).trans (if_pos c3)))) (Ev.bind hx (Ev.now (kind, id, au, ad, x, u, d, ts, body, q + 1 + 1))))), hd⟩
 ·exact ⟨kind, id, au, ad, now, u, d, ts, body, q + 1, Ev.bind hn (Ev.bind hv (Ev.congr (fun k => (if_neg c0).trans ((if_neg c1).trans ((if_neg c2).trans (if_neg c3)))) (Ev.now _))), hd⟩
theorem put_drawn (l : List Int) (hl : ∀ x ∈ l, 0 ≤ x ∧ x ≤ 255) : ∃ kind id au ad now u d ts body, Ev (fun k => spec_DrawNotePut.f k l) (kind, id, au, ad, now, u, d, ts, body) ∧ Drawn au ad u d ts body := by
 obtain ⟨s, ho, hs⟩ := open_ev l hl
 obtain ⟨a, sp, q, hsp, ok, q0, q1⟩ := spool_ev hs
 obtain ⟨kind, id, au, ad, now, u, d, ts, body, q', hn, hd⟩ := anyNote_ev hs q0 q1 a ok
 refine ⟨kind, id, au, ad, now, u, d, ts, body, ?_, hd⟩
 unfold spec_DrawNotePut.f
 refine Ev.bind (a := (kind, id, au, ad, now, u, d, ts, body)) ?_ (Ev.now _)
 unfold spec_DrawNoteOk.f
 simp only [ho, Option.bind_some]
 exact Ev.bind hsp (Ev.bind hn (Ev.now _))
theorem itoa_four (n : Int) (h : 0 ≤ n) (h9 : n ≤ 9999) : (Lib.itoa n).length ≤ 4 := by
 obtain ⟨m, rfl⟩ := Int.eq_ofNat_of_zero_le h
 obtain ⟨ds, hf⟩ := figures m (by omega)
 rw [itoa_nat _ h, Int.toNat_natCast, hf.text, List.length_map]
 exact hf.four
theorem noteT_820 {kind id : Int} {au ad : ByteArray} {now : Int} {u d : ByteArray} {ts : List S32} {body : List ByteArray} (h : noteB kind id au ad now u d ts body = true) : (noteT kind id au ad now u d ts body).length ≤ 820 ∧ noteT kind id au ad now u d ts body ≠ [] := by
 unfold noteT
 rcases note_parts h with ⟨rfl, hm, n0, n9, _, _⟩ | ⟨rfl, hb, i1, i9, ha, _⟩ | ⟨rfl, hb, i1, i9, ha, n0, n9⟩
 ·rw [if_pos rfl]
  have := itoa_four now n0 n9
  have := mailT_small hm
  refine ⟨?_, by simp⟩
  simp only [List.length_append, List.length_cons, List.length_nil]
  omega
 ·rw [if_neg (by decide), if_pos rfl]
  have := itoa_four id (by omega) (by omega)
  have := addrT_small (u := au) (d := ad) (by rw [ha, Bool.or_true])
  refine ⟨?_, by simp⟩
  simp only [List.length_append, List.length_cons, List.length_nil]
  omega
 ·rw [if_neg (by decide), if_neg (by decide)]
  have := itoa_four id (by omega) (by omega)
  have := itoa_four now n0 n9
  have := addrT_small (u := au) (d := ad) (by rw [ha, Bool.or_true])
  refine ⟨?_, by simp⟩
  simp only [List.length_append, List.length_cons, List.length_nil]
  omega
theorem read_back {kind id : Int} {au ad : ByteArray} {now : Int} {u d : ByteArray} {ts : List S32} {body : List ByteArray} (h : noteB kind id au ad now u d ts body = true) : Ev (fun k => impl_NoteGet.f k (B (noteT kind id au ad now u d ts body))) (kind, id, au, ad, now, u, d, ts, body, true) := by
 have hi := inote_tells (B (noteT kind id au ad now u d ts body))
 rw [B_data, if_neg (by have := (noteT_820 h).1; omega), noteI_text h] at hi
 have e : finR (noteT kind id au ad now u d ts body) (kind, id, au, ad, now, u, d, ts, body) = (kind, id, au, ad, now, u, d, ts, body, true) := by
  show finC _ kind id au ad now u d ts body = _
  unfold finC okC
  rw [if_pos (by rw [h]; simp)]
 rw [e] at hi
 exact hi
theorem put_calls (A0 : Option Addr) (c0 : Nat) (l0 : List Int) (w : World) (hG : Laid w) (hr0 : Kd.C (Kd.int .u8) w A0 l0.length l0) (hc0 : l0.length ≤ c0) (hl : ∀ x ∈ l0, 0 ≤ x ∧ x ≤ 255) :
  Calls Tryz.prog 4 #[.slice A0 l0.length c0] w fun e w' => e = .returned (.bool true) ∧ Below w.heap.size w w' := by
 by_cases h8 : (l0.length : Int) > 1048576
 ·exact laws_FnNotePut.long A0 c0 l0 w h8
 obtain ⟨kind, id, au, ad, now, u, d, ts, body, ⟨K1, e1⟩, hd⟩ := put_drawn l0 hl
 obtain ⟨sh, sau, sad⟩ := hd.small
 have h4 := hd.t4
 have h12 := hd.body.1
 obtain ⟨K2, e2⟩ := pNotePut_tells kind id au ad now u d ts body sh sau sad
 obtain ⟨K3, e3⟩ := sNotePut_tells kind id au ad now u d ts body sh sau sad
 obtain ⟨K4, e4⟩ := pnote_tells kind id au ad now u d ts body sh sad
 obtain ⟨K5, e5⟩ := Ev.bind (f := fun _ t => some t) (snote_tells kind id au ad now u d ts body sh sau sad) (Ev.now _)
 obtain ⟨K7, e7⟩ := saNote_self kind id au ad now u d ts body (by omega) (by omega)
 cases hb : noteB kind id au ad now u d ts body with
 | false =>
  have k : K1 ≤ K1 + K2 + K3 + K4 + K5 + K7 := by omega
  refine laws_FnNotePut.told (K1 + K2 + K3 + K4 + K5 + K7) A0 c0 l0 w hG hr0 hc0 h8 (b := false) (e1 _ k) (e2 _ (by omega)) (e3 _ (by omega)) ((e4 _ (by omega)).trans (by rw [hb])) ((e5 _ (by omega)).trans (by rw [hb])) ?_ (fun h => by cases h) (e7 _ (by omega))
  unfold putB
  rw [if_neg (by rw [hb]; decide)]
  have e0 : (⟨#[]⟩ : ByteArray).toList = [] := by first | exact B_toList [] | rfl | decide | (unfold ByteArray.toList; rw [ByteArray.toList.loop]; rfl) | simp [ByteArray.toList, ByteArray.toList.loop]
  rw [e0]
  rfl
 | true =>
  obtain ⟨K6, e6⟩ := read_back hb
  have k : K1 ≤ K1 + K2 + K3 + K4 + K5 + K6 + K7 := by omega
  have hp : putB kind id au ad now u d ts body = B (noteT kind id au ad now u d ts body) := by unfold putB; rw [if_pos hb]
  rw [hp] at e2 e3
  refine laws_FnNotePut.told (K1 + K2 + K3 + K4 + K5 + K6 + K7) A0 c0 l0 w hG hr0 hc0 h8 (b := true) (e1 _ k) (e2 _ (by omega)) (e3 _ (by omega)) ((e4 _ (by omega)).trans (by rw [hb])) ((e5 _ (by omega)).trans (by rw [hb])) ?_ (fun _ => e6 _ (by omega)) (e7 _ (by omega))
  rw [B_toList]
  have hne := (noteT_820 hb).2
  generalize noteT kind id au ad now u d ts body = t at hne
  cases t with
  | nil => exact absurd rfl hne
  | cons a t => rfl
end Go.Proofs.YtbncnjgflhoneaaGreatDoor.Hand
namespace Go.Proofs.YtbncnjgflhoneaaGreatDoor.Row4
open Go.ChangeShapes Go.WideShapes Go.ChangeAt Go.RowKit Go.Proofs.YtbncnjgflhoneaaGreatDoor.F Go.Proofs.YtbncnjgflhoneaaGreatDoor.Hand Go.Proofs.YtbncnjgflhoneaaGreatDoorW.PrintWords
open Go.ChangeMaps (open_string shut_string)
theorem lies : laidOutB Tryz.prog = true := by kernel_rfl
theorem own : ownKnob Tryz.prog.godebug = none := by kernel_rfl
theorem under_tab : Tryz.prog.underlying 172 = some (.array 20 146) := by kernel_rfl
theorem iface_cells {P : Program} {W : World} {name : String} {x : DataW Unit} {t fuel : Nat} {fs : Array (String × TypeId)} (hu : P.underlying t = some (.interface fs)) : ∀ (l : List Value) (p : List MemPlace), DataW.trod (fun _ => ()) P W 0 (fun _ => true) false fuel t l = some (.iface name x, p) → ∃ u v, l = [.iface u v] := by
 intro l p hd
 cases fuel with
 | zero => simp [DataW.trod] at hd
 | succ fuel =>
  match l with
  | [] => simp [DataW.trod, hu] at hd
  | [c] => cases c <;> first | exact ⟨_, _, rfl⟩ | simp [DataW.trod, hu] at hd
  | c :: c' :: r => simp [DataW.trod, hu] at hd
theorem error_cell {W : World} {n : String} {name : String} {x : DataW Unit} {g t : Nat} (h : Lib.VarReads Tryz.prog W n (.iface name x)) (hg : Tryz.prog.globalNamed n = some g) (ht : (Tryz.prog.globals[g]?).map (·.type) = some t) {fs : Array (String × TypeId)} (hu : Tryz.prog.underlying t = some (.interface fs)) :
  ∃ ev, W.cell? ⟨g, 0, none⟩ = some ev ∧ (ev = .nilIface ∨ ∃ te pe, ev = .iface te pe) := by
 obtain ⟨g', t', cs, fuel, p, hg', ht', hv, hd⟩ := h
 obtain rfl := Option.some.inj (hg.symm.trans hg')
 obtain rfl := Option.some.inj (ht.symm.trans ht')
 have hcell := World.var?_cell hg hv 0
 obtain ⟨u, v, hl⟩ := iface_cells hu cs.toList p hd
 obtain ⟨l⟩ := cs
 have hl : l = [.iface u v] := hl
 subst hl
 exact ⟨.iface u v, hcell, .inr ⟨u, v, rfl⟩⟩
theorem laid_of {W : World} (h : laidMetH Tryz.prog Rows.fnNotePutRow.laid W) (hs : W.ShapedOpen Tryz.prog) : Laid W := by
 rw [MakeChecks.laidMetH_plain _ _ _ (by kernel_rfl)] at h
 refine ⟨Go.Proofs.cell_of_shapedOpen_int (zero := #[.int .i64 0]) (t := 3) hs (of_decide_eq_true (by kernel_rfl)) (by kernel_rfl) rfl (by kernel_rfl) (by kernel_rfl) Tryz.underlying3, ?_, ?_, ?_⟩
 ·obtain ⟨g, t, cs, fuel, p, hg, ht, hv, hd⟩ := Lib.laidMet.reads h (n := "internal/strconv.uint64pow10") (d := Rows.laid_internal_strconv_uint64pow10) (.tail _ (.tail _ (.head _)))
  have hg1 : Tryz.prog.globalNamed "internal/strconv.uint64pow10" = some 1 := by kernel_rfl
  obtain rfl := Option.some.inj (hg1.symm.trans hg)
  have ht1 : (Tryz.prog.globals[1]?).map (·.type) = some 172 := by kernel_rfl
  obtain rfl := Option.some.inj (ht1.symm.trans ht)
  have hz : (Rows.laid_internal_strconv_uint64pow10 : DataW Unit) = Lib.tabData .u64 Lib.pow10Tab := by rfl
  rw [hz] at hd
  unfold Lib.TabIs
  rw [hv, ← Lib.cells_of_tab under_tab (by kernel_rfl : Tryz.prog.underlying 146 = some (.int .u64)) (by kernel_rfl) (by kernel_rfl) hd]
 ·exact error_cell (t := 96) (Lib.laidMet.reads h (n := "strconv.ErrSyntax") (d := Rows.laid_strconv_ErrSyntax) (.tail _ (.tail _ (.tail _ (.tail _ (.tail _ (.head _))))))) (by kernel_rfl) (by kernel_rfl) Tryz.underlying96
 ·exact error_cell (t := 96) (Lib.laidMet.reads h (n := "strconv.ErrRange") (d := Rows.laid_strconv_ErrRange) (.tail _ (.tail _ (.tail _ (.tail _ (.head _)))))) (by kernel_rfl) (by kernel_rfl) Tryz.underlying96
set_option maxRecDepth 100000 in
theorem lifted (os : Os) (started : os.Started) (H : Type) (enc : TypeId × Value → H) (F : Stop.Interp) :
  ReturnsInHanded {} Tryz.checked os 4 .any ((OpenSpec.ofChange Rows.fnNotePutSpec).preRow enc Tryz.prog Tryz.f4 Rows.fnNotePutRow.domain false Rows.fnNotePutRow.laid) (((OpenSpec.ofChange Rows.fnNotePutSpec).at F).post enc Tryz.prog Tryz.f4 false true false false) := by
 refine returnsInHanded_of_row (C := Tryz.checked) (s := OpenSpec.ofChange Rows.fnNotePutSpec) own started (by kernel_rfl) Tryz.func4
  (ChangeSpec.witness_shaped (enc := enc) (C := Tryz.checked) (os := os) (s := Rows.fnNotePutSpec) (X := fun w _ => laidMetH Tryz.prog Rows.fnNotePutRow.laid w) false (World.laidAll Tryz.prog os Rows.fnNotePutRow.laid)
   #[.slice none 0 0] 8 (World.laidAll_os _ _ _)
   (World.shaped_of_ZipB (by kernel_rfl) (by kernel_rfl)) (by kernel_rfl) (by kernel_rfl) (by kernel_rfl)
   (by rw [MakeChecks.laidMetH_plain _ _ _ (by kernel_rfl)]; exact laidMet_laidAll _ (by kernel_rfl) (by kernel_rfl))) ?_
 intro W base args ds gs before hval0 hW _ _ hsz0 hL hS _
 have hval : ∀ (j : Nat) t v, Tryz.f4.params[j]? = some t → args[j]? = some v → Value.okWide Tryz.prog W .any base t v := hval0
 have hW' := hW
 obtain ⟨p, q, hA0, hV0, rfl, _, _⟩ := hW
 have hA : DataW.TrodAll enc Tryz.prog W 0 (fun _ => true) true Tryz.f4.params.toList args.toList ds p := hA0
 rw [Tryz.params4] at hA hval
 obtain ⟨v0, d0, rfl, rfl, h0⟩ := trodAll_one hA
 obtain ⟨rfl, rfl⟩ := trodVars_none hV0
 obtain ⟨a0, len0, cap0, rfl⟩ := okWide_slice Tryz.underlying41 (hval 0 41 v0 rfl rfl)
 simp only [List.append_nil] at hW'
 have hlt : ∀ x ∈ p, x.block < W.heap.size := fun x hx => by simpa using hW'.lt x hx
 obtain ⟨z0, w0⟩ : ∃ zs : List Int, (a0 = none ∧ len0 = 0 ∧ cap0 = 0 ∧ zs = []) ∨ ∃ x, a0 = some x ∧ len0 ≤ cap0 ∧ cap0 ≤ maxLen ∧ zs.length = cap0 ∧ (∀ i, i < zs.length → W.cell? (x.add i) = some (.int .u8 (zs.getD i 0))) ∧ ∀ n ∈ zs, (Lit.int .u8 n).wf = true := by
  obtain ⟨fuel, hf⟩ := h0
  rcases open_ints Tryz.underlying41 Tryz.underlying5 (by kernel_rfl) hf with ⟨hcs, _⟩ | ⟨x, l, c, zs, hcs, _, hl, hm, hz, _, hcell, hwz⟩
  ·simp [Value.cells] at hcs
   obtain ⟨rfl, rfl, rfl⟩ := hcs
   exact ⟨[], .inl ⟨rfl, rfl, rfl, rfl⟩⟩
  ·simp [Value.cells] at hcs
   obtain ⟨rfl, rfl, rfl⟩ := hcs
   exact ⟨zs, .inr ⟨_, rfl, hl, hm, by simpa using hz, hcell, hwz⟩⟩
 clear hA0 hV0 hval0
 obtain ⟨l0, rfl, hr0, hm0, hw0, hc0⟩ := ReadsInt.ofRowC w0
 refine (put_calls _ _ l0 W (laid_of hL hS) (Kd.C_of_reads (d := (0 : Int)) (h1 := fun _ => rfl) hr0) hc0 (fun x hx => by have := hw0 x hx; simp [Lit.wf, IntKind.min, IntKind.max, IntKind.bits, IntKind.signed] at this; omega)).mono fun e W' ⟨he, bel⟩ => ?_
 subst he
 exact ⟨_, rfl, _, _, _, [], p, [], hW', trodAll_mk1 (shut_bool Tryz.underlying4 _), trodAll_mk1 (Below.trod lies (by kernel_rfl) (of_decide_eq_true (by kernel_rfl)) h0 bel hlt), rfl, bel.frame _, fun h => by cases h⟩
theorem row_holds : Rows.FnNotePutSaid :=
 OpenClaim.holds_of_cond 4 Tryz.f4 rfl rfl rfl rfl rfl rfl rfl ⟨rfl, rfl, rfl, rfl, rfl⟩ rfl rfl rfl rfl rfl (by kernel_rfl) Tryz.func4 (by kernel_rfl)
  (of_decide_eq_true (by kernel_rfl)) (by unfold Func.isWrapper; rw [if_neg (of_decide_eq_false (by kernel_rfl))]; exact ⟨rfl, rfl⟩)
  (fun os started H enc _ F => by rw [OpenClaim.pre_eq_preRow]; exact lifted os started H enc F)
theorem card_holds : Rows.FnNotePutCardSaid :=
 Claim7.holds_tied_plain_at .later [] [.data, .data, .data, .data, .sentinel, .sentinel, .pinned] true (true, "7a9d3659d3f520a9de6c05b6af5fcd28b7dff4b50647289148529cd8e18a8a3a") true
  row_holds (fun _ h => by cases h) (by kernel_rfl) (fun _ h => by cases h) fnNotePut_row_tie rfl ⟨rfl, rfl⟩ (by kernel_rfl) rfl
  (fun f fn hf hfn => by
   obtain rfl : f = 4 := Option.some.inj ((show Tryz.prog.funcNamed "loop.example/satchel/laws.FnNotePut" = some 4 by kernel_rfl).symm.trans hf) |>.symm
   obtain rfl : fn = Tryz.f4 := (Option.some.inj (Tryz.func4.symm.trans hfn)).symm
   exact ⟨by kernel_rfl, fun j t ht => by
    rw [Tryz.params4] at ht
    have hm : t ∈ [41] := by simpa using Array.mem_of_getElem? ht
    have hall : ([41].all fun u => !Tryz.prog.wantsStandIn u) = true := by kernel_rfl
    exact (show Tryz.prog.wantsStandIn t = false by simpa using List.all_eq_true.1 hall t hm)⟩)
  (by kernel_rfl)
end Go.Proofs.YtbncnjgflhoneaaGreatDoor.Row4
namespace Go.Proofs.YtbncnjgflhoneaaGreatDoor
theorem fnNotePut_card : Rows.FnNotePutCardSaid := Row4.card_holds
end Go.Proofs.YtbncnjgflhoneaaGreatDoor
