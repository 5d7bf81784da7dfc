/- FnNoteGet: for every byte string the law returns true (what is read as a note, of a text that is drawn from the bytes, is written just so) and its argument reads as it did: the given row, and its tied card. Conditions: the listed tables and error values of the library of Go read, when the call begins, as the text of the program lays them (the cell laid of the row, tied by the card) -/
import Derived.ProofKit
import Derived.Carry
import Derived.Lay
import Derived.LaidMore
import Derived.Deep.DeepHandedRow
import Derived.Lib.LaidTab
import Derived.Lib.LaidU8
import Derived.Shelf.Vars
import Derived.SevenTiedAt
import Derived.ShutString
import Derived.OpenShut
import Derived.ChangeSlices
import Derived.Test.YtbncnjgflhoneaaGreatDoorN01
import Derived.Test.YtbncnjgflhoneaaGreatDoorN02
import Derived.Test.YtbncnjgflhoneaaGreatDoorN21
namespace Go.Proofs.YtbncnjgflhoneaaGreatDoor.e22
open Go.ChangeShapes Go.WideShapes Go.ChangeAt Go.RowKit Go.Proofs.YtbncnjgflhoneaaGreatDoor.F Go.Proofs.YtbncnjgflhoneaaGreatDoor.Hand Go.Proofs.YtbncnjgflhoneaaGreatDoorW.l8
open Go.ChangeMaps (open_string shut_string)
theorem lies : laidOutB Tryz.prog = true := by kernel_rfl
theorem own : ownKnob Tryz.prog.godebug = none := by kernel_rfl
theorem cy8 : Tryz.prog.underlying 172 = some (.array 20 146) := by kernel_rfl
theorem bX6 {P : Program} {W : World} {name : String} {x : DataW Unit} {t fuel : Nat} {fs : Array (String × TypeId)} (hu : P.underlying t = some (.interface fs)) : ∀ (l : List Value) (p : List MemPlace), DataW.trod (fun _ => ()) P W 0 (fun _ => true) false fuel t l = some (.iface name x, p) → ∃ u v, l = [.iface u v] := by
 intro l p hd
 cases fuel with
 | zero => simp [DataW.trod] at hd
 | succ fuel =>
  match l with
  | [] => simp [DataW.trod, hu] at hd
  | [c] => cases c <;> first | exact ⟨_, _, rfl⟩ | simp [DataW.trod, hu] at hd
  | c :: c' :: r => simp [DataW.trod, hu] at hd
theorem bv6 {W : World} {n : String} {name : String} {x : DataW Unit} {g t : Nat} (h : Lib.VarReads Tryz.prog W n (.iface name x)) (hg : Tryz.prog.globalNamed n = some g) (ht : (Tryz.prog.globals[g]?).map (·.type) = some t) {fs : Array (String × TypeId)} (hu : Tryz.prog.underlying t = some (.interface fs)) :
  ∃ ev, W.cell? ⟨g, 0, none⟩ = some ev ∧ (ev = .nilIface ∨ ∃ te pe, ev = .iface te pe) := by
 obtain ⟨g', t', cs, fuel, p, hg', ht', hv, hd⟩ := h
 obtain rfl := Option.some.inj (hg.symm.trans hg')
 obtain rfl := Option.some.inj (ht.symm.trans ht')
 have hcell := World.var?_cell hg hv 0
 obtain ⟨u, v, hl⟩ := bX6 hu cs.toList p hd
 obtain ⟨l⟩ := cs
 have hl : l = [.iface u v] := hl
 subst hl
 exact ⟨.iface u v, hcell, .inr ⟨u, v, rfl⟩⟩
theorem dc0 {W : World} (h : laidMetH Tryz.prog Rows.fnNoteGetRow.laid W) (hs : W.ShapedOpen Tryz.prog) : Laid W := by
 rw [MakeChecks.laidMetH_plain _ _ _ (by kernel_rfl)] at h
 refine ⟨Go.Proofs.cell_of_shapedOpen_int (zero := #[.int .i64 0]) (t := 3) hs (of_decide_eq_true (by kernel_rfl)) (by kernel_rfl) rfl (by kernel_rfl) (by kernel_rfl) Tryz.underlying3, ?_, ?_, ?_⟩
 ·obtain ⟨g, t, cs, fuel, p, hg, ht, hv, hd⟩ := Lib.laidMet.reads h (n := "internal/strconv.uint64pow10") (d := Rows.laid_internal_strconv_uint64pow10) (.tail _ (.tail _ (.head _)))
  have hg1 : Tryz.prog.globalNamed "internal/strconv.uint64pow10" = some 1 := by kernel_rfl
  obtain rfl := Option.some.inj (hg1.symm.trans hg)
  have ht1 : (Tryz.prog.globals[1]?).map (·.type) = some 172 := by kernel_rfl
  obtain rfl := Option.some.inj (ht1.symm.trans ht)
  have hz : (Rows.laid_internal_strconv_uint64pow10 : DataW Unit) = Lib.tabData .u64 Lib.pow10Tab := by rfl
  rw [hz] at hd
  unfold Lib.TabIs
  rw [hv, ← Lib.cells_of_tab cy8 (by kernel_rfl : Tryz.prog.underlying 146 = some (.int .u64)) (by kernel_rfl) (by kernel_rfl) hd]
 ·exact bv6 (t := 96) (Lib.laidMet.reads h (n := "strconv.ErrSyntax") (d := Rows.laid_strconv_ErrSyntax) (.tail _ (.tail _ (.tail _ (.tail _ (.tail _ (.head _))))))) (by kernel_rfl) (by kernel_rfl) Tryz.underlying96
 ·exact bv6 (t := 96) (Lib.laidMet.reads h (n := "strconv.ErrRange") (d := Rows.laid_strconv_ErrRange) (.tail _ (.tail _ (.tail _ (.tail _ (.head _)))))) (by kernel_rfl) (by kernel_rfl) Tryz.underlying96
set_option maxRecDepth 100000 in
theorem lifted (os : Os) (started : os.Started) (H : Type) (enc : TypeId × Value → H) (F : Stop.Interp) :
  ReturnsInHanded {} Tryz.checked os 6 .any ((OpenSpec.ofChange Rows.fnNoteGetSpec).preRow enc Tryz.prog Tryz.f6 Rows.fnNoteGetRow.domain false Rows.fnNoteGetRow.laid) (((OpenSpec.ofChange Rows.fnNoteGetSpec).at F).post enc Tryz.prog Tryz.f6 false true false false) := by
 refine returnsInHanded_of_row (C := Tryz.checked) (s := OpenSpec.ofChange Rows.fnNoteGetSpec) own started (by kernel_rfl) Tryz.func6
  (ChangeSpec.witness_shaped (enc := enc) (C := Tryz.checked) (os := os) (s := Rows.fnNoteGetSpec) (X := fun w _ => laidMetH Tryz.prog Rows.fnNoteGetRow.laid w) false (World.laidAll Tryz.prog os Rows.fnNoteGetRow.laid)
   #[.slice none 0 0] 8 (World.laidAll_os _ _ _)
   (World.shaped_of_ZipB (by kernel_rfl) (by kernel_rfl)) (by kernel_rfl) (by kernel_rfl) (by kernel_rfl)
   (by rw [MakeChecks.laidMetH_plain _ _ _ (by kernel_rfl)]; exact laidMet_laidAll _ (by kernel_rfl) (by kernel_rfl))) ?_
 intro W base args ds gs before do3 hW _ _ eL7 hL hS _
 have hval : ∀ (j : Nat) t v, Tryz.f6.params[j]? = some t → args[j]? = some v → Value.okWide Tryz.prog W .any base t v := do3
 have hW' := hW
 obtain ⟨p, q, hA0, hV0, rfl, _, _⟩ := hW
 have hA : DataW.TrodAll enc Tryz.prog W 0 (fun _ => true) true Tryz.f6.params.toList args.toList ds p := hA0
 rw [Tryz.params6] at hA hval
 obtain ⟨v0, d0, rfl, rfl, h0⟩ := trodAll_one hA
 obtain ⟨rfl, rfl⟩ := trodVars_none hV0
 obtain ⟨a0, e23, dc1, rfl⟩ := okWide_slice Tryz.underlying41 (hval 0 41 v0 rfl rfl)
 simp only [List.append_nil] at hW'
 have hlt : ∀ x ∈ p, x.block < W.heap.size := fun x hx => by simpa using hW'.lt x hx
 obtain ⟨z0, w0⟩ : ∃ zs : List Int, (a0 = none ∧ e23 = 0 ∧ dc1 = 0 ∧ zs = []) ∨ ∃ x, a0 = some x ∧ e23 ≤ dc1 ∧ dc1 ≤ maxLen ∧ zs.length = dc1 ∧ (∀ i, i < zs.length → W.cell? (x.add i) = some (.int .u8 (zs.getD i 0))) ∧ ∀ n ∈ zs, (Lit.int .u8 n).wf = true := by
  obtain ⟨fuel, hf⟩ := h0
  rcases open_ints Tryz.underlying41 Tryz.underlying5 (by kernel_rfl) hf with ⟨hcs, _⟩ | ⟨x, l, c, zs, hcs, _, hl, hm, hz, _, hcell, hwz⟩
  ·simp [Value.cells] at hcs
   obtain ⟨rfl, rfl, rfl⟩ := hcs
   exact ⟨[], .inl ⟨rfl, rfl, rfl, rfl⟩⟩
  ·simp [Value.cells] at hcs
   obtain ⟨rfl, rfl, rfl⟩ := hcs
   exact ⟨zs, .inr ⟨_, rfl, hl, hm, by simpa using hz, hcell, hwz⟩⟩
 clear hA0 hV0 do3
 obtain ⟨l0, rfl, hr0, hm0, hw0, hc0⟩ := aw3.dp0 w0
 obtain ⟨k, hk⟩ := (db9 l0 (fun x hx => by have := hw0 x hx; simp [Lit.wf, IntKind.min, IntKind.max, IntKind.bits, IntKind.signed] at this; omega)).rounds
 refine (S9.calls k _ _ l0 true W (dc0 hL hS) (Kd.bm7 (d := (0 : Int)) (h1 := fun _ => rfl) hr0) hc0 hk).mono fun e W' ⟨he, bel⟩ => ?_
 subst he
 exact ⟨_, rfl, _, _, _, [], p, [], hW', trodAll_mk1 (shut_bool Tryz.underlying4 _), trodAll_mk1 (Below.trod lies (by kernel_rfl) (of_decide_eq_true (by kernel_rfl)) h0 bel hlt), rfl, bel.frame _, fun h => by cases h⟩
theorem cy9 : Rows.FnNoteGetSaid :=
 OpenClaim.holds_of_cond 6 Tryz.f6 rfl rfl rfl rfl rfl rfl rfl ⟨rfl, rfl, rfl, rfl, rfl⟩ rfl rfl rfl rfl rfl (by kernel_rfl) Tryz.func6 (by kernel_rfl)
  (of_decide_eq_true (by kernel_rfl)) (by unfold Func.isWrapper; rw [if_neg (of_decide_eq_false (by kernel_rfl))]; exact ⟨rfl, rfl⟩)
  (fun os started H enc _ F => by rw [OpenClaim.pre_eq_preRow]; exact lifted os started H enc F)
theorem ca9 : Rows.FnNoteGetCardSaid :=
 Claim7.holds_tied_plain_at .later [] [.data, .data, .data, .data, .sentinel, .sentinel, .pinned] true (true, "7a9d3659d3f520a9de6c05b6af5fcd28b7dff4b50647289148529cd8e18a8a3a") true
  cy9 (fun _ h => by cases h) (by kernel_rfl) (fun _ h => by cases h) fnNoteGet_row_tie rfl ⟨rfl, rfl⟩ (by kernel_rfl) rfl
  (fun f fn hf hfn => by
   obtain rfl : f = 6 := Option.some.inj ((show Tryz.prog.funcNamed "loop.example/satchel/laws.FnNoteGet" = some 6 by kernel_rfl).symm.trans hf) |>.symm
   obtain rfl : fn = Tryz.f6 := (Option.some.inj (Tryz.func6.symm.trans hfn)).symm
   exact ⟨by kernel_rfl, fun j t ht => by
    rw [Tryz.params6] at ht
    have hm : t ∈ [41] := by simpa using Array.mem_of_getElem? ht
    have hall : ([41].all fun u => !Tryz.prog.wantsStandIn u) = true := by kernel_rfl
    exact (show Tryz.prog.wantsStandIn t = false by simpa using List.all_eq_true.1 hall t hm)⟩)
  (by kernel_rfl)
end Go.Proofs.YtbncnjgflhoneaaGreatDoor.e22
namespace Go.Proofs.YtbncnjgflhoneaaGreatDoor
theorem fnNoteGet_card : Rows.FnNoteGetCardSaid := e22.ca9
end Go.Proofs.YtbncnjgflhoneaaGreatDoor
