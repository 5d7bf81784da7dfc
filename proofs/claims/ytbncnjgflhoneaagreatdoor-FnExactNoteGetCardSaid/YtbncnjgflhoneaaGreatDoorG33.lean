/- The program's NoteGet returns, for every text, what the reference's NoteGet returns, in every field, and what it returns shares no memory with what another call returned: the tied card of FnExactNoteGet. Conditions: the listed tables of Go's library read, when the call begins, as the program's own text lays them (the row's cell 'laid', tied by the card). -/
import Derived.ProofKit
import Derived.Carry
import Derived.Lay
import Derived.LaidMore
import Derived.Deep.DeepHandedRow
import Derived.Lib.LaidTab
import Derived.Lib.LaidU8
import Derived.Shelf.Vars
import Derived.SevenTiedAt
import Derived.ShutString
import Derived.Test.YtbncnjgflhoneaaGreatDoorG02
import Derived.Test.YtbncnjgflhoneaaGreatDoorG32
namespace Go.Proofs.YtbncnjgflhoneaaGreatDoor.GetRow
open Go.ChangeShapes Go.WideShapes Go.ChangeAt Go.RowKit Go.Proofs.YtbncnjgflhoneaaGreatDoor.F Go.Proofs.YtbncnjgflhoneaaGreatDoor.Hand Go.Proofs.YtbncnjgflhoneaaGreatDoorW.PrintWords
open Go.ChangeMaps (open_string shut_string)
theorem own : ownKnob Tryz.prog.godebug = none := by kernel_rfl
theorem under_tab : Tryz.prog.underlying 172 = some (.array 20 146) := by kernel_rfl
theorem iface_cells {P : Program} {W : World} {name : String} {x : DataW Unit} {t fuel : Nat} {fs : Array (String × TypeId)} (hu : P.underlying t = some (.interface fs)) : ∀ (l : List Value) (p : List MemPlace), DataW.trod (fun _ => ()) P W 0 (fun _ => true) false fuel t l = some (.iface name x, p) → ∃ u v, l = [.iface u v] := by
  intro l p hd
  cases fuel with
  | zero => simp [DataW.trod] at hd
  | succ fuel =>
    match l with
    | [] => simp [DataW.trod, hu] at hd
    | [c] => cases c <;> first | exact ⟨_, _, rfl⟩ | simp [DataW.trod, hu] at hd
    | c :: c' :: r => simp [DataW.trod, hu] at hd
theorem error_cell {W : World} {n : String} {name : String} {x : DataW Unit} {g t : Nat} (h : Lib.VarReads Tryz.prog W n (.iface name x)) (hg : Tryz.prog.globalNamed n = some g) (ht : (Tryz.prog.globals[g]?).map (·.type) = some t) {fs : Array (String × TypeId)} (hu : Tryz.prog.underlying t = some (.interface fs)) :
    ∃ ev, W.cell? ⟨g, 0, none⟩ = some ev ∧ (ev = .nilIface ∨ ∃ te pe, ev = .iface te pe) := by
  obtain ⟨g', t', cs, fuel, p, hg', ht', hv, hd⟩ := h
  obtain rfl := Option.some.inj (hg.symm.trans hg')
  obtain rfl := Option.some.inj (ht.symm.trans ht')
  have hcell := World.var?_cell hg hv 0
  obtain ⟨u, v, hl⟩ := iface_cells hu cs.toList p hd
  obtain ⟨l⟩ := cs
  have hl : l = [.iface u v] := hl
  subst hl
  exact ⟨.iface u v, hcell, .inr ⟨u, v, rfl⟩⟩
theorem laid_of {W : World} (h : laidMetH Tryz.prog Rows.fnExactNoteGetRow.laid W) (hs : W.ShapedOpen Tryz.prog) : Laid W := by
  rw [MakeChecks.laidMetH_plain _ _ _ (by kernel_rfl)] at h
  refine ⟨Go.Proofs.cell_of_shapedOpen_int (zero := #[.int .i64 0]) (t := 3) hs (of_decide_eq_true (by kernel_rfl)) (by kernel_rfl) rfl (by kernel_rfl) (by kernel_rfl) Tryz.underlying3, ?_, ?_, ?_⟩
  · obtain ⟨g, t, cs, fuel, p, hg, ht, hv, hd⟩ := Lib.laidMet.reads h (n := "internal/strconv.uint64pow10") (d := Rows.laid_internal_strconv_uint64pow10) (.tail _ (.tail _ (.head _)))
    have hg1 : Tryz.prog.globalNamed "internal/strconv.uint64pow10" = some 1 := by kernel_rfl
    obtain rfl := Option.some.inj (hg1.symm.trans hg)
    have ht1 : (Tryz.prog.globals[1]?).map (·.type) = some 172 := by kernel_rfl
    obtain rfl := Option.some.inj (ht1.symm.trans ht)
    have hz : (Rows.laid_internal_strconv_uint64pow10 : DataW Unit) = Lib.tabData .u64 Lib.pow10Tab := by rfl
    rw [hz] at hd
    unfold Lib.TabIs
    rw [hv, ← Lib.cells_of_tab under_tab (by kernel_rfl : Tryz.prog.underlying 146 = some (.int .u64)) (by kernel_rfl) (by kernel_rfl) hd]
  · exact error_cell (t := 96) (Lib.laidMet.reads h (n := "strconv.ErrSyntax") (d := Rows.laid_strconv_ErrSyntax) (.tail _ (.tail _ (.tail _ (.tail _ (.tail _ (.head _))))))) (by kernel_rfl) (by kernel_rfl) Tryz.underlying96
  · exact error_cell (t := 96) (Lib.laidMet.reads h (n := "strconv.ErrRange") (d := Rows.laid_strconv_ErrRange) (.tail _ (.tail _ (.tail _ (.tail _ (.head _)))))) (by kernel_rfl) (by kernel_rfl) Tryz.underlying96
set_option maxRecDepth 100000 in
theorem lifted (os : Os) (started : os.Started) (H : Type) (enc : TypeId × Value → H) (F : Stop.Interp) :
    ReturnsInHanded {} Tryz.checked os 5 .any ((OpenSpec.ofChange Rows.fnExactNoteGetSpec).preRow enc Tryz.prog Tryz.f5 Rows.fnExactNoteGetRow.domain false Rows.fnExactNoteGetRow.laid) (((OpenSpec.ofChange Rows.fnExactNoteGetSpec).at F).post enc Tryz.prog Tryz.f5 false true false false) := by
  refine returnsInHanded_of_row (C := Tryz.checked) (s := OpenSpec.ofChange Rows.fnExactNoteGetSpec) own started (by kernel_rfl) Tryz.func5
    (ChangeSpec.witness_shaped (enc := enc) (C := Tryz.checked) (os := os) (s := Rows.fnExactNoteGetSpec) (X := fun w _ => laidMetH Tryz.prog Rows.fnExactNoteGetRow.laid w) false (World.laidAll Tryz.prog os Rows.fnExactNoteGetRow.laid)
      #[.string ⟨#[]⟩] 8 (World.laidAll_os _ _ _)
      (World.shaped_of_ZipB (by kernel_rfl) (by kernel_rfl)) (by kernel_rfl) (by kernel_rfl) (by kernel_rfl)
      (by rw [MakeChecks.laidMetH_plain _ _ _ (by kernel_rfl)]; exact laidMet_laidAll _ (by kernel_rfl) (by kernel_rfl))) ?_
  intro W base args ds gs before hval0 hW _ _ _ hL hS _
  have hval : ∀ (j : Nat) t v, Tryz.f5.params[j]? = some t → args[j]? = some v → Value.okWide Tryz.prog W .any base t v := hval0
  have hW' := hW
  obtain ⟨p, q, hA0, hV0, rfl, _, _⟩ := hW
  have hA : DataW.TrodAll enc Tryz.prog W 0 (fun _ => true) true Tryz.f5.params.toList args.toList ds p := hA0
  rw [Tryz.params5] at hA hval
  obtain ⟨v0, d0, rfl, rfl, h0⟩ := trodAll_one hA
  obtain ⟨rfl, rfl⟩ := trodVars_none hV0
  obtain ⟨a0, rfl, rfl, rfl, y0⟩ := open_string Tryz.underlying9 (hval 0 9 v0 rfl rfl) h0
  clear hA0 hV0 hval0
  simp only [List.append_nil] at hW'
  obtain ⟨k, hk⟩ := (get_true a0).rounds
  refine (laws_FnExactNoteGet.calls k a0 true W (laid_of hL hS) hk).mono fun e W' ⟨he, bel⟩ => ?_
  subst he
  exact ⟨_, rfl, _, _, _, [], [], [], hW', trodAll_mk1 (shut_bool Tryz.underlying4 _), trodAll_mk1 (shut_string Tryz.underlying9 y0), rfl, bel.frame _, fun h => by cases h⟩
theorem row_holds : Rows.FnExactNoteGetSaid :=
  OpenClaim.holds_of_cond 5 Tryz.f5 rfl rfl rfl rfl rfl rfl rfl ⟨rfl, rfl, rfl, rfl, rfl⟩ rfl rfl rfl rfl rfl (by kernel_rfl) Tryz.func5 (by kernel_rfl)
    (of_decide_eq_true (by kernel_rfl)) (by unfold Func.isWrapper; rw [if_neg (of_decide_eq_false (by kernel_rfl))]; exact ⟨rfl, rfl⟩)
    (fun os started H enc _ F => by rw [OpenClaim.pre_eq_preRow]; exact lifted os started H enc F)
theorem card_holds : Rows.FnExactNoteGetCardSaid :=
  Claim7.holds_tied_plain_at .later [] [.data, .data, .data, .data, .sentinel, .sentinel, .pinned] true (true, "7a9d3659d3f520a9de6c05b6af5fcd28b7dff4b50647289148529cd8e18a8a3a") true
    row_holds (fun _ h => by cases h) (by kernel_rfl) (fun _ h => by cases h) fnExactNoteGet_row_tie rfl ⟨rfl, rfl⟩ (by kernel_rfl) rfl
    (fun f fn hf hfn => by
      obtain rfl : f = 5 := Option.some.inj ((show Tryz.prog.funcNamed "loop.example/satchel/laws.FnExactNoteGet" = some 5 by kernel_rfl).symm.trans hf) |>.symm
      obtain rfl : fn = Tryz.f5 := (Option.some.inj (Tryz.func5.symm.trans hfn)).symm
      exact ⟨by kernel_rfl, fun j t ht => by
        rw [Tryz.params5] at ht
        have hm : t ∈ [9] := by simpa using Array.mem_of_getElem? ht
        have hall : ([9].all fun u => !Tryz.prog.wantsStandIn u) = true := by kernel_rfl
        exact (show Tryz.prog.wantsStandIn t = false by simpa using List.all_eq_true.1 hall t hm)⟩)
    (by kernel_rfl)
end Go.Proofs.YtbncnjgflhoneaaGreatDoor.GetRow
namespace Go.Proofs.YtbncnjgflhoneaaGreatDoor
theorem fnExactNoteGet_card : Rows.FnExactNoteGetCardSaid := GetRow.card_holds
end Go.Proofs.YtbncnjgflhoneaaGreatDoor
