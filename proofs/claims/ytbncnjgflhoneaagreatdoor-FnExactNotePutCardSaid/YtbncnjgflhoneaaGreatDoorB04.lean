/- Of this claim, merged by program: F72, HMail, F57, F101, F134, F100, F55. -/
import Derived.Test.YtbncnjgflhoneaaGreatDoorB02
import Derived.Test.YtbncnjgflhoneaaGreatDoorB03
namespace Go.Proofs.YtbncnjgflhoneaaGreatDoor.F
open Go.RowKit Go.Proofs.YtbncnjgflhoneaaGreatDoor.Hand Go.Proofs.YtbncnjgflhoneaaGreatDoorW.PrintWords Go.Proofs.YtbncnjgflhoneaaGreatDoorW.PrintLast Go.Proofs.YtbncnjgflhoneaaGreatDoorW.PrintMore
attribute [local go_sem] max2_int min2_int max_two min_two max_three min_three max_four min_four   -- for this text's walks alone
set_option linter.unusedVariables false
set_option linter.unusedSimpArgs false
def impl_Addr_sender.f (k : Nat) (a0_0 : ByteArray) (a0_1 : ByteArray) : Option (Bool) := (impl_Addr_null.f a0_0 a0_1).bind fun t102 => (if t102 = true then (some true) else ((impl_AddrOk.f k a0_0 a0_1).bind fun t103 => (some t103)))
theorem impl_Addr_sender.mono : ∀ a0 a1 k, LeO (impl_Addr_sender.f k a0 a1) (impl_Addr_sender.f (k + 1) a0 a1) := by
  intro a0 a1 k
  unfold impl_Addr_sender.f
  repeat' first
      | (with_reducible exact impl_AddrOk.mono _ _ _)
      | (with_reducible exact LeO.refl _)
      | (with_reducible exact LeO.none _)
      | (with_reducible refine LeO.ite ?_ ?_)
      | (with_reducible refine LeO.bind ?_ (fun _ => ?_))
      | exact impl_AddrOk.mono _ _ _
      | exact LeO.none _
      | refine LeO.ite ?_ ?_
      | refine LeO.bind ?_ (fun _ => ?_)
set_option maxHeartbeats 8000000 in
set_option maxRecDepth 100000 in
theorem impl_Addr_sender.calls (k : Nat) (a0_0 : ByteArray) (a0_1 : ByteArray) (r : Bool) (w : World) (hG : Laid w) (h : impl_Addr_sender.f k a0_0 a0_1 = some r) :
    Calls Tryz.prog 72 #[.agg #[.string a0_0, .string a0_1]] w fun e w' => e = .returned (.bool r) ∧ Below w.heap.size w w' := by
  have hu32 := Tryz.underlying32
  have HG := Aside0.mk hG
  clear hG
  have HB := Aside0.mk (Below.refl w.heap.size w)
  have H : ((impl_Addr_null.f a0_0 a0_1).bind fun t102 => (if t102 = true then (some true) else ((impl_AddrOk.f k a0_0 a0_1).bind fun t103 => (some t103)))) = some r := h
  clear h
  replace H := Option.bind_eq_some_iff.mp H
  obtain ⟨t102, A20, H⟩ := H
  replace H : (if t102 = true then (some true) else ((impl_AddrOk.f k a0_0 a0_1).bind fun t103 => (some t103))) = some r := H
  have A2 := Aside0.mk A20
  clear A20
  by_cases c3 : t102 = true
  · subst c3
    have H1 : (some true) = some r := by rw [if_pos rfl] at H; exact H
    clear H
    have H := H1
    clear H1
    obtain rfl := Option.some.inj H
    go_enter Tryz.func72, Tryz.ntmps72
    go_wp2_with (first | ((with_reducible refine gate_dst (N := 1) rfl ?_); refine box_event ?hg (N := 1) ?hd (cs := #[.string a0_0, .string a0_1]) (t := 32) ?hr ?_; (case hd => rfl); (case hg => rfl); (case hr => first | (go_simp; done) | (go_simp; rfl)); intro gb101 hg w4 hbox hb; have n0_ := Aside0.mk (below_step z1_ hb); have n1_ := Aside0.mk (hbox); have n2_ := Aside0.mk ((by rw [hg]; exact (below_size z1_) : w.heap.size ≤ gb101)); have n3_ := Aside0.mk ((by rw [hg]; exact (below_size z1_) : w.heap.size ≤ gb101)); clear HB; have HB := n0_; have BK101 := n1_; have GW101 := n2_; have GE101 := n3_; clear n0_ n1_ n2_ n3_; clear hb hbox hg; have hcz5_0 : w4.cell? ⟨gb101, 0, none⟩ = some (.string a0_0) := (blk_cell BK101.out 0).trans rfl; have hcz5_1 : w4.cell? ⟨gb101, 1, none⟩ = some (.string a0_1) := (blk_cell BK101.out 1).trans rfl; have hfz5_0 := blk_frozen BK101.out 0; have hfz5_1 := blk_frozen BK101.out 1) | ((with_reducible refine gate_callee (f := 38) rfl ?_); refine goesL_ (some 4) rfl rfl Tryz.func38 z12_ rfl #[.agg #[.string a0_0, .string a0_1]] rfl z3_ ?_; (with_reducible refine (impl_Addr_null.calls a0_0 a0_1 true _ A2.out).mono ?_); rintro e w6 ⟨rfl, hb⟩; refine ⟨_, rfl, ?_⟩; have n0_ := Aside0.mk (blk_below (g := gb101) (o := .cells #[.string a0_0, .string a0_1] 32 (0, 0)) z2_ hb); have n1_ := Aside0.mk (below_step z0_ hb); clear BK101; clear HB; have BK101 := n0_; have HB := n1_; clear n0_ n1_; (try clear hb); (try clear hb2); (try clear hk); (try clear hi)))
    go_ret
    exact ⟨z4_, z0_⟩
  · replace c3 := Bool.eq_false_iff.mpr c3
    subst c3
    have H1 : ((impl_AddrOk.f k a0_0 a0_1).bind fun t103 => (some t103)) = some r := by rw [if_neg (show ¬ (false = true) by decide)] at H; exact H
    clear H
    have H := H1
    clear H1
    replace H := Option.bind_eq_some_iff.mp H
    obtain ⟨t103, A70, H⟩ := H
    replace H : (some t103) = some r := H
    have A7 := Aside0.mk A70
    clear A70
    obtain rfl := Option.some.inj H
    go_enter Tryz.func72, Tryz.ntmps72
    go_wp2_with (first | ((with_reducible refine gate_dst (N := 1) rfl ?_); refine box_event ?hg (N := 1) ?hd (cs := #[.string a0_0, .string a0_1]) (t := 32) ?hr ?_; (case hd => rfl); (case hg => rfl); (case hr => first | (go_simp; done) | (go_simp; rfl)); intro gb101 hg w8 hbox hb; have n0_ := Aside0.mk (below_step z1_ hb); have n1_ := Aside0.mk (hbox); have n2_ := Aside0.mk ((by rw [hg]; exact (below_size z1_) : w.heap.size ≤ gb101)); have n3_ := Aside0.mk ((by rw [hg]; exact (below_size z1_) : w.heap.size ≤ gb101)); clear HB; have HB := n0_; have BK101 := n1_; have GW101 := n2_; have GE101 := n3_; clear n0_ n1_ n2_ n3_; clear hb hbox hg; have hcz9_0 : w8.cell? ⟨gb101, 0, none⟩ = some (.string a0_0) := (blk_cell BK101.out 0).trans rfl; have hcz9_1 : w8.cell? ⟨gb101, 1, none⟩ = some (.string a0_1) := (blk_cell BK101.out 1).trans rfl; have hfz9_0 := blk_frozen BK101.out 0; have hfz9_1 := blk_frozen BK101.out 1) | ((with_reducible refine gate_callee (f := 38) rfl ?_); refine goesL_ (some 4) rfl rfl Tryz.func38 z12_ rfl #[.agg #[.string a0_0, .string a0_1]] rfl z3_ ?_; (with_reducible refine (impl_Addr_null.calls a0_0 a0_1 false _ A2.out).mono ?_); rintro e w10 ⟨rfl, hb⟩; refine ⟨_, rfl, ?_⟩; have n0_ := Aside0.mk (blk_below (g := gb101) (o := .cells #[.string a0_0, .string a0_1] 32 (0, 0)) z2_ hb); have n1_ := Aside0.mk (below_step z0_ hb); clear BK101; clear HB; have BK101 := n0_; have HB := n1_; clear n0_ n1_; (try clear hb); (try clear hb2); (try clear hk); (try clear hi); have hcz11_0 : w10.cell? ⟨gb101, 0, none⟩ = some (.string a0_0) := (blk_cell BK101.out 0).trans rfl; have hcz11_1 : w10.cell? ⟨gb101, 1, none⟩ = some (.string a0_1) := (blk_cell BK101.out 1).trans rfl; have hfz11_0 := blk_frozen BK101.out 0; have hfz11_1 := blk_frozen BK101.out 1) | (go_at_call 34; (with_reducible refine (impl_AddrOk.calls k a0_0 a0_1 t103 _ ?side1 A7.out).mono ?_); (case side1 => exact Laid.below HG.out z0_); rintro e w12 ⟨rfl, hb⟩; have n0_ := Aside0.mk (blk_below (g := gb101) (o := .cells #[.string a0_0, .string a0_1] 32 (0, 0)) z2_ hb); have n1_ := Aside0.mk (below_step z0_ hb); clear BK101; clear HB; have BK101 := n0_; have HB := n1_; clear n0_ n1_; (try clear hb); (try clear hb2); (try clear hk); (try clear hi)))
    go_ret
    exact ⟨z4_, z0_⟩
end Go.Proofs.YtbncnjgflhoneaaGreatDoor.F
namespace Go.Proofs.YtbncnjgflhoneaaGreatDoor.Hand
open Go.RowKit Go.Proofs.YtbncnjgflhoneaaGreatDoor.F Go.Proofs.YtbncnjgflhoneaaGreatDoorW.PrintWords Go.Proofs.YtbncnjgflhoneaaGreatDoorW.PrintLast Go.Proofs.YtbncnjgflhoneaaGreatDoorW.PrintMore
def labelsOf (d : ByteArray) : List ByteArray := Lib.splitB ⟨#[46]⟩ 0 (Lib.countB d ⟨#[46]⟩) d
def domainB (d : ByteArray) : Bool := (labelsOf d).all labelB && decide ((labelsOf d).length ≤ 3)
def addrB (u d : ByteArray) : Bool := labelB u && domainB d
def nullB (u d : ByteArray) : Bool := u.toList == [] && d.toList == []
def mailB (u d : ByteArray) (ts : List S32) (body : List ByteArray) : Bool := (nullB u d || addrB u d) && decide (1 ≤ ts.length ∧ ts.length ≤ 4) && ts.all (fun a => addrB a.f0 a.f1) && apartB ts && bodyB body
def impl_MailOk.f (u d : ByteArray) (ts : List S32) (body : List ByteArray) : Option Bool := if (tinyB u && tinyB d && ts.all (fun a => tinyB a.f0 && tinyB a.f1) && body.all tinyB) = true then some (mailB u d ts body) else none
theorem labels_length (d : ByteArray) : (labelsOf d).length ≤ d.size + 1 := by
  unfold labelsOf
  rw [Lib.splitB_all ⟨#[46]⟩ (by decide) 0 _ d rfl]
  have := Lib.countB_le ⟨#[46]⟩ (by decide) _ d (Nat.le_refl _)
  omega
theorem domain_from (L : List ByteArray) (hL : L.length ≤ 1099511627776) : ∀ (e i k : Nat), L.length = i + e → e < k → impl_DomainOk.l0 k L L (L.length : Int) (i : Int) = some ((L.drop i).all labelB && decide (L.length ≤ 3)) := by
  intro e
  induction e with
  | zero =>
    intro i k hi hk
    obtain ⟨k, rfl⟩ : ∃ m, k = m + 1 := ⟨k - 1, by omega⟩
    rw [impl_DomainOk.l0, if_neg (by omega), List.drop_eq_nil_of_le (by omega), List.all_nil, Bool.true_and]
    exact congrArg some (decide_eq_decide.2 (by omega))
  | succ e ih =>
    intro i k hi hk
    obtain ⟨k, rfl⟩ : ∃ m, k = m + 1 := ⟨k - 1, by omega⟩
    have hl : i < L.length := by omega
    rw [impl_DomainOk.l0, if_pos (by omega), if_pos (by omega), if_pos (by omega), rdOf_mem _ _ _ hl, List.drop_eq_getElem_cons hl, List.all_cons]
    unfold impl_isLabel.f
    rw [Option.bind_some]
    by_cases h : labelB L[i] = true
    · rw [if_pos h, h, wrapIn (by omega) (by omega), Bool.true_and]
      exact ih (i + 1) k (by omega) (by omega)
    · rw [if_neg h, Bool.eq_false_iff.2 h]
      rfl
theorem domain_tells (d : ByteArray) (hd : d.size ≤ 1073741824) (k : Nat) (hk : d.size + 2 ≤ k) : impl_DomainOk.f k d = some (domainB d) := by
  have hl := labels_length d
  unfold impl_DomainOk.f strings_Split.f
  rw [if_pos ⟨by omega, by decide⟩, Option.bind_some]
  exact domain_from (labelsOf d) (by omega) (labelsOf d).length 0 k (by omega) (by omega)
theorem addr_tells (u d : ByteArray) (hd : d.size ≤ 1073741824) (k : Nat) (hk : d.size + 2 ≤ k) : impl_AddrOk.f k u d = some (addrB u d) := by
  unfold impl_AddrOk.f impl_isLabel.f addrB
  rw [Option.bind_some]
  by_cases h : labelB u = true
  · rw [if_pos h, h, domain_tells d hd k hk]
    rfl
  · rw [if_neg h, Bool.eq_false_iff.2 h]
    rfl
theorem sender_tells (u d : ByteArray) (hd : d.size ≤ 1073741824) (k : Nat) (hk : d.size + 2 ≤ k) : impl_Addr_sender.f k u d = some (nullB u d || addrB u d) := by
  unfold impl_Addr_sender.f impl_Addr_null.f
  rw [Option.bind_some]
  show (if nullB u d = true then _ else _) = _
  by_cases h : nullB u d = true
  · rw [if_pos h, h]
    rfl
  · rw [if_neg h, Bool.eq_false_iff.2 h, addr_tells u d hd k hk]
    rfl
theorem bad_tells (u d : ByteArray) (hd : d.size ≤ 1073741824) (k : Nat) (hk : d.size + 2 ≤ k) : impl_MailOk_1.f k u d = some (!addrB u d) := by
  unfold impl_MailOk_1.f
  rw [addr_tells u d hd k hk]
  rfl
def goodB (a : S32) : Bool := addrB a.f0 a.f1
set_option maxHeartbeats 1000000 in
set_option maxRecDepth 100000 in
theorem index_addr (A0 : Option Addr) (c0 : Nat) (l0 : List S32) (w : World) (hG : Laid w) (hr0 : Kd.C k32 w A0 l0.length l0) (hs : ∀ a ∈ l0, Tiny a) :
    Calls Tryz.prog 112 #[.slice A0 l0.length c0, .func (Fn.func 71) #[] #[]] w fun e w' => ∃ v : Int, e = .returned (.int .i64 v) ∧ (decide (0 ≤ v) = !l0.all goodB) ∧ Below w.heap.size w w' := by
  have hm := hr0.2.1
  have HR0 := Aside0.mk hr0
  have HS := Aside0.mk hs
  have HG := Aside0.mk hG
  clear hr0 hs hG
  go_enter Tryz.func112, Tryz.ntmps112
  go_wp2
  go_loopw [8] (fun i wr => ∃ k : Nat, k ≤ l0.length ∧ i = .int .i64 k ∧ Aside0 ((l0.take k).all goodB = true) ∧ Aside0 (Below w.heap.size w wr)) (fun i _ => l0.length - (intOf i).toNat)
  case atStart => exact ⟨0, by omega, rfl, ⟨by simp⟩, ⟨Below.refl _ _⟩⟩
  case round =>
    obtain ⟨k, hk, rfl, HA, HB⟩ := hrel
    by_cases hlt : k < l0.length
    · obtain ⟨ad, e, hx0, hx1⟩ := at_T32 HR0.out k (by omega) (by omega)
      cases e
      rw [rd_T32_mem _ _ hlt, Int.toNat_natCast] at hx0 hx1
      replace hx0 := (HB.out.cell (World.block_lt_of_cell? w _ hx0)).trans hx0
      replace hx1 := (HB.out.cell (World.block_lt_of_cell? w _ hx1)).trans hx1
      have hu32 := Tryz.underlying32
      have hz := HS.out _ (List.getElem_mem hlt)
      have ht : l0.take (k + 1) = l0.take k ++ [l0[k]] := List.take_succ_eq_append_getElem hlt
      have hmem := List.getElem_mem hlt
      have HL := Aside0.mk (bad_tells l0[k].f0 l0[k].f1 hz.2 _ (Nat.le_refl _))
      by_cases hb : goodB l0[k] = true
      · have hb' : addrB l0[k].f0 l0[k].f1 = true := hb
        rw [hb'] at HL
        have HN := Aside0.mk (show (l0.take (k + 1)).all goodB = true by rw [ht, List.all_append, HA.out]; simp [hb])
        clear ht hz hb hb'
        generalize l0[k] = a at *
        go_wp2_with (go_at_call 71; (with_reducible refine (impl_MailOk_1.calls _ _ _ (!true) _ (HG.out.below HB.out) HL.out).mono ?_); rintro e w1 ⟨rfl, hb⟩; have HB1 := Aside0.mk hb; clear hb)
        go_roundw
        case rel => exact ⟨k + 1, by omega, by go_num, HN, ⟨HB.out.trans (HB1.out.mono HB.out.size)⟩⟩
        case measure => simp [intOf]; omega
      · have hb := Bool.eq_false_iff.2 hb
        have hb' : addrB l0[k].f0 l0[k].f1 = false := hb
        rw [hb'] at HL
        have HN := Aside0.mk (show l0.all goodB = false by
          rw [Bool.eq_false_iff]
          intro h
          have := (List.all_eq_true.1 h) _ hmem
          rw [hb] at this
          cases this)
        clear ht hz hb hb' hmem
        generalize l0[k] = a at *
        go_wp2_with (go_at_call 71; (with_reducible refine (impl_MailOk_1.calls _ _ _ (!false) _ (HG.out.below HB.out) HL.out).mono ?_); rintro e w1 ⟨rfl, hb⟩; have HB1 := Aside0.mk hb; clear hb)
        go_ret
        exact ⟨_, rfl, by rw [HN.out]; simp, HB.out.trans (HB1.out.mono HB.out.size)⟩
    · obtain rfl : k = l0.length := by omega
      have HN := Aside0.mk (show l0.all goodB = true by have := HA.out; rwa [List.take_length] at this)
      clear hlt
      go_wp2
      go_ret
      exact ⟨_, rfl, by rw [HN.out]; rfl, HB.out⟩
set_option maxHeartbeats 1000000 in
set_option maxRecDepth 100000 in
theorem contains_addr (A0 : Option Addr) (c0 : Nat) (l0 : List S32) (w : World) (hG : Laid w) (hr0 : Kd.C k32 w A0 l0.length l0) (hs : ∀ a ∈ l0, Tiny a) :
    Calls Tryz.prog 73 #[.slice A0 l0.length c0, .func (Fn.func 71) #[] #[]] w fun e w' => e = .returned (.bool (!l0.all goodB)) ∧ Below w.heap.size w w' := by
  have HR0 := Aside0.mk hr0
  have HS := Aside0.mk hs
  have HG := Aside0.mk hG
  clear hr0 hs hG
  go_enter Tryz.func73, Tryz.ntmps73
  go_wp2_with (go_at_call 112; refine (index_addr A0 c0 l0 _ HG.out HR0.out HS.out).mono ?_; rintro e w' ⟨v, rfl, hv, hb⟩; have HB := Aside0.mk hb; clear hb)
  go_ret
  exact ⟨rfl, HB.out⟩
def Box (w : World) (u d : ByteArray) (v2 v3 : Value) (W : World) : Prop := W.heap[w.heap.size]? = some (.cells #[.string u, .string d, v2, v3] 35 (0, 0)) ∧ Below w.heap.size w W
theorem Box.step {w W W1 : World} {u d : ByteArray} {v2 v3 : Value} (h : Box w u d v2 v3 W) (hb : Below W.heap.size W W1) : Box w u d v2 v3 W1 := by
  have hlt : w.heap.size < W.heap.size := by
    rcases Nat.lt_or_ge w.heap.size W.heap.size with h' | h'
    · exact h'
    · have := h.1
      simp [Array.getElem?_eq_none h'] at this
  exact ⟨(hb.block _ hlt).trans h.1, h.2.trans (hb.mono (by omega))⟩
theorem Box.cells {w W : World} {u d : ByteArray} {v2 v3 : Value} (h : Box w u d v2 v3 W) : W.cell? ⟨w.heap.size, 0, none⟩ = some (.string u) ∧ W.cell? ⟨w.heap.size, 1, none⟩ = some (.string d) ∧ W.cell? ⟨w.heap.size, 2, none⟩ = some v2 ∧ W.cell? ⟨w.heap.size, 3, none⟩ = some v3 := by
  refine ⟨?_, ?_, ?_, ?_⟩ <;> (rw [Lib.cell_of_heap h.1]; rfl)
theorem Box.new (w : World) (u d : ByteArray) (v2 v3 : Value) : Box w u d v2 v3 (w.alloc (.cells #[.string u, .string d, v2, v3] 35)) := ⟨heap_alloc_new w _, (Below.refl _ _).alloc (Nat.le_refl _) _⟩
theorem all_tiny {ts : List S32} (h : ts.all (fun a => tinyB a.f0 && tinyB a.f1) = true) : ∀ a ∈ ts, Tiny a := fun a ha => by
  have := List.all_eq_true.1 h a ha
  rw [Bool.and_eq_true] at this
  exact ⟨of_decide_eq_true this.1, of_decide_eq_true this.2⟩
set_option maxHeartbeats 2000000 in
set_option maxRecDepth 100000 in
theorem impl_MailOk.calls (a0_0 : ByteArray) (a0_1 : ByteArray) (A0_2 : Option Addr) (c0_2 : Nat) (l0_2 : List (S32)) (A0_3 : Option Addr) (c0_3 : Nat) (l0_3 : List ByteArray) (r : Bool) (w : World) (hG : Laid w) (hr0_2 : Kd.C k32 w A0_2 l0_2.length l0_2) (_hc0_2 : l0_2.length ≤ c0_2) (hr0_3 : Kd.C Kd.string w A0_3 l0_3.length l0_3) (hc0_3 : l0_3.length ≤ c0_3) (h : impl_MailOk.f a0_0 a0_1 l0_2 l0_3 = some r) :
    Calls Tryz.prog 36 #[.agg #[.string a0_0, .string a0_1, .slice A0_2 l0_2.length c0_2, .slice A0_3 l0_3.length c0_3]] w fun e w' => e = .returned (.bool r) ∧ Below w.heap.size w w' := by
  unfold impl_MailOk.f at h
  split at h
  case isFalse => cases h
  case isTrue hs =>
  simp only [Bool.and_eq_true] at hs
  obtain ⟨⟨⟨_, hs1⟩, hs2⟩, hs3⟩ := hs
  injection h with h
  have HT2 := Aside0.mk (all_tiny hs2)
  have H3 := Aside0.mk (show impl_isBody.f l0_3 = some (bodyB l0_3) by
    unfold impl_isBody.f
    rw [if_pos]
    rw [List.all_eq_true] at hs3 ⊢
    intro x hx
    have := of_decide_eq_true (hs3 x hx)
    exact decide_eq_true (by omega))
  have HSE := Aside0.mk (sender_tells a0_0 a0_1 (of_decide_eq_true hs1) _ (Nat.le_refl _))
  clear hs1 hs2 hs3
  have HG := Aside0.mk hG
  have HR2 := Aside0.mk hr0_2
  have HR3 := Aside0.mk hr0_3
  have HC3 := Aside0.mk hc0_3
  have HW := Aside0.mk (show ∀ b : Bool, decide (1 ≤ l0_2.length ∧ l0_2.length ≤ 4) = b → impl_within.f (l0_2.length : Int) 1 4 = some b by
    intro b hb
    unfold impl_within.f
    by_cases g : 1 ≤ l0_2.length
    · rw [if_pos (by omega), ← hb]
      exact congrArg some (decide_eq_decide.2 (by omega))
    · rw [if_neg (by omega), ← hb, decide_eq_false (by omega)])
  have HB0 := Aside0.mk (Box.new w a0_0 a0_1 (.slice A0_2 l0_2.length c0_2) (.slice A0_3 l0_3.length c0_3))
  clear hG hr0_2 hr0_3 hc0_3
  have hu35 := Tryz.underlying35
  have hu32 := Tryz.underlying32
  unfold mailB at h
  cases b1 : (nullB a0_0 a0_1 || addrB a0_0 a0_1)
  · rw [b1] at h HSE
    simp only [Bool.false_and] at h
    subst h
    clear b1
    go_enter Tryz.func36, Tryz.ntmps36
    go_wp2_with (go_at_call 72; refine (impl_Addr_sender.calls _ _ _ false _ (HG.out.below HB0.out.2) HSE.out).mono ?_; rintro e w1 ⟨rfl, hb⟩; have HB1 := Aside0.mk (HB0.out.step hb); clear hb)
    go_ret
    exact ⟨rfl, HB1.out.2⟩
  rw [b1] at h HSE
  simp only [Bool.true_and] at h
  clear b1
  cases b2 : decide (1 ≤ l0_2.length ∧ l0_2.length ≤ 4)
  · have HW' := Aside0.mk (HW.out _ b2)
    rw [b2] at h
    simp only [Bool.false_and] at h
    subst h
    clear b2 HW
    go_enter Tryz.func36, Tryz.ntmps36
    go_wp2_with (first | (go_at_call 72; refine (impl_Addr_sender.calls _ _ _ true _ (HG.out.below HB0.out.2) HSE.out).mono ?_; rintro e w1 ⟨rfl, hb⟩; have HB1 := Aside0.mk (HB0.out.step hb); obtain ⟨_, _, kc2, kc3⟩ := HB1.out.cells; clear hb) | (go_at_call 33; (with_reducible refine (impl_within.calls _ 1 4 false _ HW'.out).mono ?_); rintro e w' ⟨rfl, ⟨nd, rfl⟩⟩))
    go_ret
    exact ⟨rfl, HB1.out.2.trans ((bel_drewN _ nd).mono HB1.out.2.size)⟩
  have HW' := Aside0.mk (HW.out _ b2)
  rw [b2] at h
  simp only [Bool.true_and] at h
  clear b2 HW
  cases b3 : l0_2.all goodB
  · have b3' : l0_2.all (fun a => addrB a.f0 a.f1) = false := b3
    rw [b3'] at h
    simp only [Bool.false_and] at h
    subst h
    have HA := Aside0.mk (fun W hG hr => contains_addr A0_2 c0_2 l0_2 W hG hr HT2.out)
    rw [b3] at HA
    clear b3 b3'
    go_enter Tryz.func36, Tryz.ntmps36
    go_wp2_with (first | (go_at_call 72; refine (impl_Addr_sender.calls _ _ _ true _ (HG.out.below HB0.out.2) HSE.out).mono ?_; rintro e w1 ⟨rfl, hb⟩; have HB1 := Aside0.mk (HB0.out.step hb); obtain ⟨_, _, kc2, kc3⟩ := HB1.out.cells; clear hb) | (go_at_call 33; (with_reducible refine (impl_within.calls _ 1 4 true _ HW'.out).mono ?_); rintro e w' ⟨rfl, ⟨nd, rfl⟩⟩; have HB2 := Aside0.mk (HB1.out.step (bel_drewN _ nd))) | (go_at_call 73; refine (HA.out _ (HG.out.below HB2.out.2) (Kd.C_below HR2.out HB2.out.2)).mono ?_; rintro e w3 ⟨rfl, hb⟩; have HB3 := Aside0.mk (HB2.out.step hb); clear hb))
    go_ret
    exact ⟨rfl, HB3.out.2⟩
  have b3' : l0_2.all (fun a => addrB a.f0 a.f1) = true := b3
  rw [b3'] at h
  simp only [Bool.true_and] at h
  have HA := Aside0.mk (fun W hG hr => contains_addr A0_2 c0_2 l0_2 W hG hr HT2.out)
  rw [b3] at HA
  clear b3 b3'
  have HD := Aside0.mk (fun W hr => distinct_calls A0_2 c0_2 l0_2 W hr HT2.out)
  cases b4 : apartB l0_2
  · rw [b4] at h HD
    simp only [Bool.false_and] at h
    subst h
    clear b4
    go_enter Tryz.func36, Tryz.ntmps36
    go_wp2_with (first | (go_at_call 72; refine (impl_Addr_sender.calls _ _ _ true _ (HG.out.below HB0.out.2) HSE.out).mono ?_; rintro e w1 ⟨rfl, hb⟩; have HB1 := Aside0.mk (HB0.out.step hb); obtain ⟨_, _, kc2, kc3⟩ := HB1.out.cells; clear hb) | (go_at_call 33; (with_reducible refine (impl_within.calls _ 1 4 true _ HW'.out).mono ?_); rintro e w' ⟨rfl, ⟨nd, rfl⟩⟩; have HB2 := Aside0.mk (HB1.out.step (bel_drewN _ nd))) | (go_at_call 73; refine (HA.out _ (HG.out.below HB2.out.2) (Kd.C_below HR2.out HB2.out.2)).mono ?_; rintro e w3 ⟨rfl, hb⟩; have HB3 := Aside0.mk (HB2.out.step hb); obtain ⟨_, _, kc2', kc3'⟩ := HB3.out.cells; clear hb) | (go_at_call 74; refine (HD.out _ (Kd.C_below HR2.out HB3.out.2)).mono ?_; rintro e w4 ⟨rfl, hb⟩; have HB4 := Aside0.mk (HB3.out.step hb); clear hb))
    go_ret
    exact ⟨rfl, HB4.out.2⟩
  rw [b4] at h HD
  simp only [Bool.true_and] at h
  subst h
  clear b4
  cases b5 : bodyB l0_3
  all_goals
    rw [b5] at H3

    clear b5
    go_enter Tryz.func36, Tryz.ntmps36
    go_wp2_with (first | (go_at_call 72; refine (impl_Addr_sender.calls _ _ _ true _ (HG.out.below HB0.out.2) HSE.out).mono ?_; rintro e w1 ⟨rfl, hb⟩; have HB1 := Aside0.mk (HB0.out.step hb); obtain ⟨_, _, kc2, kc3⟩ := HB1.out.cells; clear hb) | (go_at_call 33; (with_reducible refine (impl_within.calls _ 1 4 true _ HW'.out).mono ?_); rintro e w' ⟨rfl, ⟨nd, rfl⟩⟩; have HB2 := Aside0.mk (HB1.out.step (bel_drewN _ nd))) | (go_at_call 73; refine (HA.out _ (HG.out.below HB2.out.2) (Kd.C_below HR2.out HB2.out.2)).mono ?_; rintro e w3 ⟨rfl, hb⟩; have HB3 := Aside0.mk (HB2.out.step hb); obtain ⟨_, _, kc2', kc3'⟩ := HB3.out.cells; clear hb) | (go_at_call 74; refine (HD.out _ (Kd.C_below HR2.out HB3.out.2)).mono ?_; rintro e w4 ⟨rfl, hb⟩; have HB4 := Aside0.mk (HB3.out.step hb); obtain ⟨_, _, kc2'', kc3''⟩ := HB4.out.cells; clear hb) | (go_at_call 75; refine (impl_isBody.calls A0_3 c0_3 l0_3 _ _ (Kd.C_below HR3.out HB4.out.2) HC3.out H3.out).mono ?_; rintro e w' ⟨rfl, ⟨nd5, rfl⟩⟩))
    go_ret
    exact ⟨rfl, (HB4.out.step (bel_drewN _ nd5)).2⟩
end Go.Proofs.YtbncnjgflhoneaaGreatDoor.Hand
namespace Go.Proofs.YtbncnjgflhoneaaGreatDoor.F
open Go.RowKit Go.Proofs.YtbncnjgflhoneaaGreatDoor.Hand Go.Proofs.YtbncnjgflhoneaaGreatDoorW.PrintWords Go.Proofs.YtbncnjgflhoneaaGreatDoorW.PrintLast Go.Proofs.YtbncnjgflhoneaaGreatDoorW.PrintMore
attribute [local go_sem] max2_int min2_int max_two min_two max_three min_three max_four min_four   -- for this text's walks alone
set_option linter.unusedVariables false
set_option linter.unusedSimpArgs false
def spec_l1In.f (a0 : Int) (a1 : Int) (a2 : Int) : Option (Bool) := if a0 ≥ a1 then (some (decide (a0 ≤ a2))) else (some false)
set_option maxHeartbeats 8000000 in
set_option maxRecDepth 100000 in
theorem spec_l1In.calls (a0 : Int) (a1 : Int) (a2 : Int) (r : Bool) (w : World) (h : spec_l1In.f a0 a1 a2 = some r) :
    Calls Tryz.prog 57 #[.int .i64 a0, .int .i64 a1, .int .i64 a2] w fun e w' => e = .returned (.bool r) ∧ Drawn0 w w' := by
  have H : (if a0 ≥ a1 then (some (decide (a0 ≤ a2))) else (some false)) = some r := h
  clear h
  by_cases c4 : a0 ≥ a1
  · rw [if_pos c4] at H
    have c4b0 : decide (a1 ≤ a0) = true := decide_eq_true c4
    clear c4
    obtain rfl := Option.some.inj H
    go_enter Tryz.func57, Tryz.ntmps57
    go_wp2
    go_ret
    exact ⟨by first | rfl | (simp; done) | (simp [*]; done), by repeat (first | exact Drawn0.refl _ | apply Drawn0.step)⟩
  · rw [if_neg c4] at H
    have c4b0 : decide (a1 ≤ a0) = false := decide_eq_false c4
    clear c4
    obtain rfl := Option.some.inj H
    go_enter Tryz.func57, Tryz.ntmps57
    go_wp2
    go_ret
    exact ⟨by first | rfl | (simp; done) | (simp [*]; done), by repeat (first | exact Drawn0.refl _ | apply Drawn0.step)⟩
end Go.Proofs.YtbncnjgflhoneaaGreatDoor.F
namespace Go.Proofs.YtbncnjgflhoneaaGreatDoor.F
open Go.RowKit Go.Proofs.YtbncnjgflhoneaaGreatDoor.Hand Go.Proofs.YtbncnjgflhoneaaGreatDoorW.PrintWords Go.Proofs.YtbncnjgflhoneaaGreatDoorW.PrintLast Go.Proofs.YtbncnjgflhoneaaGreatDoorW.PrintMore
attribute [local go_sem] max2_int min2_int max_two min_two max_three min_three max_four min_four   -- for this text's walks alone
set_option linter.unusedVariables false
set_option linter.unusedSimpArgs false
def spec_l1Word.l0 : Nat → ByteArray → Int → Option (Bool)
  | 0, _, _ => none
  | k + 1, x0, x3 => if x3 < (x0.size : Int) then (if 0 ≤ x3 then (if (bt x0 x3) < 97 then (if (bt x0 x3) < 48 then (some false) else (if (bt x0 x3) > 57 then (some false) else (spec_l1Word.l0 k x0 (wrap64 (x3 + 1))))) else (if (bt x0 x3) > 122 then (if (bt x0 x3) < 48 then (some false) else (if (bt x0 x3) > 57 then (some false) else (spec_l1Word.l0 k x0 (wrap64 (x3 + 1))))) else (spec_l1Word.l0 k x0 (wrap64 (x3 + 1))))) else (none)) else ((spec_l1In.f (x0.size : Int) 1 8).bind fun t101 => (some t101))
def spec_l1Word.f (k : Nat) (a0 : ByteArray) : Option (Bool) := spec_l1Word.l0 k a0 0
theorem spec_l1Word.mono_l : ∀ k, (∀ y0 y1, LeO (spec_l1Word.l0 k y0 y1) (spec_l1Word.l0 (k + 1) y0 y1))
  | 0 => fun _ _ r h => by simp [spec_l1Word.l0] at h
  | k + 1 => by
    have ih0 := spec_l1Word.mono_l k
    · intro y0 y1
      unfold spec_l1Word.l0
      repeat' first
      | (with_reducible exact ih0 _ _)
      | (with_reducible exact LeO.refl _)
      | (with_reducible exact LeO.none _)
      | (with_reducible refine LeO.ite ?_ ?_)
      | (with_reducible refine LeO.bind ?_ (fun _ => ?_))
      | exact ih0 _ _
      | exact LeO.none _
      | refine LeO.ite ?_ ?_
      | refine LeO.bind ?_ (fun _ => ?_)
theorem spec_l1Word.mono : ∀ a0 k, LeO (spec_l1Word.f k a0) (spec_l1Word.f (k + 1) a0) := by
  intro a0 k
  have ih0 := spec_l1Word.mono_l k
  unfold spec_l1Word.f
  repeat' first
      | (with_reducible exact ih0 _ _)
      | (with_reducible exact LeO.refl _)
      | (with_reducible exact LeO.none _)
      | (with_reducible refine LeO.ite ?_ ?_)
      | (with_reducible refine LeO.bind ?_ (fun _ => ?_))
      | exact ih0 _ _
      | exact LeO.none _
      | refine LeO.ite ?_ ?_
      | refine LeO.bind ?_ (fun _ => ?_)
set_option maxHeartbeats 8000000 in
set_option maxRecDepth 100000 in
theorem spec_l1Word.calls (k : Nat) (a0 : ByteArray) (r : Bool) (w : World) (h : spec_l1Word.f k a0 = some r) :
    Calls Tryz.prog 101 #[.string a0] w fun e w' => e = .returned (.bool r) ∧ Drawn0 w w' := by
  have H : (spec_l1Word.l0 k a0 0) = some r := h
  clear h
  have H' := Aside0.mk H
  clear H
  go_enter Tryz.func101, Tryz.ntmps101
  go_wp2
  go_loopg [3] k (fun kq v3 w' => ∃ (x3_1 : Int), v3 = .int .i64 x3_1 ∧ Aside0 (spec_l1Word.l0 kq a0 x3_1 = some r) ∧ Aside0 (kq ≤ k) ∧ Drawn0 w w')
  case atStart => exact ⟨(0), z11_, H', ⟨Nat.le_refl _⟩, by repeat (first | exact Drawn0.refl _ | apply Drawn0.step)⟩
  case round =>
    clear H'
    try clear c1
    obtain ⟨x3_1, rfl, HA, HK1, ⟨m1, rfl⟩⟩ := hrel
    cases gk with
    | zero => exact absurd HA.out (by simp [spec_l1Word.l0])
    | succ k1 =>
      have H := HA.out
      clear HA
      simp only [spec_l1Word.l0] at H
      by_cases c2 : x3_1 < (a0.size : Int)
      · rw [if_pos c2] at H
        have c2b0 : decide (x3_1 < (a0.size : Int)) = true := decide_eq_true c2
        clear c2
        by_cases c3 : 0 ≤ x3_1
        · rw [if_pos c3] at H
          have c3b0 : decide (0 ≤ x3_1) = true := decide_eq_true c3
          clear c3
          by_cases c5 : (bt a0 x3_1) < 97
          · rw [if_pos c5] at H
            have c5b0 : decide ((bt a0 x3_1) < 97) = true := decide_eq_true c5
            clear c5
            by_cases c7 : (bt a0 x3_1) < 48
            · rw [if_pos c7] at H
              have c7b0 : decide ((bt a0 x3_1) < 48) = true := decide_eq_true c7
              clear c7
              obtain rfl := Option.some.inj H
              have p4 : 0 ≤ (x3_1 : Int) := of_decide_eq_true z5_
              have q4 : x3_1 < (a0.size : Int) := of_decide_eq_true z5_
              have hx4 := bt_at a0 x3_1
              replace p4 := eq_true p4
              replace q4 := eq_true q4
              have p6 : 0 ≤ (x3_1 : Int) := of_decide_eq_true z5_
              have q6 : x3_1 < (a0.size : Int) := of_decide_eq_true z5_
              have hx6 := bt_at a0 x3_1
              replace p6 := eq_true p6
              replace q6 := eq_true q6
              go_wp2
              go_ret
              exact ⟨by first | rfl | (simp; done) | (simp [*]; done), by repeat (first | exact Drawn0.refl _ | apply Drawn0.step)⟩
            · rw [if_neg c7] at H
              have c7b0 : decide ((bt a0 x3_1) < 48) = false := decide_eq_false c7
              clear c7
              by_cases c9 : (bt a0 x3_1) > 57
              · rw [if_pos c9] at H
                have c9b0 : decide (57 < (bt a0 x3_1)) = true := decide_eq_true c9
                clear c9
                obtain rfl := Option.some.inj H
                have p4 : 0 ≤ (x3_1 : Int) := of_decide_eq_true z5_
                have q4 : x3_1 < (a0.size : Int) := of_decide_eq_true z5_
                have hx4 := bt_at a0 x3_1
                replace p4 := eq_true p4
                replace q4 := eq_true q4
                have p6 : 0 ≤ (x3_1 : Int) := of_decide_eq_true z5_
                have q6 : x3_1 < (a0.size : Int) := of_decide_eq_true z5_
                have hx6 := bt_at a0 x3_1
                replace p6 := eq_true p6
                replace q6 := eq_true q6
                have p8 : 0 ≤ (x3_1 : Int) := of_decide_eq_true z5_
                have q8 : x3_1 < (a0.size : Int) := of_decide_eq_true z5_
                have hx8 := bt_at a0 x3_1
                replace p8 := eq_true p8
                replace q8 := eq_true q8
                go_wp2
                go_ret
                exact ⟨by first | rfl | (simp; done) | (simp [*]; done), by repeat (first | exact Drawn0.refl _ | apply Drawn0.step)⟩
              · rw [if_neg c9] at H
                have c9b0 : decide (57 < (bt a0 x3_1)) = false := decide_eq_false c9
                clear c9
                have H' := Aside0.mk H
                clear H
                have p4 : 0 ≤ (x3_1 : Int) := of_decide_eq_true z5_
                have q4 : x3_1 < (a0.size : Int) := of_decide_eq_true z5_
                have hx4 := bt_at a0 x3_1
                replace p4 := eq_true p4
                replace q4 := eq_true q4
                have p6 : 0 ≤ (x3_1 : Int) := of_decide_eq_true z5_
                have q6 : x3_1 < (a0.size : Int) := of_decide_eq_true z5_
                have hx6 := bt_at a0 x3_1
                replace p6 := eq_true p6
                replace q6 := eq_true q6
                have p8 : 0 ≤ (x3_1 : Int) := of_decide_eq_true z5_
                have q8 : x3_1 < (a0.size : Int) := of_decide_eq_true z5_
                have hx8 := bt_at a0 x3_1
                replace p8 := eq_true p8
                replace q8 := eq_true q8
                go_wp2
                go_roundg k1
                case measure => have := HK1.out; omega
                case rel => exact ⟨(wrap64 (x3_1 + 1)), z11_, H', ⟨by have := HK1.out; omega⟩, by repeat (first | exact Drawn0.refl _ | apply Drawn0.step)⟩
          · rw [if_neg c5] at H
            have c5b0 : decide ((bt a0 x3_1) < 97) = false := decide_eq_false c5
            clear c5
            by_cases c11 : (bt a0 x3_1) > 122
            · rw [if_pos c11] at H
              have c11b0 : decide (122 < (bt a0 x3_1)) = true := decide_eq_true c11
              clear c11
              by_cases c13 : (bt a0 x3_1) < 48
              · rw [if_pos c13] at H
                have c13b0 : decide ((bt a0 x3_1) < 48) = true := decide_eq_true c13
                clear c13
                obtain rfl := Option.some.inj H
                have p4 : 0 ≤ (x3_1 : Int) := of_decide_eq_true z5_
                have q4 : x3_1 < (a0.size : Int) := of_decide_eq_true z5_
                have hx4 := bt_at a0 x3_1
                replace p4 := eq_true p4
                replace q4 := eq_true q4
                have p10 : 0 ≤ (x3_1 : Int) := of_decide_eq_true z5_
                have q10 : x3_1 < (a0.size : Int) := of_decide_eq_true z5_
                have hx10 := bt_at a0 x3_1
                replace p10 := eq_true p10
                replace q10 := eq_true q10
                have p12 : 0 ≤ (x3_1 : Int) := of_decide_eq_true z5_
                have q12 : x3_1 < (a0.size : Int) := of_decide_eq_true z5_
                have hx12 := bt_at a0 x3_1
                replace p12 := eq_true p12
                replace q12 := eq_true q12
                go_wp2
                go_ret
                exact ⟨by first | rfl | (simp; done) | (simp [*]; done), by repeat (first | exact Drawn0.refl _ | apply Drawn0.step)⟩
              · rw [if_neg c13] at H
                have c13b0 : decide ((bt a0 x3_1) < 48) = false := decide_eq_false c13
                clear c13
                by_cases c15 : (bt a0 x3_1) > 57
                · rw [if_pos c15] at H
                  have c15b0 : decide (57 < (bt a0 x3_1)) = true := decide_eq_true c15
                  clear c15
                  obtain rfl := Option.some.inj H
                  have p4 : 0 ≤ (x3_1 : Int) := of_decide_eq_true z5_
                  have q4 : x3_1 < (a0.size : Int) := of_decide_eq_true z5_
                  have hx4 := bt_at a0 x3_1
                  replace p4 := eq_true p4
                  replace q4 := eq_true q4
                  have p10 : 0 ≤ (x3_1 : Int) := of_decide_eq_true z5_
                  have q10 : x3_1 < (a0.size : Int) := of_decide_eq_true z5_
                  have hx10 := bt_at a0 x3_1
                  replace p10 := eq_true p10
                  replace q10 := eq_true q10
                  have p12 : 0 ≤ (x3_1 : Int) := of_decide_eq_true z5_
                  have q12 : x3_1 < (a0.size : Int) := of_decide_eq_true z5_
                  have hx12 := bt_at a0 x3_1
                  replace p12 := eq_true p12
                  replace q12 := eq_true q12
                  have p14 : 0 ≤ (x3_1 : Int) := of_decide_eq_true z5_
                  have q14 : x3_1 < (a0.size : Int) := of_decide_eq_true z5_
                  have hx14 := bt_at a0 x3_1
                  replace p14 := eq_true p14
                  replace q14 := eq_true q14
                  go_wp2
                  go_ret
                  exact ⟨by first | rfl | (simp; done) | (simp [*]; done), by repeat (first | exact Drawn0.refl _ | apply Drawn0.step)⟩
                · rw [if_neg c15] at H
                  have c15b0 : decide (57 < (bt a0 x3_1)) = false := decide_eq_false c15
                  clear c15
                  have H' := Aside0.mk H
                  clear H
                  have p4 : 0 ≤ (x3_1 : Int) := of_decide_eq_true z5_
                  have q4 : x3_1 < (a0.size : Int) := of_decide_eq_true z5_
                  have hx4 := bt_at a0 x3_1
                  replace p4 := eq_true p4
                  replace q4 := eq_true q4
                  have p10 : 0 ≤ (x3_1 : Int) := of_decide_eq_true z5_
                  have q10 : x3_1 < (a0.size : Int) := of_decide_eq_true z5_
                  have hx10 := bt_at a0 x3_1
                  replace p10 := eq_true p10
                  replace q10 := eq_true q10
                  have p12 : 0 ≤ (x3_1 : Int) := of_decide_eq_true z5_
                  have q12 : x3_1 < (a0.size : Int) := of_decide_eq_true z5_
                  have hx12 := bt_at a0 x3_1
                  replace p12 := eq_true p12
                  replace q12 := eq_true q12
                  have p14 : 0 ≤ (x3_1 : Int) := of_decide_eq_true z5_
                  have q14 : x3_1 < (a0.size : Int) := of_decide_eq_true z5_
                  have hx14 := bt_at a0 x3_1
                  replace p14 := eq_true p14
                  replace q14 := eq_true q14
                  go_wp2
                  go_roundg k1
                  case measure => have := HK1.out; omega
                  case rel => exact ⟨(wrap64 (x3_1 + 1)), z11_, H', ⟨by have := HK1.out; omega⟩, by repeat (first | exact Drawn0.refl _ | apply Drawn0.step)⟩
            · rw [if_neg c11] at H
              have c11b0 : decide (122 < (bt a0 x3_1)) = false := decide_eq_false c11
              clear c11
              have H' := Aside0.mk H
              clear H
              have p4 : 0 ≤ (x3_1 : Int) := of_decide_eq_true z5_
              have q4 : x3_1 < (a0.size : Int) := of_decide_eq_true z5_
              have hx4 := bt_at a0 x3_1
              replace p4 := eq_true p4
              replace q4 := eq_true q4
              have p10 : 0 ≤ (x3_1 : Int) := of_decide_eq_true z5_
              have q10 : x3_1 < (a0.size : Int) := of_decide_eq_true z5_
              have hx10 := bt_at a0 x3_1
              replace p10 := eq_true p10
              replace q10 := eq_true q10
              go_wp2
              go_roundg k1
              case measure => have := HK1.out; omega
              case rel => exact ⟨(wrap64 (x3_1 + 1)), z11_, H', ⟨by have := HK1.out; omega⟩, by repeat (first | exact Drawn0.refl _ | apply Drawn0.step)⟩
        · rw [if_neg c3] at H
          exact absurd H (by simp)
      · rw [if_neg c2] at H
        have c2b0 : decide (x3_1 < (a0.size : Int)) = false := decide_eq_false c2
        clear c2
        replace H := Option.bind_eq_some_iff.mp H
        obtain ⟨t101, A160, H⟩ := H
        replace H : (some t101) = some r := H
        have A16 := Aside0.mk A160
        clear A160
        obtain rfl := Option.some.inj H
        go_wp2_with (first | ((with_reducible refine gate_callee (f := 57) rfl ?_); refine goesL_ (some 34) rfl rfl Tryz.func57 z12_ rfl #[.int .i64 (a0.size : Int), .int .i64 1, .int .i64 8] rfl z3_ ?_; (with_reducible refine (spec_l1In.calls (a0.size : Int) 1 8 t101 _ A16.out).mono ?_); rintro e w' ⟨rfl, ⟨nd, rfl⟩⟩; refine ⟨_, rfl, ?_⟩))
        go_ret
        exact ⟨by first | rfl | (simp; done) | (simp [*]; done), by repeat (first | exact Drawn0.refl _ | apply Drawn0.step)⟩
end Go.Proofs.YtbncnjgflhoneaaGreatDoor.F
namespace Go.Proofs.YtbncnjgflhoneaaGreatDoor.F
open Go.RowKit Go.Proofs.YtbncnjgflhoneaaGreatDoor.Hand Go.Proofs.YtbncnjgflhoneaaGreatDoorW.PrintWords Go.Proofs.YtbncnjgflhoneaaGreatDoorW.PrintLast Go.Proofs.YtbncnjgflhoneaaGreatDoorW.PrintMore
attribute [local go_sem] max2_int min2_int max_two min_two max_three min_three max_four min_four   -- for this text's walks alone
set_option linter.unusedVariables false
set_option linter.unusedSimpArgs false
def spec_l2LineOk.l0 : Nat → ByteArray → Int → Option (Bool)
  | 0, _, _ => none
  | k + 1, x0, x3 => if x3 < (x0.size : Int) then (if 0 ≤ x3 then (if (bt x0 x3) < 32 then (some false) else (if (bt x0 x3) > 126 then (some false) else (spec_l2LineOk.l0 k x0 (wrap64 (x3 + 1))))) else (none)) else (some (decide ((x0.size : Int) ≤ 40)))
def spec_l2LineOk.f (k : Nat) (a0 : ByteArray) : Option (Bool) := spec_l2LineOk.l0 k a0 0
theorem spec_l2LineOk.mono_l : ∀ k, (∀ y0 y1, LeO (spec_l2LineOk.l0 k y0 y1) (spec_l2LineOk.l0 (k + 1) y0 y1))
  | 0 => fun _ _ r h => by simp [spec_l2LineOk.l0] at h
  | k + 1 => by
    have ih0 := spec_l2LineOk.mono_l k
    · intro y0 y1
      unfold spec_l2LineOk.l0
      repeat' first
      | (with_reducible exact ih0 _ _)
      | (with_reducible exact LeO.refl _)
      | (with_reducible exact LeO.none _)
      | (with_reducible refine LeO.ite ?_ ?_)
      | (with_reducible refine LeO.bind ?_ (fun _ => ?_))
      | exact ih0 _ _
      | exact LeO.none _
      | refine LeO.ite ?_ ?_
      | refine LeO.bind ?_ (fun _ => ?_)
theorem spec_l2LineOk.mono : ∀ a0 k, LeO (spec_l2LineOk.f k a0) (spec_l2LineOk.f (k + 1) a0) := by
  intro a0 k
  have ih0 := spec_l2LineOk.mono_l k
  unfold spec_l2LineOk.f
  repeat' first
      | (with_reducible exact ih0 _ _)
      | (with_reducible exact LeO.refl _)
      | (with_reducible exact LeO.none _)
      | (with_reducible refine LeO.ite ?_ ?_)
      | (with_reducible refine LeO.bind ?_ (fun _ => ?_))
      | exact ih0 _ _
      | exact LeO.none _
      | refine LeO.ite ?_ ?_
      | refine LeO.bind ?_ (fun _ => ?_)
set_option maxHeartbeats 8000000 in
set_option maxRecDepth 100000 in
theorem spec_l2LineOk.calls (k : Nat) (a0 : ByteArray) (r : Bool) (w : World) (h : spec_l2LineOk.f k a0 = some r) :
    Calls Tryz.prog 134 #[.string a0] w fun e w' => e = .returned (.bool r) ∧ Drawn0 w w' := by
  have H : (spec_l2LineOk.l0 k a0 0) = some r := h
  clear h
  have H' := Aside0.mk H
  clear H
  go_enter Tryz.func134, Tryz.ntmps134
  go_wp2
  go_loopg [3] k (fun kq v3 w' => ∃ (x3_1 : Int), v3 = .int .i64 x3_1 ∧ Aside0 (spec_l2LineOk.l0 kq a0 x3_1 = some r) ∧ Aside0 (kq ≤ k) ∧ Drawn0 w w')
  case atStart => exact ⟨(0), z11_, H', ⟨Nat.le_refl _⟩, by repeat (first | exact Drawn0.refl _ | apply Drawn0.step)⟩
  case round =>
    clear H'
    try clear c1
    obtain ⟨x3_1, rfl, HA, HK1, ⟨m1, rfl⟩⟩ := hrel
    cases gk with
    | zero => exact absurd HA.out (by simp [spec_l2LineOk.l0])
    | succ k1 =>
      have H := HA.out
      clear HA
      simp only [spec_l2LineOk.l0] at H
      by_cases c2 : x3_1 < (a0.size : Int)
      · rw [if_pos c2] at H
        have c2b0 : decide (x3_1 < (a0.size : Int)) = true := decide_eq_true c2
        clear c2
        by_cases c3 : 0 ≤ x3_1
        · rw [if_pos c3] at H
          have c3b0 : decide (0 ≤ x3_1) = true := decide_eq_true c3
          clear c3
          by_cases c5 : (bt a0 x3_1) < 32
          · rw [if_pos c5] at H
            have c5b0 : decide ((bt a0 x3_1) < 32) = true := decide_eq_true c5
            clear c5
            obtain rfl := Option.some.inj H
            have p4 : 0 ≤ (x3_1 : Int) := of_decide_eq_true z5_
            have q4 : x3_1 < (a0.size : Int) := of_decide_eq_true z5_
            have hx4 := bt_at a0 x3_1
            replace p4 := eq_true p4
            replace q4 := eq_true q4
            go_wp2
            go_ret
            exact ⟨by first | rfl | (simp; done) | (simp [*]; done), by repeat (first | exact Drawn0.refl _ | apply Drawn0.step)⟩
          · rw [if_neg c5] at H
            have c5b0 : decide ((bt a0 x3_1) < 32) = false := decide_eq_false c5
            clear c5
            by_cases c7 : (bt a0 x3_1) > 126
            · rw [if_pos c7] at H
              have c7b0 : decide (126 < (bt a0 x3_1)) = true := decide_eq_true c7
              clear c7
              obtain rfl := Option.some.inj H
              have p4 : 0 ≤ (x3_1 : Int) := of_decide_eq_true z5_
              have q4 : x3_1 < (a0.size : Int) := of_decide_eq_true z5_
              have hx4 := bt_at a0 x3_1
              replace p4 := eq_true p4
              replace q4 := eq_true q4
              have p6 : 0 ≤ (x3_1 : Int) := of_decide_eq_true z5_
              have q6 : x3_1 < (a0.size : Int) := of_decide_eq_true z5_
              have hx6 := bt_at a0 x3_1
              replace p6 := eq_true p6
              replace q6 := eq_true q6
              go_wp2
              go_ret
              exact ⟨by first | rfl | (simp; done) | (simp [*]; done), by repeat (first | exact Drawn0.refl _ | apply Drawn0.step)⟩
            · rw [if_neg c7] at H
              have c7b0 : decide (126 < (bt a0 x3_1)) = false := decide_eq_false c7
              clear c7
              have H' := Aside0.mk H
              clear H
              have p4 : 0 ≤ (x3_1 : Int) := of_decide_eq_true z5_
              have q4 : x3_1 < (a0.size : Int) := of_decide_eq_true z5_
              have hx4 := bt_at a0 x3_1
              replace p4 := eq_true p4
              replace q4 := eq_true q4
              have p6 : 0 ≤ (x3_1 : Int) := of_decide_eq_true z5_
              have q6 : x3_1 < (a0.size : Int) := of_decide_eq_true z5_
              have hx6 := bt_at a0 x3_1
              replace p6 := eq_true p6
              replace q6 := eq_true q6
              go_wp2
              go_roundg k1
              case measure => have := HK1.out; omega
              case rel => exact ⟨(wrap64 (x3_1 + 1)), z11_, H', ⟨by have := HK1.out; omega⟩, by repeat (first | exact Drawn0.refl _ | apply Drawn0.step)⟩
        · rw [if_neg c3] at H
          exact absurd H (by simp)
      · rw [if_neg c2] at H
        have c2b0 : decide (x3_1 < (a0.size : Int)) = false := decide_eq_false c2
        clear c2
        obtain rfl := Option.some.inj H
        go_wp2
        go_ret
        exact ⟨by first | rfl | (simp; done) | (simp [*]; done), by repeat (first | exact Drawn0.refl _ | apply Drawn0.step)⟩
end Go.Proofs.YtbncnjgflhoneaaGreatDoor.F
namespace Go.Proofs.YtbncnjgflhoneaaGreatDoor.F
open Go.RowKit Go.Proofs.YtbncnjgflhoneaaGreatDoor.Hand Go.Proofs.YtbncnjgflhoneaaGreatDoorW.PrintWords Go.Proofs.YtbncnjgflhoneaaGreatDoorW.PrintLast Go.Proofs.YtbncnjgflhoneaaGreatDoorW.PrintMore
attribute [local go_sem] max2_int min2_int max_two min_two max_three min_three max_four min_four   -- for this text's walks alone
set_option linter.unusedVariables false
set_option linter.unusedSimpArgs false
def spec_l2BodyOk.l0 : Nat → List ByteArray → Int → Option (Bool)
  | 0, _, _ => none
  | k + 1, x0, x3 => if x3 < (x0.length : Int) then (if 0 ≤ x3 then ((spec_l2LineOk.f k (rdOf ByteArray.empty x0 x3)).bind fun t102 => (if t102 = true then (spec_l2BodyOk.l0 k x0 (wrap64 (x3 + 1))) else (some false))) else (none)) else (some (decide ((x0.length : Int) ≤ 12)))
def spec_l2BodyOk.f (k : Nat) (l0 : List ByteArray) : Option (Bool) := spec_l2BodyOk.l0 k l0 0
theorem spec_l2BodyOk.mono_l : ∀ k, (∀ y0 y1, LeO (spec_l2BodyOk.l0 k y0 y1) (spec_l2BodyOk.l0 (k + 1) y0 y1))
  | 0 => fun _ _ r h => by simp [spec_l2BodyOk.l0] at h
  | k + 1 => by
    have ih0 := spec_l2BodyOk.mono_l k
    · intro y0 y1
      unfold spec_l2BodyOk.l0
      repeat' first
      | (with_reducible exact ih0 _ _)
      | (with_reducible exact spec_l2LineOk.mono _ _)
      | (with_reducible exact LeO.refl _)
      | (with_reducible exact LeO.none _)
      | (with_reducible refine LeO.ite ?_ ?_)
      | (with_reducible refine LeO.bind ?_ (fun _ => ?_))
      | exact ih0 _ _
      | exact spec_l2LineOk.mono _ _
      | exact LeO.none _
      | refine LeO.ite ?_ ?_
      | refine LeO.bind ?_ (fun _ => ?_)
theorem spec_l2BodyOk.mono : ∀ a0 k, LeO (spec_l2BodyOk.f k a0) (spec_l2BodyOk.f (k + 1) a0) := by
  intro a0 k
  have ih0 := spec_l2BodyOk.mono_l k
  unfold spec_l2BodyOk.f
  repeat' first
      | (with_reducible exact ih0 _ _)
      | (with_reducible exact spec_l2LineOk.mono _ _)
      | (with_reducible exact LeO.refl _)
      | (with_reducible exact LeO.none _)
      | (with_reducible refine LeO.ite ?_ ?_)
      | (with_reducible refine LeO.bind ?_ (fun _ => ?_))
      | exact ih0 _ _
      | exact spec_l2LineOk.mono _ _
      | exact LeO.none _
      | refine LeO.ite ?_ ?_
      | refine LeO.bind ?_ (fun _ => ?_)
set_option maxHeartbeats 8000000 in
set_option maxRecDepth 100000 in
theorem spec_l2BodyOk.calls (k : Nat) (A0 : Option Addr) (c0 : Nat) (l0 : List ByteArray) (r : Bool) (w : World) (hr0 : Kd.C Kd.string w A0 l0.length l0) (hc0 : l0.length ≤ c0) (h : spec_l2BodyOk.f k l0 = some r) :
    Calls Tryz.prog 100 #[.slice A0 l0.length c0] w fun e w' => e = .returned (.bool r) ∧ Drawn0 w w' := by
  have HR0 := Aside0.mk hr0
  have HC0 := Aside0.mk hc0
  clear hr0 hc0
  have H : (spec_l2BodyOk.l0 k l0 0) = some r := h
  clear h
  have H' := Aside0.mk H
  clear H
  go_enter Tryz.func100, Tryz.ntmps100
  go_wp2
  go_loopg [3] k (fun kq v3 w' => ∃ (x3_1 : Int), v3 = .int .i64 x3_1 ∧ Aside0 (spec_l2BodyOk.l0 kq l0 x3_1 = some r) ∧ Aside0 (kq ≤ k) ∧ Drawn0 w w')
  case atStart => exact ⟨(0), z11_, H', ⟨Nat.le_refl _⟩, by repeat (first | exact Drawn0.refl _ | apply Drawn0.step)⟩
  case round =>
    clear H'
    try clear c1
    obtain ⟨x3_1, rfl, HA, HK1, ⟨m1, rfl⟩⟩ := hrel
    cases gk with
    | zero => exact absurd HA.out (by simp [spec_l2BodyOk.l0])
    | succ k1 =>
      have H := HA.out
      clear HA
      simp only [spec_l2BodyOk.l0] at H
      by_cases c2 : x3_1 < (l0.length : Int)
      · rw [if_pos c2] at H
        have c2b0 : decide (x3_1 < (l0.length : Int)) = true := decide_eq_true c2
        clear c2
        by_cases c3 : 0 ≤ x3_1
        · rw [if_pos c3] at H
          have c3b0 : decide (0 ≤ x3_1) = true := decide_eq_true c3
          clear c3
          replace H := Option.bind_eq_some_iff.mp H
          obtain ⟨t102, A40, H⟩ := H
          replace H : (if t102 = true then (spec_l2BodyOk.l0 k1 l0 (wrap64 (x3_1 + 1))) else (some false)) = some r := H
          have A4 := Aside0.mk A40
          clear A40
          by_cases c5 : t102 = true
          · subst c5
            have H1 : (spec_l2BodyOk.l0 k1 l0 (wrap64 (x3_1 + 1))) = some r := by rw [if_pos rfl] at H; exact H
            clear H
            have H := H1
            clear H1
            have H' := Aside0.mk H
            clear H
            have p101 : 0 ≤ (x3_1 : Int) := of_decide_eq_true z5_
            have q101 : x3_1 < (l0.length : Int) := of_decide_eq_true z5_
            obtain ⟨ad101, e101, hx101_0⟩ := Kd.at_string HR0.out x3_1 p101 q101
            cases e101
            replace p101 := eq_true p101
            replace q101 := eq_true q101
            go_wp2_with (first | ((with_reducible refine gate_callee (f := 134) rfl ?_); refine goesL_ (some 14) rfl rfl Tryz.func134 z12_ rfl #[.string (rdOf ByteArray.empty l0 x3_1)] rfl z3_ ?_; (with_reducible refine (spec_l2LineOk.calls k1 (rdOf ByteArray.empty l0 x3_1) true _ A4.out).mono ?_); rintro e w' ⟨rfl, ⟨nd, rfl⟩⟩; refine ⟨_, rfl, ?_⟩))
            go_roundg k1
            case measure => have := HK1.out; omega
            case rel => exact ⟨(wrap64 (x3_1 + 1)), z11_, H', ⟨by have := HK1.out; omega⟩, by repeat (first | exact Drawn0.refl _ | apply Drawn0.step)⟩
          · replace c5 := Bool.eq_false_iff.mpr c5
            subst c5
            have H1 : (some false) = some r := by rw [if_neg (show ¬ (false = true) by decide)] at H; exact H
            clear H
            have H := H1
            clear H1
            obtain rfl := Option.some.inj H
            have p101 : 0 ≤ (x3_1 : Int) := of_decide_eq_true z5_
            have q101 : x3_1 < (l0.length : Int) := of_decide_eq_true z5_
            obtain ⟨ad101, e101, hx101_0⟩ := Kd.at_string HR0.out x3_1 p101 q101
            cases e101
            replace p101 := eq_true p101
            replace q101 := eq_true q101
            go_wp2_with (first | ((with_reducible refine gate_callee (f := 134) rfl ?_); refine goesL_ (some 14) rfl rfl Tryz.func134 z12_ rfl #[.string (rdOf ByteArray.empty l0 x3_1)] rfl z3_ ?_; (with_reducible refine (spec_l2LineOk.calls k1 (rdOf ByteArray.empty l0 x3_1) false _ A4.out).mono ?_); rintro e w' ⟨rfl, ⟨nd, rfl⟩⟩; refine ⟨_, rfl, ?_⟩))
            go_ret
            exact ⟨by first | rfl | (simp; done) | (simp [*]; done), by repeat (first | exact Drawn0.refl _ | apply Drawn0.step)⟩
        · rw [if_neg c3] at H
          exact absurd H (by simp)
      · rw [if_neg c2] at H
        have c2b0 : decide (x3_1 < (l0.length : Int)) = false := decide_eq_false c2
        clear c2
        obtain rfl := Option.some.inj H
        go_wp2
        go_ret
        exact ⟨by first | rfl | (simp; done) | (simp [*]; done), by repeat (first | exact Drawn0.refl _ | apply Drawn0.step)⟩
end Go.Proofs.YtbncnjgflhoneaaGreatDoor.F
namespace Go.Proofs.YtbncnjgflhoneaaGreatDoor.F
open Go.RowKit Go.Proofs.YtbncnjgflhoneaaGreatDoor.Hand Go.Proofs.YtbncnjgflhoneaaGreatDoorW.PrintWords Go.Proofs.YtbncnjgflhoneaaGreatDoorW.PrintLast Go.Proofs.YtbncnjgflhoneaaGreatDoorW.PrintMore
attribute [local go_sem] max2_int min2_int max_two min_two max_three min_three max_four min_four   -- for this text's walks alone
set_option linter.unusedVariables false
set_option linter.unusedSimpArgs false
def spec_l1Null.f (a0_0 : ByteArray) (a0_1 : ByteArray) : Option (Bool) := if a0_0.toList = ([] : List UInt8) then (some (a0_1.toList == ([] : List UInt8))) else (some false)
set_option maxHeartbeats 8000000 in
set_option maxRecDepth 100000 in
theorem spec_l1Null.calls (a0_0 : ByteArray) (a0_1 : ByteArray) (r : Bool) (w : World) (h : spec_l1Null.f a0_0 a0_1 = some r) :
    Calls Tryz.prog 55 #[.agg #[.string a0_0, .string a0_1]] w fun e w' => e = .returned (.bool r) ∧ Below w.heap.size w w' := by
  have hu32 := Tryz.underlying32
  have HB := Aside0.mk (Below.refl w.heap.size w)
  have H : (if a0_0.toList = ([] : List UInt8) then (some (a0_1.toList == ([] : List UInt8))) else (some false)) = some r := h
  clear h
  by_cases c2 : a0_0.toList = ([] : List UInt8)
  · rw [if_pos c2] at H
    have c2b0 : (a0_0.toList == ([] : List UInt8)) = true := beq_iff_eq.mpr c2
    have c2b1 : (a0_0.toList != ([] : List UInt8)) = false := bne_eq_false_iff_eq.mpr c2
    clear c2
    obtain rfl := Option.some.inj H
    go_enter Tryz.func55, Tryz.ntmps55
    go_wp2_with (first | ((with_reducible refine gate_dst (N := 1) rfl ?_); refine box_event ?hg (N := 1) ?hd (cs := #[.string a0_0, .string a0_1]) (t := 32) ?hr ?_; (case hd => rfl); (case hg => rfl); (case hr => first | (go_simp; done) | (go_simp; rfl)); intro gb101 hg w3 hbox hb; have n0_ := Aside0.mk (below_step z1_ hb); have n1_ := Aside0.mk (hbox); have n2_ := Aside0.mk ((by rw [hg]; exact (below_size z1_) : w.heap.size ≤ gb101)); have n3_ := Aside0.mk ((by rw [hg]; exact (below_size z1_) : w.heap.size ≤ gb101)); clear HB; have HB := n0_; have BK101 := n1_; have GW101 := n2_; have GE101 := n3_; clear n0_ n1_ n2_ n3_; clear hb hbox hg; have hcz4_0 : w3.cell? ⟨gb101, 0, none⟩ = some (.string a0_0) := (blk_cell BK101.out 0).trans rfl; have hcz4_1 : w3.cell? ⟨gb101, 1, none⟩ = some (.string a0_1) := (blk_cell BK101.out 1).trans rfl; have hfz4_0 := blk_frozen BK101.out 0; have hfz4_1 := blk_frozen BK101.out 1))
    go_ret
    exact ⟨z4_, z0_⟩
  · rw [if_neg c2] at H
    have c2b0 : (a0_0.toList == ([] : List UInt8)) = false := beq_eq_false_iff_ne.mpr c2
    have c2b1 : (a0_0.toList != ([] : List UInt8)) = true := bne_iff_ne.mpr c2
    obtain rfl := Option.some.inj H
    go_enter Tryz.func55, Tryz.ntmps55
    go_wp2_with (first | ((with_reducible refine gate_dst (N := 1) rfl ?_); refine box_event ?hg (N := 1) ?hd (cs := #[.string a0_0, .string a0_1]) (t := 32) ?hr ?_; (case hd => rfl); (case hg => rfl); (case hr => first | (go_simp; done) | (go_simp; rfl)); intro gb101 hg w5 hbox hb; have n0_ := Aside0.mk (below_step z1_ hb); have n1_ := Aside0.mk (hbox); have n2_ := Aside0.mk ((by rw [hg]; exact (below_size z1_) : w.heap.size ≤ gb101)); have n3_ := Aside0.mk ((by rw [hg]; exact (below_size z1_) : w.heap.size ≤ gb101)); clear HB; have HB := n0_; have BK101 := n1_; have GW101 := n2_; have GE101 := n3_; clear n0_ n1_ n2_ n3_; clear hb hbox hg; have hcz6_0 : w5.cell? ⟨gb101, 0, none⟩ = some (.string a0_0) := (blk_cell BK101.out 0).trans rfl; have hcz6_1 : w5.cell? ⟨gb101, 1, none⟩ = some (.string a0_1) := (blk_cell BK101.out 1).trans rfl; have hfz6_0 := blk_frozen BK101.out 0; have hfz6_1 := blk_frozen BK101.out 1))
    go_ret
    exact ⟨z4_, z0_⟩
end Go.Proofs.YtbncnjgflhoneaaGreatDoor.F
