/- Of this claim, merged by program: HMail, F57, F101, F134, F100, F55, Q1, F84. -/
import Derived.Test.YtbncnjgflhoneaaGreatDoorG02
import Derived.Test.YtbncnjgflhoneaaGreatDoorG03
namespace Go.Proofs.YtbncnjgflhoneaaGreatDoor.Hand
open Go.RowKit Go.Proofs.YtbncnjgflhoneaaGreatDoor.F Go.Proofs.YtbncnjgflhoneaaGreatDoorW.PrintWords Go.Proofs.YtbncnjgflhoneaaGreatDoorW.PrintLast Go.Proofs.YtbncnjgflhoneaaGreatDoorW.PrintMore
def labelsOf (d : ByteArray) : List ByteArray := Lib.splitB ⟨#[46]⟩ 0 (Lib.countB d ⟨#[46]⟩) d
def domainB (d : ByteArray) : Bool := (labelsOf d).all labelB && decide ((labelsOf d).length ≤ 3)
def addrB (u d : ByteArray) : Bool := labelB u && domainB d
def nullB (u d : ByteArray) : Bool := u.toList == [] && d.toList == []
def mailB (u d : ByteArray) (ts : List S32) (body : List ByteArray) : Bool := (nullB u d || addrB u d) && decide (1 ≤ ts.length ∧ ts.length ≤ 4) && ts.all (fun a => addrB a.f0 a.f1) && apartB ts && bodyB body
def impl_MailOk.f (u d : ByteArray) (ts : List S32) (body : List ByteArray) : Option Bool := if (tinyB u && tinyB d && ts.all (fun a => tinyB a.f0 && tinyB a.f1) && body.all tinyB) = true then some (mailB u d ts body) else none
theorem labels_length (d : ByteArray) : (labelsOf d).length ≤ d.size + 1 := by
  unfold labelsOf
  rw [Lib.splitB_all ⟨#[46]⟩ (by decide) 0 _ d rfl]
  have := Lib.countB_le ⟨#[46]⟩ (by decide) _ d (Nat.le_refl _)
  omega
theorem domain_from (L : List ByteArray) (hL : L.length ≤ 1099511627776) : ∀ (e i k : Nat), L.length = i + e → e < k → impl_DomainOk.l0 k L L (L.length : Int) (i : Int) = some ((L.drop i).all labelB && decide (L.length ≤ 3)) := by
  intro e
  induction e with
  | zero =>
    intro i k hi hk
    obtain ⟨k, rfl⟩ : ∃ m, k = m + 1 := ⟨k - 1, by omega⟩
    rw [impl_DomainOk.l0, if_neg (by omega), List.drop_eq_nil_of_le (by omega), List.all_nil, Bool.true_and]
    exact congrArg some (decide_eq_decide.2 (by omega))
  | succ e ih =>
    intro i k hi hk
    obtain ⟨k, rfl⟩ : ∃ m, k = m + 1 := ⟨k - 1, by omega⟩
    have hl : i < L.length := by omega
    rw [impl_DomainOk.l0, if_pos (by omega), if_pos (by omega), if_pos (by omega), rdOf_mem _ _ _ hl, List.drop_eq_getElem_cons hl, List.all_cons]
    unfold impl_isLabel.f
    rw [Option.bind_some]
    by_cases h : labelB L[i] = true
    · rw [if_pos h, h, wrapIn (by omega) (by omega), Bool.true_and]
      exact ih (i + 1) k (by omega) (by omega)
    · rw [if_neg h, Bool.eq_false_iff.2 h]
      rfl
theorem domain_tells (d : ByteArray) (hd : d.size ≤ 1073741824) (k : Nat) (hk : d.size + 2 ≤ k) : impl_DomainOk.f k d = some (domainB d) := by
  have hl := labels_length d
  unfold impl_DomainOk.f strings_Split.f
  rw [if_pos ⟨by omega, by decide⟩, Option.bind_some]
  exact domain_from (labelsOf d) (by omega) (labelsOf d).length 0 k (by omega) (by omega)
theorem addr_tells (u d : ByteArray) (hd : d.size ≤ 1073741824) (k : Nat) (hk : d.size + 2 ≤ k) : impl_AddrOk.f k u d = some (addrB u d) := by
  unfold impl_AddrOk.f impl_isLabel.f addrB
  rw [Option.bind_some]
  by_cases h : labelB u = true
  · rw [if_pos h, h, domain_tells d hd k hk]
    rfl
  · rw [if_neg h, Bool.eq_false_iff.2 h]
    rfl
theorem sender_tells (u d : ByteArray) (hd : d.size ≤ 1073741824) (k : Nat) (hk : d.size + 2 ≤ k) : impl_Addr_sender.f k u d = some (nullB u d || addrB u d) := by
  unfold impl_Addr_sender.f impl_Addr_null.f
  rw [Option.bind_some]
  show (if nullB u d = true then _ else _) = _
  by_cases h : nullB u d = true
  · rw [if_pos h, h]
    rfl
  · rw [if_neg h, Bool.eq_false_iff.2 h, addr_tells u d hd k hk]
    rfl
theorem bad_tells (u d : ByteArray) (hd : d.size ≤ 1073741824) (k : Nat) (hk : d.size + 2 ≤ k) : impl_MailOk_1.f k u d = some (!addrB u d) := by
  unfold impl_MailOk_1.f
  rw [addr_tells u d hd k hk]
  rfl
def goodB (a : S32) : Bool := addrB a.f0 a.f1
set_option maxHeartbeats 1000000 in
set_option maxRecDepth 100000 in
theorem index_addr (A0 : Option Addr) (c0 : Nat) (l0 : List S32) (w : World) (hG : Laid w) (hr0 : Kd.C k32 w A0 l0.length l0) (hs : ∀ a ∈ l0, Tiny a) :
    Calls Tryz.prog 112 #[.slice A0 l0.length c0, .func (Fn.func 71) #[] #[]] w fun e w' => ∃ v : Int, e = .returned (.int .i64 v) ∧ (decide (0 ≤ v) = !l0.all goodB) ∧ Below w.heap.size w w' := by
  have hm := hr0.2.1
  have HR0 := Aside0.mk hr0
  have HS := Aside0.mk hs
  have HG := Aside0.mk hG
  clear hr0 hs hG
  go_enter Tryz.func112, Tryz.ntmps112
  go_wp2
  go_loopw [8] (fun i wr => ∃ k : Nat, k ≤ l0.length ∧ i = .int .i64 k ∧ Aside0 ((l0.take k).all goodB = true) ∧ Aside0 (Below w.heap.size w wr)) (fun i _ => l0.length - (intOf i).toNat)
  case atStart => exact ⟨0, by omega, rfl, ⟨by simp⟩, ⟨Below.refl _ _⟩⟩
  case round =>
    obtain ⟨k, hk, rfl, HA, HB⟩ := hrel
    by_cases hlt : k < l0.length
    · obtain ⟨ad, e, hx0, hx1⟩ := at_T32 HR0.out k (by omega) (by omega)
      cases e
      rw [rd_T32_mem _ _ hlt, Int.toNat_natCast] at hx0 hx1
      replace hx0 := (HB.out.cell (World.block_lt_of_cell? w _ hx0)).trans hx0
      replace hx1 := (HB.out.cell (World.block_lt_of_cell? w _ hx1)).trans hx1
      have hu32 := Tryz.underlying32
      have hz := HS.out _ (List.getElem_mem hlt)
      have ht : l0.take (k + 1) = l0.take k ++ [l0[k]] := List.take_succ_eq_append_getElem hlt
      have hmem := List.getElem_mem hlt
      have HL := Aside0.mk (bad_tells l0[k].f0 l0[k].f1 hz.2 _ (Nat.le_refl _))
      by_cases hb : goodB l0[k] = true
      · have hb' : addrB l0[k].f0 l0[k].f1 = true := hb
        rw [hb'] at HL
        have HN := Aside0.mk (show (l0.take (k + 1)).all goodB = true by rw [ht, List.all_append, HA.out]; simp [hb])
        clear ht hz hb hb'
        generalize l0[k] = a at *
        go_wp2_with (go_at_call 71; (with_reducible refine (impl_MailOk_1.calls _ _ _ (!true) _ (HG.out.below HB.out) HL.out).mono ?_); rintro e w1 ⟨rfl, hb⟩; have HB1 := Aside0.mk hb; clear hb)
        go_roundw
        case rel => exact ⟨k + 1, by omega, by go_num, HN, ⟨HB.out.trans (HB1.out.mono HB.out.size)⟩⟩
        case measure => simp [intOf]; omega
      · have hb := Bool.eq_false_iff.2 hb
        have hb' : addrB l0[k].f0 l0[k].f1 = false := hb
        rw [hb'] at HL
        have HN := Aside0.mk (show l0.all goodB = false by
          rw [Bool.eq_false_iff]
          intro h
          have := (List.all_eq_true.1 h) _ hmem
          rw [hb] at this
          cases this)
        clear ht hz hb hb' hmem
        generalize l0[k] = a at *
        go_wp2_with (go_at_call 71; (with_reducible refine (impl_MailOk_1.calls _ _ _ (!false) _ (HG.out.below HB.out) HL.out).mono ?_); rintro e w1 ⟨rfl, hb⟩; have HB1 := Aside0.mk hb; clear hb)
        go_ret
        exact ⟨_, rfl, by rw [HN.out]; simp, HB.out.trans (HB1.out.mono HB.out.size)⟩
    · obtain rfl : k = l0.length := by omega
      have HN := Aside0.mk (show l0.all goodB = true by have := HA.out; rwa [List.take_length] at this)
      clear hlt
      go_wp2
      go_ret
      exact ⟨_, rfl, by rw [HN.out]; rfl, HB.out⟩
set_option maxHeartbeats 1000000 in
set_option maxRecDepth 100000 in
theorem contains_addr (A0 : Option Addr) (c0 : Nat) (l0 : List S32) (w : World) (hG : Laid w) (hr0 : Kd.C k32 w A0 l0.length l0) (hs : ∀ a ∈ l0, Tiny a) :
    Calls Tryz.prog 73 #[.slice A0 l0.length c0, .func (Fn.func 71) #[] #[]] w fun e w' => e = .returned (.bool (!l0.all goodB)) ∧ Below w.heap.size w w' := by
  have HR0 := Aside0.mk hr0
  have HS := Aside0.mk hs
  have HG := Aside0.mk hG
  clear hr0 hs hG
  go_enter Tryz.func73, Tryz.ntmps73
  go_wp2_with (go_at_call 112; refine (index_addr A0 c0 l0 _ HG.out HR0.out HS.out).mono ?_; rintro e w' ⟨v, rfl, hv, hb⟩; have HB := Aside0.mk hb; clear hb)
  go_ret
  exact ⟨rfl, HB.out⟩
def Box (w : World) (u d : ByteArray) (v2 v3 : Value) (W : World) : Prop := W.heap[w.heap.size]? = some (.cells #[.string u, .string d, v2, v3] 35 (0, 0)) ∧ Below w.heap.size w W
theorem Box.step {w W W1 : World} {u d : ByteArray} {v2 v3 : Value} (h : Box w u d v2 v3 W) (hb : Below W.heap.size W W1) : Box w u d v2 v3 W1 := by
  have hlt : w.heap.size < W.heap.size := by
    rcases Nat.lt_or_ge w.heap.size W.heap.size with h' | h'
    · exact h'
    · have := h.1
      simp [Array.getElem?_eq_none h'] at this
  exact ⟨(hb.block _ hlt).trans h.1, h.2.trans (hb.mono (by omega))⟩
theorem Box.cells {w W : World} {u d : ByteArray} {v2 v3 : Value} (h : Box w u d v2 v3 W) : W.cell? ⟨w.heap.size, 0, none⟩ = some (.string u) ∧ W.cell? ⟨w.heap.size, 1, none⟩ = some (.string d) ∧ W.cell? ⟨w.heap.size, 2, none⟩ = some v2 ∧ W.cell? ⟨w.heap.size, 3, none⟩ = some v3 := by
  refine ⟨?_, ?_, ?_, ?_⟩ <;> (rw [Lib.cell_of_heap h.1]; rfl)
theorem Box.new (w : World) (u d : ByteArray) (v2 v3 : Value) : Box w u d v2 v3 (w.alloc (.cells #[.string u, .string d, v2, v3] 35)) := ⟨heap_alloc_new w _, (Below.refl _ _).alloc (Nat.le_refl _) _⟩
theorem all_tiny {ts : List S32} (h : ts.all (fun a => tinyB a.f0 && tinyB a.f1) = true) : ∀ a ∈ ts, Tiny a := fun a ha => by
  have := List.all_eq_true.1 h a ha
  rw [Bool.and_eq_true] at this
  exact ⟨of_decide_eq_true this.1, of_decide_eq_true this.2⟩
set_option maxHeartbeats 2000000 in
set_option maxRecDepth 100000 in
theorem impl_MailOk.calls (a0_0 : ByteArray) (a0_1 : ByteArray) (A0_2 : Option Addr) (c0_2 : Nat) (l0_2 : List (S32)) (A0_3 : Option Addr) (c0_3 : Nat) (l0_3 : List ByteArray) (r : Bool) (w : World) (hG : Laid w) (hr0_2 : Kd.C k32 w A0_2 l0_2.length l0_2) (_hc0_2 : l0_2.length ≤ c0_2) (hr0_3 : Kd.C Kd.string w A0_3 l0_3.length l0_3) (hc0_3 : l0_3.length ≤ c0_3) (h : impl_MailOk.f a0_0 a0_1 l0_2 l0_3 = some r) :
    Calls Tryz.prog 36 #[.agg #[.string a0_0, .string a0_1, .slice A0_2 l0_2.length c0_2, .slice A0_3 l0_3.length c0_3]] w fun e w' => e = .returned (.bool r) ∧ Below w.heap.size w w' := by
  unfold impl_MailOk.f at h
  split at h
  case isFalse => cases h
  case isTrue hs =>
  simp only [Bool.and_eq_true] at hs
  obtain ⟨⟨⟨_, hs1⟩, hs2⟩, hs3⟩ := hs
  injection h with h
  have HT2 := Aside0.mk (all_tiny hs2)
  have H3 := Aside0.mk (show impl_isBody.f l0_3 = some (bodyB l0_3) by
    unfold impl_isBody.f
    rw [if_pos]
    rw [List.all_eq_true] at hs3 ⊢
    intro x hx
    have := of_decide_eq_true (hs3 x hx)
    exact decide_eq_true (by omega))
  have HSE := Aside0.mk (sender_tells a0_0 a0_1 (of_decide_eq_true hs1) _ (Nat.le_refl _))
  clear hs1 hs2 hs3
  have HG := Aside0.mk hG
  have HR2 := Aside0.mk hr0_2
  have HR3 := Aside0.mk hr0_3
  have HC3 := Aside0.mk hc0_3
  have HW := Aside0.mk (show ∀ b : Bool, decide (1 ≤ l0_2.length ∧ l0_2.length ≤ 4) = b → impl_within.f (l0_2.length : Int) 1 4 = some b by
    intro b hb
    unfold impl_within.f
    by_cases g : 1 ≤ l0_2.length
    · rw [if_pos (by omega), ← hb]
      exact congrArg some (decide_eq_decide.2 (by omega))
    · rw [if_neg (by omega), ← hb, decide_eq_false (by omega)])
  have HB0 := Aside0.mk (Box.new w a0_0 a0_1 (.slice A0_2 l0_2.length c0_2) (.slice A0_3 l0_3.length c0_3))
  clear hG hr0_2 hr0_3 hc0_3
  have hu35 := Tryz.underlying35
  have hu32 := Tryz.underlying32
  unfold mailB at h
  cases b1 : (nullB a0_0 a0_1 || addrB a0_0 a0_1)
  · rw [b1] at h HSE
    simp only [Bool.false_and] at h
    subst h
    clear b1
    go_enter Tryz.func36, Tryz.ntmps36
    go_wp2_with (go_at_call 72; refine (impl_Addr_sender.calls _ _ _ false _ (HG.out.below HB0.out.2) HSE.out).mono ?_; rintro e w1 ⟨rfl, hb⟩; have HB1 := Aside0.mk (HB0.out.step hb); clear hb)
    go_ret
    exact ⟨rfl, HB1.out.2⟩
  rw [b1] at h HSE
  simp only [Bool.true_and] at h
  clear b1
  cases b2 : decide (1 ≤ l0_2.length ∧ l0_2.length ≤ 4)
  · have HW' := Aside0.mk (HW.out _ b2)
    rw [b2] at h
    simp only [Bool.false_and] at h
    subst h
    clear b2 HW
    go_enter Tryz.func36, Tryz.ntmps36
    go_wp2_with (first | (go_at_call 72; refine (impl_Addr_sender.calls _ _ _ true _ (HG.out.below HB0.out.2) HSE.out).mono ?_; rintro e w1 ⟨rfl, hb⟩; have HB1 := Aside0.mk (HB0.out.step hb); obtain ⟨_, _, kc2, kc3⟩ := HB1.out.cells; clear hb) | (go_at_call 33; (with_reducible refine (impl_within.calls _ 1 4 false _ HW'.out).mono ?_); rintro e w' ⟨rfl, ⟨nd, rfl⟩⟩))
    go_ret
    exact ⟨rfl, HB1.out.2.trans ((bel_drewN _ nd).mono HB1.out.2.size)⟩
  have HW' := Aside0.mk (HW.out _ b2)
  rw [b2] at h
  simp only [Bool.true_and] at h
  clear b2 HW
  cases b3 : l0_2.all goodB
  · have b3' : l0_2.all (fun a => addrB a.f0 a.f1) = false := b3
    rw [b3'] at h
    simp only [Bool.false_and] at h
    subst h
    have HA := Aside0.mk (fun W hG hr => contains_addr A0_2 c0_2 l0_2 W hG hr HT2.out)
    rw [b3] at HA
    clear b3 b3'
    go_enter Tryz.func36, Tryz.ntmps36
    go_wp2_with (first | (go_at_call 72; refine (impl_Addr_sender.calls _ _ _ true _ (HG.out.below HB0.out.2) HSE.out).mono ?_; rintro e w1 ⟨rfl, hb⟩; have HB1 := Aside0.mk (HB0.out.step hb); obtain ⟨_, _, kc2, kc3⟩ := HB1.out.cells; clear hb) | (go_at_call 33; (with_reducible refine (impl_within.calls _ 1 4 true _ HW'.out).mono ?_); rintro e w' ⟨rfl, ⟨nd, rfl⟩⟩; have HB2 := Aside0.mk (HB1.out.step (bel_drewN _ nd))) | (go_at_call 73; refine (HA.out _ (HG.out.below HB2.out.2) (Kd.C_below HR2.out HB2.out.2)).mono ?_; rintro e w3 ⟨rfl, hb⟩; have HB3 := Aside0.mk (HB2.out.step hb); clear hb))
    go_ret
    exact ⟨rfl, HB3.out.2⟩
  have b3' : l0_2.all (fun a => addrB a.f0 a.f1) = true := b3
  rw [b3'] at h
  simp only [Bool.true_and] at h
  have HA := Aside0.mk (fun W hG hr => contains_addr A0_2 c0_2 l0_2 W hG hr HT2.out)
  rw [b3] at HA
  clear b3 b3'
  have HD := Aside0.mk (fun W hr => distinct_calls A0_2 c0_2 l0_2 W hr HT2.out)
  cases b4 : apartB l0_2
  · rw [b4] at h HD
    simp only [Bool.false_and] at h
    subst h
    clear b4
    go_enter Tryz.func36, Tryz.ntmps36
    go_wp2_with (first | (go_at_call 72; refine (impl_Addr_sender.calls _ _ _ true _ (HG.out.below HB0.out.2) HSE.out).mono ?_; rintro e w1 ⟨rfl, hb⟩; have HB1 := Aside0.mk (HB0.out.step hb); obtain ⟨_, _, kc2, kc3⟩ := HB1.out.cells; clear hb) | (go_at_call 33; (with_reducible refine (impl_within.calls _ 1 4 true _ HW'.out).mono ?_); rintro e w' ⟨rfl, ⟨nd, rfl⟩⟩; have HB2 := Aside0.mk (HB1.out.step (bel_drewN _ nd))) | (go_at_call 73; refine (HA.out _ (HG.out.below HB2.out.2) (Kd.C_below HR2.out HB2.out.2)).mono ?_; rintro e w3 ⟨rfl, hb⟩; have HB3 := Aside0.mk (HB2.out.step hb); obtain ⟨_, _, kc2', kc3'⟩ := HB3.out.cells; clear hb) | (go_at_call 74; refine (HD.out _ (Kd.C_below HR2.out HB3.out.2)).mono ?_; rintro e w4 ⟨rfl, hb⟩; have HB4 := Aside0.mk (HB3.out.step hb); clear hb))
    go_ret
    exact ⟨rfl, HB4.out.2⟩
  rw [b4] at h HD
  simp only [Bool.true_and] at h
  subst h
  clear b4
  cases b5 : bodyB l0_3
  all_goals
    rw [b5] at H3

    clear b5
    go_enter Tryz.func36, Tryz.ntmps36
    go_wp2_with (first | (go_at_call 72; refine (impl_Addr_sender.calls _ _ _ true _ (HG.out.below HB0.out.2) HSE.out).mono ?_; rintro e w1 ⟨rfl, hb⟩; have HB1 := Aside0.mk (HB0.out.step hb); obtain ⟨_, _, kc2, kc3⟩ := HB1.out.cells; clear hb) | (go_at_call 33; (with_reducible refine (impl_within.calls _ 1 4 true _ HW'.out).mono ?_); rintro e w' ⟨rfl, ⟨nd, rfl⟩⟩; have HB2 := Aside0.mk (HB1.out.step (bel_drewN _ nd))) | (go_at_call 73; refine (HA.out _ (HG.out.below HB2.out.2) (Kd.C_below HR2.out HB2.out.2)).mono ?_; rintro e w3 ⟨rfl, hb⟩; have HB3 := Aside0.mk (HB2.out.step hb); obtain ⟨_, _, kc2', kc3'⟩ := HB3.out.cells; clear hb) | (go_at_call 74; refine (HD.out _ (Kd.C_below HR2.out HB3.out.2)).mono ?_; rintro e w4 ⟨rfl, hb⟩; have HB4 := Aside0.mk (HB3.out.step hb); obtain ⟨_, _, kc2'', kc3''⟩ := HB4.out.cells; clear hb) | (go_at_call 75; refine (impl_isBody.calls A0_3 c0_3 l0_3 _ _ (Kd.C_below HR3.out HB4.out.2) HC3.out H3.out).mono ?_; rintro e w' ⟨rfl, ⟨nd5, rfl⟩⟩))
    go_ret
    exact ⟨rfl, (HB4.out.step (bel_drewN _ nd5)).2⟩
end Go.Proofs.YtbncnjgflhoneaaGreatDoor.Hand
namespace Go.Proofs.YtbncnjgflhoneaaGreatDoor.F
open Go.RowKit Go.Proofs.YtbncnjgflhoneaaGreatDoor.Hand Go.Proofs.YtbncnjgflhoneaaGreatDoorW.PrintWords Go.Proofs.YtbncnjgflhoneaaGreatDoorW.PrintLast Go.Proofs.YtbncnjgflhoneaaGreatDoorW.PrintMore
attribute [local go_sem] max2_int min2_int max_two min_two max_three min_three max_four min_four
set_option linter.unusedVariables false
set_option linter.unusedSimpArgs false
def spec_l1In.f (a0 : Int) (a1 : Int) (a2 : Int) : Option (Bool) := if a0 ≥ a1 then (some (decide (a0 ≤ a2))) else (some false)
set_option maxHeartbeats 8000000 in
set_option maxRecDepth 100000 in
theorem spec_l1In.calls (a0 : Int) (a1 : Int) (a2 : Int) (r : Bool) (w : World) (h : spec_l1In.f a0 a1 a2 = some r) :
  Calls Tryz.prog 57 #[.int .i64 a0, .int .i64 a1, .int .i64 a2] w fun e w' => e = .returned (.bool r) ∧ Drawn0 w w' := by
 have H := h
 clear h
 unfold spec_l1In.f at H
 replace H := its_d_d H; rcases H with ⟨c4b0, H⟩ | ⟨c4b0, H⟩
 ·obtain rfl := Option.some.inj H
  go_enter Tryz.func57, Tryz.ntmps57
  go_wp2
  go_ret
  exact ⟨zs, zD⟩
 ·obtain rfl := Option.some.inj H
  go_enter Tryz.func57, Tryz.ntmps57
  go_wp2
  go_ret
  exact ⟨zs, zD⟩
def spec_l1Word.l0 : Nat → ByteArray → Int → Option (Bool)
 | 0, _, _ => none
 | k + 1, x0, x3 => if x3 < (x0.size : Int) then (if 0 ≤ x3 then (if (bt x0 x3) < 97 then (if (bt x0 x3) < 48 then (some false) else (if (bt x0 x3) > 57 then (some false) else (spec_l1Word.l0 k x0 (wrap64 (x3 + 1))))) else (if (bt x0 x3) > 122 then (if (bt x0 x3) < 48 then (some false) else (if (bt x0 x3) > 57 then (some false) else (spec_l1Word.l0 k x0 (wrap64 (x3 + 1))))) else (spec_l1Word.l0 k x0 (wrap64 (x3 + 1))))) else (none)) else ((spec_l1In.f (x0.size : Int) 1 8).bind fun t101 => (some t101))
def spec_l1Word.f (k : Nat) (a0 : ByteArray) : Option (Bool) := spec_l1Word.l0 k a0 0
theorem spec_l1Word.mono_l : ∀ k, (∀ y0 y1, LeO (spec_l1Word.l0 k y0 y1) (spec_l1Word.l0 (k + 1) y0 y1))
 | 0 => fun _ _ r h => by simp [spec_l1Word.l0] at h
 | k + 1 => by
  have ih0 := spec_l1Word.mono_l k
  ·intro y0 y1
   unfold spec_l1Word.l0
   repeat' with_reducible first | apply ih0 | exact LeO.refl _ | exact LeO.none _ | apply LeO.ite | refine LeO.bind ?_ fun _ => ?_
theorem spec_l1Word.mono : ∀ a0 k, LeO (spec_l1Word.f k a0) (spec_l1Word.f (k + 1) a0) := by
 intro a0 k
 have ih0 := spec_l1Word.mono_l k
 unfold spec_l1Word.f
 repeat' with_reducible first | apply ih0 | exact LeO.refl _ | exact LeO.none _ | apply LeO.ite | refine LeO.bind ?_ fun _ => ?_
set_option maxHeartbeats 8000000 in
set_option maxRecDepth 100000 in
theorem spec_l1Word.calls (k : Nat) (a0 : ByteArray) (r : Bool) (w : World) (h : spec_l1Word.f k a0 = some r) :
  Calls Tryz.prog 101 #[.string a0] w fun e w' => e = .returned (.bool r) ∧ Drawn0 w w' := by
 have H := h
 clear h
 unfold spec_l1Word.f at H
 have H' := Aside0.mk H
 clear H
 go_enter Tryz.func101, Tryz.ntmps101
 go_wp2
 go_loopg [3] k (fun kq v3 w' => ∃ (x3_1 : Int), v3 = .int .i64 x3_1 ∧ Aside0 (spec_l1Word.l0 kq a0 x3_1 = some r) ∧ Aside0 (kq ≤ k) ∧ Drawn0 w w')
 case atStart => exact ⟨(0), zs, H', ⟨Nat.le_refl _⟩, zD⟩
 case round =>
  clear H'
  obtain ⟨x3_1, rfl, HA, HK1, ⟨m1, rfl⟩⟩ := hrel
  cases gk with
  | zero => exact absurd HA.out (by simp [spec_l1Word.l0])
  | succ k1 =>
   have H := HA.out
   clear HA
   simp only [spec_l1Word.l0] at H
   replace H := its_d_d H; rcases H with ⟨c2b0, H⟩ | ⟨c2b0, H⟩
   ·replace H := itn_d H; obtain ⟨c3b0, H⟩ := H
    replace H := its_d_d H; rcases H with ⟨c5b0, H⟩ | ⟨c5b0, H⟩
    ·replace H := its_d_d H; rcases H with ⟨c7b0, H⟩ | ⟨c7b0, H⟩
     ·obtain rfl := Option.some.inj H
      have p4 : 0 ≤ (x3_1 : Int) := of_decide_eq_true za
      have q4 : x3_1 < (a0.size : Int) := of_decide_eq_true za
      have hx4 := bt_at a0 x3_1
      replace p4 := eq_true p4
      replace q4 := eq_true q4
      have p6 : 0 ≤ (x3_1 : Int) := of_decide_eq_true za
      have q6 : x3_1 < (a0.size : Int) := of_decide_eq_true za
      have hx6 := bt_at a0 x3_1
      replace p6 := eq_true p6
      replace q6 := eq_true q6
      go_wp2
      go_ret
      exact ⟨zs, zD⟩
     ·replace H := its_d_d H; rcases H with ⟨c9b0, H⟩ | ⟨c9b0, H⟩
      ·obtain rfl := Option.some.inj H
       have p4 : 0 ≤ (x3_1 : Int) := of_decide_eq_true za
       have q4 : x3_1 < (a0.size : Int) := of_decide_eq_true za
       have hx4 := bt_at a0 x3_1
       replace p4 := eq_true p4
       replace q4 := eq_true q4
       have p6 : 0 ≤ (x3_1 : Int) := of_decide_eq_true za
       have q6 : x3_1 < (a0.size : Int) := of_decide_eq_true za
       have hx6 := bt_at a0 x3_1
       replace p6 := eq_true p6
       replace q6 := eq_true q6
       have p8 : 0 ≤ (x3_1 : Int) := of_decide_eq_true za
       have q8 : x3_1 < (a0.size : Int) := of_decide_eq_true za
       have hx8 := bt_at a0 x3_1
       replace p8 := eq_true p8
       replace q8 := eq_true q8
       go_wp2
       go_ret
       exact ⟨zs, zD⟩
      ·have H' := Aside0.mk H
       clear H
       have p4 : 0 ≤ (x3_1 : Int) := of_decide_eq_true za
       have q4 : x3_1 < (a0.size : Int) := of_decide_eq_true za
       have hx4 := bt_at a0 x3_1
       replace p4 := eq_true p4
       replace q4 := eq_true q4
       have p6 : 0 ≤ (x3_1 : Int) := of_decide_eq_true za
       have q6 : x3_1 < (a0.size : Int) := of_decide_eq_true za
       have hx6 := bt_at a0 x3_1
       replace p6 := eq_true p6
       replace q6 := eq_true q6
       have p8 : 0 ≤ (x3_1 : Int) := of_decide_eq_true za
       have q8 : x3_1 < (a0.size : Int) := of_decide_eq_true za
       have hx8 := bt_at a0 x3_1
       replace p8 := eq_true p8
       replace q8 := eq_true q8
       go_wp2
       go_roundg k1
       case measure => have := HK1.out; omega
       case rel => exact ⟨(wrap64 (x3_1 + 1)), zs, H', ⟨by have := HK1.out; omega⟩, zD⟩
    ·replace H := its_d_d H; rcases H with ⟨c11b0, H⟩ | ⟨c11b0, H⟩
     ·replace H := its_d_d H; rcases H with ⟨c13b0, H⟩ | ⟨c13b0, H⟩
      ·obtain rfl := Option.some.inj H
       have p4 : 0 ≤ (x3_1 : Int) := of_decide_eq_true za
       have q4 : x3_1 < (a0.size : Int) := of_decide_eq_true za
       have hx4 := bt_at a0 x3_1
       replace p4 := eq_true p4
       replace q4 := eq_true q4
       have p10 : 0 ≤ (x3_1 : Int) := of_decide_eq_true za
       have q10 : x3_1 < (a0.size : Int) := of_decide_eq_true za
       have hx10 := bt_at a0 x3_1
       replace p10 := eq_true p10
       replace q10 := eq_true q10
       have p12 : 0 ≤ (x3_1 : Int) := of_decide_eq_true za
       have q12 : x3_1 < (a0.size : Int) := of_decide_eq_true za
       have hx12 := bt_at a0 x3_1
       replace p12 := eq_true p12
       replace q12 := eq_true q12
       go_wp2
       go_ret
       exact ⟨zs, zD⟩
      ·replace H := its_d_d H; rcases H with ⟨c15b0, H⟩ | ⟨c15b0, H⟩
       ·obtain rfl := Option.some.inj H
        have p4 : 0 ≤ (x3_1 : Int) := of_decide_eq_true za
        have q4 : x3_1 < (a0.size : Int) := of_decide_eq_true za
        have hx4 := bt_at a0 x3_1
        replace p4 := eq_true p4
        replace q4 := eq_true q4
        have p10 : 0 ≤ (x3_1 : Int) := of_decide_eq_true za
        have q10 : x3_1 < (a0.size : Int) := of_decide_eq_true za
        have hx10 := bt_at a0 x3_1
        replace p10 := eq_true p10
        replace q10 := eq_true q10
        have p12 : 0 ≤ (x3_1 : Int) := of_decide_eq_true za
        have q12 : x3_1 < (a0.size : Int) := of_decide_eq_true za
        have hx12 := bt_at a0 x3_1
        replace p12 := eq_true p12
        replace q12 := eq_true q12
        have p14 : 0 ≤ (x3_1 : Int) := of_decide_eq_true za
        have q14 : x3_1 < (a0.size : Int) := of_decide_eq_true za
        have hx14 := bt_at a0 x3_1
        replace p14 := eq_true p14
        replace q14 := eq_true q14
        go_wp2
        go_ret
        exact ⟨zs, zD⟩
       ·have H' := Aside0.mk H
        clear H
        have p4 : 0 ≤ (x3_1 : Int) := of_decide_eq_true za
        have q4 : x3_1 < (a0.size : Int) := of_decide_eq_true za
        have hx4 := bt_at a0 x3_1
        replace p4 := eq_true p4
        replace q4 := eq_true q4
        have p10 : 0 ≤ (x3_1 : Int) := of_decide_eq_true za
        have q10 : x3_1 < (a0.size : Int) := of_decide_eq_true za
        have hx10 := bt_at a0 x3_1
        replace p10 := eq_true p10
        replace q10 := eq_true q10
        have p12 : 0 ≤ (x3_1 : Int) := of_decide_eq_true za
        have q12 : x3_1 < (a0.size : Int) := of_decide_eq_true za
        have hx12 := bt_at a0 x3_1
        replace p12 := eq_true p12
        replace q12 := eq_true q12
        have p14 : 0 ≤ (x3_1 : Int) := of_decide_eq_true za
        have q14 : x3_1 < (a0.size : Int) := of_decide_eq_true za
        have hx14 := bt_at a0 x3_1
        replace p14 := eq_true p14
        replace q14 := eq_true q14
        go_wp2
        go_roundg k1
        case measure => have := HK1.out; omega
        case rel => exact ⟨(wrap64 (x3_1 + 1)), zs, H', ⟨by have := HK1.out; omega⟩, zD⟩
     ·have H' := Aside0.mk H
      clear H
      have p4 : 0 ≤ (x3_1 : Int) := of_decide_eq_true za
      have q4 : x3_1 < (a0.size : Int) := of_decide_eq_true za
      have hx4 := bt_at a0 x3_1
      replace p4 := eq_true p4
      replace q4 := eq_true q4
      have p10 : 0 ≤ (x3_1 : Int) := of_decide_eq_true za
      have q10 : x3_1 < (a0.size : Int) := of_decide_eq_true za
      have hx10 := bt_at a0 x3_1
      replace p10 := eq_true p10
      replace q10 := eq_true q10
      go_wp2
      go_roundg k1
      case measure => have := HK1.out; omega
      case rel => exact ⟨(wrap64 (x3_1 + 1)), zs, H', ⟨by have := HK1.out; omega⟩, zD⟩
   ·replace H := bnd H; obtain ⟨t101, A16, H⟩ := H
    obtain rfl := Option.some.inj H
    go_wp2_with (first | ((with_reducible refine gate_callee (f := 57) rfl ?_); refine gv 34 Tryz.func57 _ (spec_l1In.calls (w := _) (h := A16.out)) ?_; rintro w' ⟨nd, rfl⟩))
    go_ret
    exact ⟨zs, zD⟩
end Go.Proofs.YtbncnjgflhoneaaGreatDoor.F
namespace Go.Proofs.YtbncnjgflhoneaaGreatDoor.F
open Go.RowKit Go.Proofs.YtbncnjgflhoneaaGreatDoor.Hand Go.Proofs.YtbncnjgflhoneaaGreatDoorW.PrintWords Go.Proofs.YtbncnjgflhoneaaGreatDoorW.PrintLast Go.Proofs.YtbncnjgflhoneaaGreatDoorW.PrintMore
attribute [local go_sem] max2_int min2_int max_two min_two max_three min_three max_four min_four
set_option linter.unusedVariables false
set_option linter.unusedSimpArgs false
def spec_l2LineOk.l0 : Nat → ByteArray → Int → Option (Bool)
 | 0, _, _ => none
 | k + 1, x0, x3 => if x3 < (x0.size : Int) then (if 0 ≤ x3 then (if (bt x0 x3) < 32 then (some false) else (if (bt x0 x3) > 126 then (some false) else (spec_l2LineOk.l0 k x0 (wrap64 (x3 + 1))))) else (none)) else (some (decide ((x0.size : Int) ≤ 40)))
def spec_l2LineOk.f (k : Nat) (a0 : ByteArray) : Option (Bool) := spec_l2LineOk.l0 k a0 0
theorem spec_l2LineOk.mono_l : ∀ k, (∀ y0 y1, LeO (spec_l2LineOk.l0 k y0 y1) (spec_l2LineOk.l0 (k + 1) y0 y1))
 | 0 => fun _ _ r h => by simp [spec_l2LineOk.l0] at h
 | k + 1 => by
  have ih0 := spec_l2LineOk.mono_l k
  ·intro y0 y1
   unfold spec_l2LineOk.l0
   repeat' with_reducible first | apply ih0 | exact LeO.refl _ | exact LeO.none _ | apply LeO.ite | refine LeO.bind ?_ fun _ => ?_
theorem spec_l2LineOk.mono : ∀ a0 k, LeO (spec_l2LineOk.f k a0) (spec_l2LineOk.f (k + 1) a0) := by
 intro a0 k
 have ih0 := spec_l2LineOk.mono_l k
 unfold spec_l2LineOk.f
 repeat' with_reducible first | apply ih0 | exact LeO.refl _ | exact LeO.none _ | apply LeO.ite | refine LeO.bind ?_ fun _ => ?_
set_option maxHeartbeats 8000000 in
set_option maxRecDepth 100000 in
theorem spec_l2LineOk.calls (k : Nat) (a0 : ByteArray) (r : Bool) (w : World) (h : spec_l2LineOk.f k a0 = some r) :
  Calls Tryz.prog 134 #[.string a0] w fun e w' => e = .returned (.bool r) ∧ Drawn0 w w' := by
 have H := h
 clear h
 unfold spec_l2LineOk.f at H
 have H' := Aside0.mk H
 clear H
 go_enter Tryz.func134, Tryz.ntmps134
 go_wp2
 go_loopg [3] k (fun kq v3 w' => ∃ (x3_1 : Int), v3 = .int .i64 x3_1 ∧ Aside0 (spec_l2LineOk.l0 kq a0 x3_1 = some r) ∧ Aside0 (kq ≤ k) ∧ Drawn0 w w')
 case atStart => exact ⟨(0), zs, H', ⟨Nat.le_refl _⟩, zD⟩
 case round =>
  clear H'
  obtain ⟨x3_1, rfl, HA, HK1, ⟨m1, rfl⟩⟩ := hrel
  cases gk with
  | zero => exact absurd HA.out (by simp [spec_l2LineOk.l0])
  | succ k1 =>
   have H := HA.out
   clear HA
   simp only [spec_l2LineOk.l0] at H
   replace H := its_d_d H; rcases H with ⟨c2b0, H⟩ | ⟨c2b0, H⟩
   ·replace H := itn_d H; obtain ⟨c3b0, H⟩ := H
    replace H := its_d_d H; rcases H with ⟨c5b0, H⟩ | ⟨c5b0, H⟩
    ·obtain rfl := Option.some.inj H
     have p4 : 0 ≤ (x3_1 : Int) := of_decide_eq_true za
     have q4 : x3_1 < (a0.size : Int) := of_decide_eq_true za
     have hx4 := bt_at a0 x3_1
     replace p4 := eq_true p4
     replace q4 := eq_true q4
     go_wp2
     go_ret
     exact ⟨zs, zD⟩
    ·replace H := its_d_d H; rcases H with ⟨c7b0, H⟩ | ⟨c7b0, H⟩
     ·obtain rfl := Option.some.inj H
      have p4 : 0 ≤ (x3_1 : Int) := of_decide_eq_true za
      have q4 : x3_1 < (a0.size : Int) := of_decide_eq_true za
      have hx4 := bt_at a0 x3_1
      replace p4 := eq_true p4
      replace q4 := eq_true q4
      have p6 : 0 ≤ (x3_1 : Int) := of_decide_eq_true za
      have q6 : x3_1 < (a0.size : Int) := of_decide_eq_true za
      have hx6 := bt_at a0 x3_1
      replace p6 := eq_true p6
      replace q6 := eq_true q6
      go_wp2
      go_ret
      exact ⟨zs, zD⟩
     ·have H' := Aside0.mk H
      clear H
      have p4 : 0 ≤ (x3_1 : Int) := of_decide_eq_true za
      have q4 : x3_1 < (a0.size : Int) := of_decide_eq_true za
      have hx4 := bt_at a0 x3_1
      replace p4 := eq_true p4
      replace q4 := eq_true q4
      have p6 : 0 ≤ (x3_1 : Int) := of_decide_eq_true za
      have q6 : x3_1 < (a0.size : Int) := of_decide_eq_true za
      have hx6 := bt_at a0 x3_1
      replace p6 := eq_true p6
      replace q6 := eq_true q6
      go_wp2
      go_roundg k1
      case measure => have := HK1.out; omega
      case rel => exact ⟨(wrap64 (x3_1 + 1)), zs, H', ⟨by have := HK1.out; omega⟩, zD⟩
   ·obtain rfl := Option.some.inj H
    go_wp2
    go_ret
    exact ⟨zs, zD⟩
def spec_l2BodyOk.l0 : Nat → List ByteArray → Int → Option (Bool)
 | 0, _, _ => none
 | k + 1, x0, x3 => if x3 < (x0.length : Int) then (if 0 ≤ x3 then ((spec_l2LineOk.f k (rdOf ByteArray.empty x0 x3)).bind fun t102 => (if t102 = true then (spec_l2BodyOk.l0 k x0 (wrap64 (x3 + 1))) else (some false))) else (none)) else (some (decide ((x0.length : Int) ≤ 12)))
def spec_l2BodyOk.f (k : Nat) (l0 : List ByteArray) : Option (Bool) := spec_l2BodyOk.l0 k l0 0
theorem spec_l2BodyOk.mono_l : ∀ k, (∀ y0 y1, LeO (spec_l2BodyOk.l0 k y0 y1) (spec_l2BodyOk.l0 (k + 1) y0 y1))
 | 0 => fun _ _ r h => by simp [spec_l2BodyOk.l0] at h
 | k + 1 => by
  have ih0 := spec_l2BodyOk.mono_l k
  ·intro y0 y1
   unfold spec_l2BodyOk.l0
   repeat' with_reducible first | apply ih0 | apply spec_l2LineOk.mono | exact LeO.refl _ | exact LeO.none _ | apply LeO.ite | refine LeO.bind ?_ fun _ => ?_
theorem spec_l2BodyOk.mono : ∀ a0 k, LeO (spec_l2BodyOk.f k a0) (spec_l2BodyOk.f (k + 1) a0) := by
 intro a0 k
 have ih0 := spec_l2BodyOk.mono_l k
 unfold spec_l2BodyOk.f
 repeat' with_reducible first | apply ih0 | apply spec_l2LineOk.mono | exact LeO.refl _ | exact LeO.none _ | apply LeO.ite | refine LeO.bind ?_ fun _ => ?_
set_option maxHeartbeats 8000000 in
set_option maxRecDepth 100000 in
theorem spec_l2BodyOk.calls (k : Nat) (A0 : Option Addr) (c0 : Nat) (l0 : List ByteArray) (r : Bool) (w : World) (hr0 : Kd.C Kd.string w A0 l0.length l0) (hc0 : l0.length ≤ c0) (h : spec_l2BodyOk.f k l0 = some r) :
  Calls Tryz.prog 100 #[.slice A0 l0.length c0] w fun e w' => e = .returned (.bool r) ∧ Drawn0 w w' := by
 have HR0 := Aside0.mk hr0
 have HC0 := Aside0.mk hc0
 clear hr0 hc0
 have H := h
 clear h
 unfold spec_l2BodyOk.f at H
 have H' := Aside0.mk H
 clear H
 go_enter Tryz.func100, Tryz.ntmps100
 go_wp2
 go_loopg [3] k (fun kq v3 w' => ∃ (x3_1 : Int), v3 = .int .i64 x3_1 ∧ Aside0 (spec_l2BodyOk.l0 kq l0 x3_1 = some r) ∧ Aside0 (kq ≤ k) ∧ Drawn0 w w')
 case atStart => exact ⟨(0), zs, H', ⟨Nat.le_refl _⟩, zD⟩
 case round =>
  clear H'
  obtain ⟨x3_1, rfl, HA, HK1, ⟨m1, rfl⟩⟩ := hrel
  cases gk with
  | zero => exact absurd HA.out (by simp [spec_l2BodyOk.l0])
  | succ k1 =>
   have H := HA.out
   clear HA
   simp only [spec_l2BodyOk.l0] at H
   replace H := its_d_d H; rcases H with ⟨c2b0, H⟩ | ⟨c2b0, H⟩
   ·replace H := itn_d H; obtain ⟨c3b0, H⟩ := H
    replace H := bnd H; obtain ⟨t102, A4, H⟩ := H
    replace H := itb H; rcases H with ⟨rfl, H⟩ | ⟨rfl, H⟩
    ·have H' := Aside0.mk H
     clear H
     have p101 : 0 ≤ (x3_1 : Int) := of_decide_eq_true za
     have q101 : x3_1 < (l0.length : Int) := of_decide_eq_true za
     obtain ⟨ad101, e101, hx101_0⟩ := Kd.at_string HR0.out x3_1 p101 q101
     cases e101
     replace p101 := eq_true p101
     replace q101 := eq_true q101
     go_wp2_with (first | ((with_reducible refine gate_callee (f := 134) rfl ?_); refine gv 14 Tryz.func134 _ (spec_l2LineOk.calls (w := _) (h := A4.out)) ?_; rintro w' ⟨nd, rfl⟩))
     go_roundg k1
     case measure => have := HK1.out; omega
     case rel => exact ⟨(wrap64 (x3_1 + 1)), zs, H', ⟨by have := HK1.out; omega⟩, zD⟩
    ·obtain rfl := Option.some.inj H
     have p101 : 0 ≤ (x3_1 : Int) := of_decide_eq_true za
     have q101 : x3_1 < (l0.length : Int) := of_decide_eq_true za
     obtain ⟨ad101, e101, hx101_0⟩ := Kd.at_string HR0.out x3_1 p101 q101
     cases e101
     replace p101 := eq_true p101
     replace q101 := eq_true q101
     go_wp2_with (first | ((with_reducible refine gate_callee (f := 134) rfl ?_); refine gv 14 Tryz.func134 _ (spec_l2LineOk.calls (w := _) (h := A4.out)) ?_; rintro w' ⟨nd, rfl⟩))
     go_ret
     exact ⟨zs, zD⟩
   ·obtain rfl := Option.some.inj H
    go_wp2
    go_ret
    exact ⟨zs, zD⟩
end Go.Proofs.YtbncnjgflhoneaaGreatDoor.F
namespace Go.Proofs.YtbncnjgflhoneaaGreatDoor.F
open Go.RowKit Go.Proofs.YtbncnjgflhoneaaGreatDoor.Hand Go.Proofs.YtbncnjgflhoneaaGreatDoorW.PrintWords Go.Proofs.YtbncnjgflhoneaaGreatDoorW.PrintLast Go.Proofs.YtbncnjgflhoneaaGreatDoorW.PrintMore
attribute [local go_sem] max2_int min2_int max_two min_two max_three min_three max_four min_four
set_option linter.unusedVariables false
set_option linter.unusedSimpArgs false
def spec_l1Null.f (a0_0 : ByteArray) (a0_1 : ByteArray) : Option (Bool) := if a0_0.toList = ([] : List UInt8) then (some (a0_1.toList == ([] : List UInt8))) else (some false)
set_option maxHeartbeats 8000000 in
set_option maxRecDepth 100000 in
theorem spec_l1Null.calls (a0_0 : ByteArray) (a0_1 : ByteArray) (r : Bool) (w : World) (h : spec_l1Null.f a0_0 a0_1 = some r) :
  Calls Tryz.prog 55 #[.agg #[.string a0_0, .string a0_1]] w fun e w' => e = .returned (.bool r) ∧ Below w.heap.size w w' := by
 have hu32 := Tryz.underlying32
 have HB := Aside0.mk (Below.refl w.heap.size w)
 have H := h
 clear h
 unfold spec_l1Null.f at H
 replace H := its_qn_qn H; rcases H with ⟨c2b0, c2b1, H⟩ | ⟨c2b0, c2b1, H⟩
 ·obtain rfl := Option.some.inj H
  go_enter Tryz.func55, Tryz.ntmps55
  go_wp2_with (first | ((with_reducible refine gate_dst (N := 1) rfl ?_); refine bx (cs := #[.string a0_0, .string a0_1]) (t := 32) ?_; intro gb101 hg w3 hbox hb; have BK101 := Aside0.mk (hbox); have GW101 := gS hg; have GE101 := gS hg; replace HB := bS hb; clear hb hbox hg; obtain ⟨hcz4_0, hcz4_1⟩ := cz2 BK101.out; obtain ⟨hfz4_0, hfz4_1⟩ := fz2 BK101.out))
  go_ret
  exact ⟨zr, zB⟩
 ·obtain rfl := Option.some.inj H
  go_enter Tryz.func55, Tryz.ntmps55
  go_wp2_with (first | ((with_reducible refine gate_dst (N := 1) rfl ?_); refine bx (cs := #[.string a0_0, .string a0_1]) (t := 32) ?_; intro gb101 hg w5 hbox hb; have BK101 := Aside0.mk (hbox); have GW101 := gS hg; have GE101 := gS hg; replace HB := bS hb; clear hb hbox hg; obtain ⟨hcz6_0, hcz6_1⟩ := cz2 BK101.out; obtain ⟨hfz6_0, hfz6_1⟩ := fz2 BK101.out))
  go_ret
  exact ⟨zr, zB⟩
end Go.Proofs.YtbncnjgflhoneaaGreatDoor.F
namespace Go.Proofs.YtbncnjgflhoneaaGreatDoor.Hand
open Go.RowKit Go.Proofs.YtbncnjgflhoneaaGreatDoor.F Go.Proofs.YtbncnjgflhoneaaGreatDoorW.PrintWords Go.Proofs.YtbncnjgflhoneaaGreatDoorW.PrintLast Go.Proofs.YtbncnjgflhoneaaGreatDoorW.PrintMore
theorem Ev.exact {α : Type} {g : Nat → Option α} {r : α} (K : Nat) (h : ∀ k, K ≤ k → g k = some r) : Ev g r := ⟨K, h⟩
theorem Ev.call {α β : Type} {g : Nat → Option α} {f : Nat → α → Option β} {h : Nat → Option β} {a : α} {r : β} (hg : Ev g a) (hf : ∀ n, f n a = h n) (hh : Ev h r) : Ev (fun n => (g n).bind (f n)) r := Ev.bind hg (Ev.congr hf hh)
theorem in_tells (a b c : Int) : spec_l1In.f a b c = some (decide (b ≤ a ∧ a ≤ c)) := by
  unfold spec_l1In.f
  by_cases g : a ≥ b
  · rw [if_pos g]
    exact congrArg some (decide_eq_decide.2 (by omega))
  · rw [if_neg g, decide_eq_false (by omega)]
theorem within_tells (a b c : Int) : impl_within.f a b c = some (decide (b ≤ a ∧ a ≤ c)) := by
  unfold impl_within.f
  by_cases g : a ≥ b
  · rw [if_pos g]
    exact congrArg some (decide_eq_decide.2 (by omega))
  · rw [if_neg g, decide_eq_false (by omega)]
theorem letterB_eq (c : UInt8) : letterB c = ((decide (97 ≤ c.toNat) && decide (c.toNat ≤ 122)) || (decide (48 ≤ c.toNat) && decide (c.toNat ≤ 57))) := rfl
theorem word_from (s : ByteArray) (hs : s.size ≤ 1099511627776) : ∀ (d i k : Nat), s.size = i + d → d < k → spec_l1Word.l0 k s (i : Int) = some ((s.data.toList.drop i).all letterB && decide (1 ≤ s.size ∧ s.size ≤ 8)) := by
  intro d
  induction d with
  | zero =>
    intro i k hi hk
    obtain ⟨k, rfl⟩ : ∃ m, k = m + 1 := ⟨k - 1, by omega⟩
    rw [spec_l1Word.l0, if_neg (by omega), List.drop_eq_nil_of_le (by rw [data_length]; omega), in_tells, Option.bind_some, List.all_nil, Bool.true_and]
    exact congrArg some (decide_eq_decide.2 (by omega))
  | succ d ih =>
    intro i k hi hk
    obtain ⟨k, rfl⟩ : ∃ m, k = m + 1 := ⟨k - 1, by omega⟩
    have hl : i < s.data.toList.length := by rw [data_length]; omega
    have h2 := ih (i + 1) k (by omega) (by omega)
    rw [spec_l1Word.l0, if_pos (by omega), if_pos (by omega), bt_get s i hl, List.drop_eq_getElem_cons hl, List.all_cons, letterB_eq, wrapIn (x := (i : Int) + 1) (by omega) (by omega), show ((i : Int) + 1) = ((i + 1 : Nat) : Int) by omega, h2]
    generalize (s.data.toList[i]).toNat = c
    by_cases a : (c : Int) < 97
    · rw [if_pos a, decide_eq_false (p := 97 ≤ c) (by omega), Bool.false_and, Bool.false_or]
      by_cases b : (c : Int) < 48
      · rw [if_pos b, decide_eq_false (p := 48 ≤ c) (by omega)]; rfl
      · rw [if_neg b, decide_eq_true (p := 48 ≤ c) (by omega)]
        by_cases e : (c : Int) > 57
        · rw [if_pos e, decide_eq_false (p := c ≤ 57) (by omega)]; rfl
        · rw [if_neg e, decide_eq_true (p := c ≤ 57) (by omega)]; rfl
    · rw [if_neg a, decide_eq_true (p := 97 ≤ c) (by omega)]
      by_cases b : (c : Int) > 122
      · rw [if_pos b, if_neg (by omega), if_pos (by omega), decide_eq_false (p := c ≤ 122) (by omega), decide_eq_false (p := c ≤ 57) (by omega), Bool.and_false, Bool.and_false]; rfl
      · rw [if_neg b, decide_eq_true (p := c ≤ 122) (by omega)]; rfl
theorem word_tells (s : ByteArray) (hs : s.size ≤ 1099511627776) : Ev (fun k => spec_l1Word.f k s) (labelB s) := by
  refine Ev.exact (s.size + 1) fun k hk => ?_
  have h := word_from s hs s.size 0 k (by omega) (by omega)
  unfold labelB
  rw [Bool.and_comm]
  exact h
theorem sline_from (s : ByteArray) (hs : s.size ≤ 1099511627776) : ∀ (d i k : Nat), s.size = i + d → d < k → spec_l2LineOk.l0 k s (i : Int) = some ((s.data.toList.drop i).all signB && decide (s.size ≤ 40)) := by
  intro d
  induction d with
  | zero =>
    intro i k hi hk
    obtain ⟨k, rfl⟩ : ∃ m, k = m + 1 := ⟨k - 1, by omega⟩
    rw [spec_l2LineOk.l0, if_neg (by omega), List.drop_eq_nil_of_le (by rw [data_length]; omega), List.all_nil, Bool.true_and]
    exact congrArg some (decide_eq_decide.2 (by omega))
  | succ d ih =>
    intro i k hi hk
    obtain ⟨k, rfl⟩ : ∃ m, k = m + 1 := ⟨k - 1, by omega⟩
    have hl : i < s.data.toList.length := by rw [data_length]; omega
    rw [spec_l2LineOk.l0, if_pos (by omega), if_pos (by omega), bt_get s i hl, List.drop_eq_getElem_cons hl, List.all_cons]
    have h1 : signB s.data.toList[i] = (decide (32 ≤ (s.data.toList[i]).toNat) && decide ((s.data.toList[i]).toNat ≤ 126)) := rfl
    by_cases a : ((s.data.toList[i]).toNat : Int) < 32
    · rw [if_pos a, h1, decide_eq_false (by omega)]
      rfl
    rw [if_neg a]
    by_cases b : ((s.data.toList[i]).toNat : Int) > 126
    · rw [if_pos b, h1, decide_eq_false (p := (s.data.toList[i]).toNat ≤ 126) (by omega), Bool.and_false]
      rfl
    rw [if_neg b, h1, decide_eq_true (by omega), decide_eq_true (by omega), wrapIn (by omega) (by omega)]
    exact ih (i + 1) k (by omega) (by omega)
theorem sline_tells (s : ByteArray) (hs : s.size ≤ 1099511627776) : Ev (fun k => spec_l2LineOk.f k s) (lineB s) :=
  Ev.exact (s.size + 1) fun k hk => sline_from s hs s.size 0 k (by omega) (by omega)
theorem sbody_from (l : List ByteArray) (hl : l.length ≤ 1099511627776) (hs : ∀ s ∈ l, s.size ≤ 1099511627776) : ∀ (d i : Nat), l.length = i + d → Ev (fun k => spec_l2BodyOk.l0 k l (i : Int)) ((l.drop i).all lineB && decide (l.length ≤ 12)) := by
  intro d
  induction d with
  | zero =>
    intro i hi
    refine Ev.step (f := fun _ => some (decide ((l.length : Int) ≤ 12))) (fun k => by rw [spec_l2BodyOk.l0, if_neg (by omega)]) ?_
    rw [List.drop_eq_nil_of_le (by omega), List.all_nil, Bool.true_and, show decide ((l.length : Int) ≤ 12) = decide (l.length ≤ 12) from decide_eq_decide.2 (by omega)]
    exact Ev.now _
  | succ d ih =>
    intro i hi
    have hlt : i < l.length := by omega
    refine Ev.step (f := fun k => (spec_l2LineOk.f k l[i]).bind fun t => if t = true then spec_l2BodyOk.l0 k l ((i + 1 : Nat) : Int) else some false)
      (fun k => by rw [spec_l2BodyOk.l0, if_pos (by omega), if_pos (by omega), rdOf_mem _ _ _ hlt, wrapIn (x := (i : Int) + 1) (by omega) (by omega)]; rfl) ?_
    rw [List.drop_eq_getElem_cons hlt, List.all_cons]
    have h1 := sline_tells l[i] (hs _ (List.getElem_mem hlt))
    cases hb : lineB l[i]
    · rw [hb] at h1
      exact Ev.call h1 (h := fun _ => some false) (fun n => by rw [if_neg (by decide)]) (Ev.now _)
    · rw [hb] at h1
      rw [Bool.true_and]
      exact Ev.call h1 (fun n => by rw [if_pos rfl]) (ih (i + 1) (by omega))
theorem sbody_tells (l : List ByteArray) (hl : l.length ≤ 1099511627776) (hs : ∀ s ∈ l, s.size ≤ 1099511627776) : Ev (fun k => spec_l2BodyOk.f k l) (bodyB l) := by
  have h := sbody_from l hl hs l.length 0 (by omega)
  unfold bodyB
  rw [Bool.and_comm]
  exact h
theorem snull_tells (u d : ByteArray) : spec_l1Null.f u d = some (nullB u d) := by
  unfold spec_l1Null.f nullB
  by_cases h : u.toList = []
  · rw [if_pos h, h]; rfl
  · rw [if_neg h, beq_eq_false_iff_ne.2 h]; rfl
end Go.Proofs.YtbncnjgflhoneaaGreatDoor.Hand
namespace Go.Proofs.YtbncnjgflhoneaaGreatDoor.F
open Go.RowKit Go.Proofs.YtbncnjgflhoneaaGreatDoor.Hand Go.Proofs.YtbncnjgflhoneaaGreatDoorW.PrintWords Go.Proofs.YtbncnjgflhoneaaGreatDoorW.PrintLast Go.Proofs.YtbncnjgflhoneaaGreatDoorW.PrintMore
attribute [local go_sem] max2_int min2_int max_two min_two max_three min_three max_four min_four
set_option linter.unusedVariables false
set_option linter.unusedSimpArgs false

mutual
def spec_l1Cut.l0 : Nat → ByteArray → Int → Int → List ByteArray → Int → Int → Option (List ByteArray)
 | 0, _, _, _, _, _, _ => none
 | k + 1, x0, x1, x2, x7, x8, x9 => if x9 < (x0.size : Int) then (spec_l1Cut.j1 k x0 x1 x2 x7 x8 x9 (decide ((x7.length : Int) < x2))) else (spec_l1Cut.j1 k x0 x1 x2 x7 x8 x9 false)
def spec_l1Cut.j1 : Nat → ByteArray → Int → Int → List ByteArray → Int → Int → Bool → Option (List ByteArray)
 | 0, _, _, _, _, _, _, _ => none
 | k + 1, x0, x1, x2, x7, x8, x9, x20 => if x20 = true then (if 0 ≤ x9 then (if x9 < (x0.size : Int) then (if (bt x0 x9) = x1 then (if 0 ≤ x8 then (if x8 ≤ x9 then (if x9 ≤ (x0.size : Int) then (if x7.length < 8796093022208 then (spec_l1Cut.l0 k x0 x1 x2 (x7 ++ [x0.extract (x8 : Int).toNat (x9 : Int).toNat]) (wrap64 (x9 + 1)) (wrap64 (x9 + 1))) else (none)) else (none)) else (none)) else (none)) else (spec_l1Cut.l0 k x0 x1 x2 x7 x8 (wrap64 (x9 + 1)))) else (none)) else (none)) else (if 0 ≤ x8 then (if x8 ≤ (x0.size : Int) then (if x7.length < 8796093022208 then (some (x7 ++ [x0.extract (x8 : Int).toNat x0.size])) else (none)) else (none)) else (none))
end
def spec_l1Cut.f (k : Nat) (a0 : ByteArray) (a1 : Int) (a2 : Int) : Option (List ByteArray) := spec_l1Cut.l0 k a0 a1 a2 (([] : List ByteArray)) 0 0
theorem spec_l1Cut.mono_l : ∀ k, (∀ y0 y1 y2 y3 y4 y5, LeO (spec_l1Cut.l0 k y0 y1 y2 y3 y4 y5) (spec_l1Cut.l0 (k + 1) y0 y1 y2 y3 y4 y5)) ∧ (∀ y0 y1 y2 y3 y4 y5 y6, LeO (spec_l1Cut.j1 k y0 y1 y2 y3 y4 y5 y6) (spec_l1Cut.j1 (k + 1) y0 y1 y2 y3 y4 y5 y6))
 | 0 => ⟨fun _ _ _ _ _ _ r h => by simp [spec_l1Cut.l0] at h, fun _ _ _ _ _ _ _ r h => by simp [spec_l1Cut.j1] at h⟩
 | k + 1 => by
  obtain ⟨ih0, ih1⟩ := spec_l1Cut.mono_l k
  refine ⟨?_, ?_⟩
  ·intro y0 y1 y2 y3 y4 y5
   unfold spec_l1Cut.l0
   repeat' with_reducible first | apply ih0 | apply ih1 | exact LeO.refl _ | exact LeO.none _ | apply LeO.ite | refine LeO.bind ?_ fun _ => ?_
  ·intro y0 y1 y2 y3 y4 y5 y6
   unfold spec_l1Cut.j1
   repeat' with_reducible first | apply ih0 | apply ih1 | exact LeO.refl _ | exact LeO.none _ | apply LeO.ite | refine LeO.bind ?_ fun _ => ?_
theorem spec_l1Cut.mono : ∀ a0 a1 a2 k, LeO (spec_l1Cut.f k a0 a1 a2) (spec_l1Cut.f (k + 1) a0 a1 a2) := by
 intro a0 a1 a2 k
 obtain ⟨ih0, ih1⟩ := spec_l1Cut.mono_l k
 unfold spec_l1Cut.f
 repeat' with_reducible first | apply ih0 | apply ih1 | exact LeO.refl _ | exact LeO.none _ | apply LeO.ite | refine LeO.bind ?_ fun _ => ?_
set_option maxHeartbeats 8000000 in
set_option maxRecDepth 100000 in
theorem spec_l1Cut.calls (k : Nat) (a0 : ByteArray) (a1 : Int) (a2 : Int) (r : List ByteArray) (w : World) (h : spec_l1Cut.f k a0 a1 a2 = some r) :
  Calls Tryz.prog 84 #[.string a0, .int .u8 a1, .int .i64 a2] w fun e w' => ∃ v0_ : Value, e = .returned (v0_) ∧ Kd.R Kd.string 9 w' w.heap.size (fun _ => True) v0_ r ∧ Below w.heap.size w w' := by
 have HB := Aside0.mk (Below.refl w.heap.size w)
 have H := h
 clear h
 unfold spec_l1Cut.f at H
 first | (with_reducible replace H := bns H; obtain ⟨y101, Ny101, H⟩ := H) | (generalize hy_ : (([] : List ByteArray) : List ByteArray) = y101 at H; have Ny101 := Aside0.mk hy_.symm; clear hy_)
 have H' := Aside0.mk H
 clear H
 go_enter Tryz.func84, Tryz.ntmps84
 go_wp2_with (first | ((with_reducible refine gate_dst (N := 10) rfl ?_); (try (refine gate_guard (by rfl) ?_; dsimp only)); refine Kd.R_lit Kd.string _ 9 ?hg (N := 10) ?hd (xs := ([] : List ByteArray)) (inner := []) (ok := fun _ => True) (okp := fun _ => True) ?hr ?hp (fun _ hk => hk) trivial (Below.refl _ _) (Nat.le_refl _) (by simp) ?_; (case hd => rfl); (case hg => rfl); (case hr => first | (go_simp; done) | (go_simp; rfl)); (case hp => exact (Reps.none _ _)); intro v102 w4 ho5 hb hg_ hnew_; clear hg_ hnew_; (first | rw [← Ny101.out] at ho5 | (simp only [Int.reduceToNat] at ho5; rw [← Ny101.out] at ho5)); have HO103 := lS ho5; replace HB := bS hb; clear hb ho5))
 go_loopg [7, 8, 9] k (fun kq v7 v8 v9 w' => ∃ (x7_1 : List ByteArray) (x8_1 : Int) (x9_1 : Int), v8 = .int .i64 x8_1 ∧ v9 = .int .i64 x9_1 ∧ Aside0 (spec_l1Cut.l0 kq a0 a1 a2 x7_1 x8_1 x9_1 = some r) ∧ Aside0 (kq ≤ k) ∧ Aside0 (Kd.R Kd.string 9 w' w.heap.size (fun _ => True) v7 x7_1) ∧ Aside0 (Below w.heap.size w w'))
 case atStart => exact ⟨(y101), (0), (0), zs, zs, H', ⟨Nat.le_refl _⟩, ⟨rO HO103⟩, ⟨zB⟩⟩
 case round =>
  clear H'
  obtain ⟨x7_1, x8_1, x9_1, rfl, rfl, HA, HK1, HO_7, HB⟩ := hrel
  cases gk with
  | zero => exact absurd HA.out (by simp [spec_l1Cut.l0])
  | succ k1 =>
   have H := HA.out
   clear HA
   simp only [spec_l1Cut.l0] at H
   have HC6 := Aside0.mk H
   clear H
   go_upto_region 4 with (fail)
   go_cut [20] (fun v20 wc => ∃ (kq : Nat) (x20_5 : Bool), v20 = .bool x20_5 ∧ Aside0 (spec_l1Cut.j1 kq a0 a1 a2 x7_1 x8_1 x9_1 x20_5 = some r) ∧ Aside0 (kq ≤ k1) ∧ Aside0 (Kd.R Kd.string 9 wc w.heap.size (fun _ => True) u7 x7_1) ∧ Aside0 (Below w.heap.size w wc))
   case first =>
    have H := HC6.out
    clear HC6
    replace H := its_d_d H; rcases H with ⟨c7b0, H⟩ | ⟨c7b0, H⟩
    ·(first | rw [c7b0] | (simp only [i64_w, i32_w]; rw [c7b0]) | skip)
     have H' := Aside0.mk H
     clear H
     obtain ⟨Ao8, co8, eo8⟩ := Kd.R_slice HO_7.out
     subst eo8
     go_wp2
     go_meet
     case rel => exact ⟨_, (decide ((x7_1.length : Int) < a2)), zs, H', ⟨by have := HK1.out; first | omega | exact Nat.le_refl _⟩, ⟨rO HO_7⟩, ⟨zB⟩⟩
    ·(first | rw [c7b0] | (simp only [i64_w, i32_w]; rw [c7b0]) | skip)
     have H' := Aside0.mk H
     clear H
     go_wp2
     go_meet
     case rel => exact ⟨_, (false), zs, H', ⟨by have := HK1.out; first | omega | exact Nat.le_refl _⟩, ⟨rO HO_7⟩, ⟨zB⟩⟩
   case rest =>
    clear HC6
    obtain ⟨kq, x20_5, rfl, HA, HJ5, HO_7, HB⟩ := hcut
    cases kq with
    | zero => exact absurd HA.out (by simp [spec_l1Cut.j1])
    | succ kj5 =>
     have H := HA.out
     clear HA
     simp only [spec_l1Cut.j1] at H
     replace H := itb H; rcases H with ⟨rfl, H⟩ | ⟨rfl, H⟩
     ·replace H := itn_d H; obtain ⟨c10b0, H⟩ := H
      replace H := itn_d H; obtain ⟨c11b0, H⟩ := H
      replace H := its_qn_qn H; rcases H with ⟨c13b0, c13b1, H⟩ | ⟨c13b0, c13b1, H⟩
      ·replace H := itn_ed H; obtain ⟨c14b0, c14b1, H⟩ := H
       replace H := itn_ed H; obtain ⟨c15b0, c15b1, H⟩ := H
       replace H := itn_ed H; obtain ⟨c16b0, c16b1, H⟩ := H
       replace H := itn_L H; obtain ⟨LMc17, H⟩ := H
       first | (with_reducible replace H := bns H; obtain ⟨y104, Ny104, H⟩ := H) | (generalize hy_ : (x7_1 ++ [a0.extract (x8_1 : Int).toNat (x9_1 : Int).toNat] : List ByteArray) = y104 at H; have Ny104 := Aside0.mk hy_.symm; clear hy_)
       have H' := Aside0.mk H
       clear H
       have p12 : 0 ≤ (x9_1 : Int) := of_decide_eq_true za
       have q12 : x9_1 < (a0.size : Int) := of_decide_eq_true za
       have hx12 := bt_at a0 x9_1
       replace p12 := eq_true p12
       replace q12 := eq_true q12
       go_wp2_with (first | ((with_reducible refine gate_builtin (b := .append) (xs := #[.tmp 28, .tmp 33]) rfl ?_); (try (refine gate_guard (by rfl) ?_; dsimp only)); at_builtin; refine Kd.R_append Kd.string (w0 := w) w.heap.size rfl (.tmp 28) (.tmp 33) 25 9 (.string ⟨#[]⟩) 16 rfl Tryz.underlying25 info9 rfl (by decide) (by omega) u7 x7_1 (a0.extract (x8_1 : Int).toNat (x9_1 : Int).toNat) [.string (a0.extract (x8_1 : Int).toNat (x9_1 : Int).toNat)] (fun _ => True) (fun _ => False) rfl rfl ?aP (fun _ hk => hk.elim) ?aF ?aO ?aB ?aS ?aL ?_; (case aP => exact rfl); (case aB => exact zB); (case aF => exact (fun _ _ => trivial)); (case aO => exact (rO HO_7)); (case aS => exact (bZ)); (case aL => have := LMc17.out; omega); intro v105 w18 ho hb hg hat; rw [← Ny104.out] at ho; have n0_ := Aside0.mk (hb); have n1_ := Aside0.mk (ho); clear HB HO_7; have HB := n0_; have HO106 := n1_; clear n0_ n1_ ho hb hg hat))
       go_roundg kj5
       case measure => have := HK1.out; have := HJ5.out; omega
       case rel => exact ⟨(y104), (wrap64 (x9_1 + 1)), (wrap64 (x9_1 + 1)), zs, zs, H', ⟨by have := HK1.out; have := HJ5.out; omega⟩, ⟨rO HO106⟩, ⟨zB⟩⟩
      ·have H' := Aside0.mk H
       clear H
       have p12 : 0 ≤ (x9_1 : Int) := of_decide_eq_true za
       have q12 : x9_1 < (a0.size : Int) := of_decide_eq_true za
       have hx12 := bt_at a0 x9_1
       replace p12 := eq_true p12
       replace q12 := eq_true q12
       go_wp2
       go_roundg kj5
       case measure => have := HK1.out; have := HJ5.out; omega
       case rel => exact ⟨(x7_1), (x8_1), (wrap64 (x9_1 + 1)), zs, zs, H', ⟨by have := HK1.out; have := HJ5.out; omega⟩, ⟨rO HO_7⟩, ⟨zB⟩⟩
     ·replace H := itn_ed H; obtain ⟨c19b0, c19b1, H⟩ := H
      replace H := itn_ed H; obtain ⟨c20b0, c20b1, H⟩ := H
      replace H := itn_L H; obtain ⟨LMc21, H⟩ := H
      first | (with_reducible replace H := bns H; obtain ⟨y107, Ny107, H⟩ := H) | (generalize hy_ : (x7_1 ++ [a0.extract (x8_1 : Int).toNat a0.size] : List ByteArray) = y107 at H; have Ny107 := Aside0.mk hy_.symm; clear hy_)
      obtain rfl := Option.some.inj H
      go_wp2_with (first | ((with_reducible refine gate_builtin (b := .append) (xs := #[.tmp 37, .tmp 41]) rfl ?_); (try (refine gate_guard (by rfl) ?_; dsimp only)); at_builtin; refine Kd.R_append Kd.string (w0 := w) w.heap.size rfl (.tmp 37) (.tmp 41) 25 9 (.string ⟨#[]⟩) 16 rfl Tryz.underlying25 info9 rfl (by decide) (by omega) u7 x7_1 (a0.extract (x8_1 : Int).toNat a0.size) [.string (a0.extract (x8_1 : Int).toNat a0.size)] (fun _ => True) (fun _ => False) rfl rfl ?aP (fun _ hk => hk.elim) ?aF ?aO ?aB ?aS ?aL ?_; (case aP => exact rfl); (case aB => exact zB); (case aF => exact (fun _ _ => trivial)); (case aO => exact (rO HO_7)); (case aS => exact (bZ)); (case aL => have := LMc21.out; omega); intro v108 w22 ho hb hg hat; rw [← Ny107.out] at ho; have n0_ := Aside0.mk (hb); have n1_ := Aside0.mk (ho); clear HB HO_7; have HB := n0_; have HO109 := n1_; clear n0_ n1_ ho hb hg hat))
      go_ret
      exact ⟨_, zr, rO HO109, zB⟩
end Go.Proofs.YtbncnjgflhoneaaGreatDoor.F
