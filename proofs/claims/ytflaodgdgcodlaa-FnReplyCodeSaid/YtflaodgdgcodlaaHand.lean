/- The Go function ReplyCode of the program satchel, by hand: what it returns, for every string; no condition. (Its conversion []byte(s[:3]) is not taken by the kit's print.) -/
import Derived.Test.YtflaodgdgcodlaaProg
import Derived.Below
import Derived.Deep.Draws
import Derived.Deep.AppendLies
import Derived.Maps.AppendAt
import Derived.OwnWalk
import Derived.Laws.BytesArg
import Derived.Laws.MakeOwn
import Derived.Laws.OwnMore
import Derived.Deep.OwnRows
import Derived.Tactics
import Derived.Lib.ConvBytes
import Derived.Laws.Slices
import Derived.WalkKit
import Derived.KernelRfl
import Derived.RowKit3
import Derived.Deep.LoopGhost
import Derived.Deep.QuietTactic
import Derived.BigQuiet
import Derived.WideLaws
import Derived.Deep.DeepCutAuto
import Derived.Deep.CutBlock
import Derived.Deep.RegionHeld3
import Derived.Laws.Rows
import Derived.Lib.AppendStr
import Derived.ArgAppend
import Derived.Laws.IdiomCopy
import Derived.OrdersHeld
import Derived.Laws.BitsLemmas
import Derived.RowKit
import Derived.Test.YtflaodgdgcodlaaWWords
import Derived.Test.YtflaodgdgcodlaaWLast
import Derived.Test.YtflaodgdgcodlaaWTab
import Derived.Test.YtflaodgdgcodlaaWFour
import Derived.Test.YtflaodgdgcodlaaWQPut
import Derived.Test.YtflaodgdgcodlaaWApart
import Derived.Test.YtflaodgdgcodlaaWArr
import Derived.Test.YtflaodgdgcodlaaWZeros
import Derived.Test.YtflaodgdgcodlaaWFoot
import Derived.Test.YtflaodgdgcodlaaWKept
import Derived.Test.YtflaodgdgcodlaaWShare
import Derived.Test.YtflaodgdgcodlaaWN
import Derived.Test.YtflaodgdgcodlaaWFootNe
import Derived.Test.YtflaodgdgcodlaaWAt
import Derived.Test.YtflaodgdgcodlaaWEqStruct
import Derived.Test.YtflaodgdgcodlaaWRepsOne
import Derived.Test.YtflaodgdgcodlaaWInv
import Derived.Test.YtflaodgdgcodlaaWInvWords
import Derived.Test.YtflaodgdgcodlaaWGuard
import Derived.Test.YtflaodgdgcodlaaWNEv
import Derived.Test.YtflaodgdgcodlaaWMore
namespace Go.Proofs.Ytflaodgdgcodlaa.Hand
open Go.RowKit Go.Proofs.YtflaodgdgcodlaaW.PrintWords Go.Proofs.YtflaodgdgcodlaaW.PrintLast Go.Proofs.YtflaodgdgcodlaaW.PrintMore

/-- The figures of a text from place i on, n of them, behind the number c. -/
def impl_ReplyCode.go (s : ByteArray) : Nat → Int → Int → Int
  | 0, _, c => c
  | n + 1, i, c => if bt s i < 48 then 0 else if bt s i > 57 then 0 else impl_ReplyCode.go s n (i + 1) (10 * c + (bt s i - 48))
/-- What ReplyCode returns. -/
def impl_ReplyCode.val (s : ByteArray) : Int := if (s.size : Int) < 4 then 0 else if bt s 0 < 50 then 0 else if bt s 0 > 53 then 0 else if bt s 3 = 32 then impl_ReplyCode.go s 3 0 0 else 0
def impl_ReplyCode.f (s : ByteArray) : Option Int := some (impl_ReplyCode.val s)

theorem bt_cell {W : World} {s : ByteArray} (h3 : 3 ≤ s.size) (i : Nat) (hi : i < 3) : (Lib.bytesWorld W 5 (s.extract 0 3)).cell? ⟨W.heap.size, i, none⟩ = some (.int .u8 (bt s i)) := by
  have hz : (s.extract 0 3).size = 3 := by simp [ByteArray.size_extract]; omega
  rw [Lib.bytesWorld_cell W 5 _ i (by omega)]
  congr 2
  unfold bt
  rw [dif_pos (by omega : (i : Int).toNat < s.size)]
  have hl : i < (s.extract 0 3).data.toList.length := by rw [data_length]; omega
  rw [List.getD_eq_getElem?_getD, List.getElem?_eq_getElem hl]
  simp [ByteArray.getElem_eq_getElem_data]

theorem bt_range (s : ByteArray) (i : Int) : 0 ≤ bt s i ∧ bt s i ≤ 255 := by
  unfold bt
  split
  · have := (s[i.toNat]).toNat_lt
    omega
  · omega

/-- Behind i figures the number is c, and what is left comes to r. -/
def At (s : ByteArray) (r : Int) (i : Nat) (c : Int) : Prop := 0 ≤ c ∧ impl_ReplyCode.go s (3 - i) i c = r ∧ ((i = 0 ∧ c ≤ 0) ∨ (i = 1 ∧ c ≤ 9) ∨ (i = 2 ∧ c ≤ 99) ∨ (i = 3 ∧ c ≤ 999))
theorem At.le {s : ByteArray} {r : Int} {i : Nat} {c : Int} (h : At s r i c) : 0 ≤ c ∧ c ≤ 999 ∧ i ≤ 3 := by obtain ⟨a, _, b⟩ := h; omega
theorem At.low {s : ByteArray} {r : Int} {i : Nat} {c : Int} (h : At s r i c) (hi : i < 3) (hl : bt s i < 48) : r = 0 := by
  obtain ⟨_, b, _⟩ := h
  obtain ⟨k, hk⟩ : ∃ k, 3 - i = k + 1 := ⟨3 - i - 1, by omega⟩
  rw [hk] at b
  rw [← b, impl_ReplyCode.go, if_pos hl]
theorem At.high {s : ByteArray} {r : Int} {i : Nat} {c : Int} (h : At s r i c) (hi : i < 3) (hl : ¬ bt s i < 48) (hg : bt s i > 57) : r = 0 := by
  obtain ⟨_, b, _⟩ := h
  obtain ⟨k, hk⟩ : ∃ k, 3 - i = k + 1 := ⟨3 - i - 1, by omega⟩
  rw [hk] at b
  rw [← b, impl_ReplyCode.go, if_neg hl, if_pos hg]
theorem At.next {s : ByteArray} {r : Int} {i : Nat} {c : Int} (h : At s r i c) (hi : i < 3) (hl : ¬ bt s i < 48) (hg : ¬ bt s i > 57) : At s r (i + 1) (10 * c + (bt s i - 48)) := by
  obtain ⟨a, b, d⟩ := h
  obtain ⟨k, hk⟩ : ∃ k, 3 - i = k + 1 := ⟨3 - i - 1, by omega⟩
  rw [hk] at b
  rw [impl_ReplyCode.go, if_neg hl, if_neg hg] at b
  refine ⟨by omega, ?_, by omega⟩
  rw [show 3 - (i + 1) = k by omega]
  exact b
theorem At.done {s : ByteArray} {r : Int} {c : Int} (h : At s r 3 c) : r = c := h.2.1.symm

set_option maxHeartbeats 4000000 in
set_option maxRecDepth 100000 in
theorem impl_ReplyCode.calls (a0 : ByteArray) (r : Int) (w : World) (h : impl_ReplyCode.f a0 = some r) :
    Calls Try.prog 7 #[.string a0] w fun e w' => e = .returned (.int .i64 r) ∧ Below w.heap.size w w' := by
  have h := Option.some.inj h
  unfold impl_ReplyCode.val at h
  by_cases c1 : (a0.size : Int) < 4
  · rw [if_pos c1] at h
    subst h
    have c1b0 : decide ((a0.size : Int) < 4) = true := decide_eq_true c1
    have c1b1 : decide (a0.size < 4) = true := decide_eq_true (by omega)
    clear c1
    go_enter Try.func7, Try.ntmps7
    go_wp2
    go_ret
    exact ⟨rfl, Below.refl _ _⟩
  rw [if_neg c1] at h
  have c1b0 : decide ((a0.size : Int) < 4) = false := decide_eq_false c1
  have c1b1 : decide (a0.size < 4) = false := decide_eq_false (by omega)
  have p0 : 0 < a0.size := by omega
  have p3 : 3 < a0.size := by omega
  have h3 := Aside0.mk (show 3 ≤ a0.size by omega)
  clear c1
  have hx0 : ∀ h : 0 < a0.size, ((a0[0]'h).toNat : Int) = bt a0 0 := bt_at a0 0
  have hx3 : ∀ h : 3 < a0.size, ((a0[3]'h).toNat : Int) = bt a0 3 := bt_at a0 3
  have qi0 : (0 < (a0.size : Int)) = True := eq_true (by omega)
  have qi3 : (3 < (a0.size : Int)) = True := eq_true (by omega)
  have qj3 : (3 ≤ (a0.size : Int)) = True := eq_true (by omega)
  have qk3 : (3 ≤ a0.size) = True := eq_true (by omega)
  replace p0 := eq_true p0
  replace p3 := eq_true p3
  by_cases c2 : bt a0 0 < 50
  · rw [if_pos c2] at h
    subst h
    have c2b0 : decide (bt a0 0 < 50) = true := decide_eq_true c2
    clear c2
    go_enter Try.func7, Try.ntmps7
    go_wp2
    go_ret
    exact ⟨rfl, Below.refl _ _⟩
  rw [if_neg c2] at h
  have c2b0 : decide (bt a0 0 < 50) = false := decide_eq_false c2
  clear c2
  by_cases c3 : bt a0 0 > 53
  · rw [if_pos c3] at h
    subst h
    have c3b0 : decide (53 < bt a0 0) = true := decide_eq_true c3
    clear c3
    go_enter Try.func7, Try.ntmps7
    go_wp2
    go_ret
    exact ⟨rfl, Below.refl _ _⟩
  rw [if_neg c3] at h
  have c3b0 : decide (53 < bt a0 0) = false := decide_eq_false c3
  clear c3
  by_cases c4 : bt a0 3 = 32
  · rw [if_pos c4] at h
    have c4b0 : (bt a0 3 == 32) = true := beq_iff_eq.mpr c4
    have c4b1 : (bt a0 3 != 32) = false := bne_eq_false_iff_eq.mpr c4
    clear c4
    have H := Aside0.mk h
    clear h
    have kb := fun W => print_bytes (P := Try.prog) 9 24 5 Try.underlying9 Try.underlying24 Try.underlying5 (a0.extract 0 3) W
    go_enter Try.func7, Try.ntmps7
    go_wp2
    have hb := Aside0.mk (bytes_below (Below.refl w.heap.size w) (Nat.le_refl _) 5 (a0.extract 0 3))
    have hc := Aside0.mk (fun i hi => bt_cell (W := w) h3.out i hi)
    clear kb
    generalize Lib.bytesWorld w 5 (a0.extract 0 3) = W at *
    go_loop [3, 28] (fun v i => ∃ (k : Nat) (c : Int), i = .int .i64 k ∧ v = .int .i64 c ∧ Aside0 (At a0 r k c)) (fun _ i => 3 - (intOf i).toNat)
    case atStart => exact ⟨0, 0, rfl, rfl, ⟨by omega, H.out, by omega⟩⟩
    case round =>
      obtain ⟨k, c, rfl, rfl, HA⟩ := hrel
      obtain ⟨b0, b1, b2⟩ := HA.out.le
      by_cases hk : k < 3
      · have hcell := hc.out k hk
        obtain ⟨e0, e1⟩ := bt_range a0 k
        by_cases d1 : bt a0 k < 48
        · obtain rfl := HA.out.low hk d1
          have d1b0 : decide (bt a0 k < 48) = true := decide_eq_true d1
          clear d1
          go_wp2
          go_ret
          exact ⟨rfl, hb.out⟩
        have d1b0 : decide (bt a0 k < 48) = false := decide_eq_false d1
        by_cases d2 : bt a0 k > 57
        · obtain rfl := HA.out.high hk d1 d2
          have d2b0 : decide (57 < bt a0 k) = true := decide_eq_true d2
          clear d1 d2
          go_wp2
          go_ret
          exact ⟨rfl, hb.out⟩
        have d2b0 : decide (57 < bt a0 k) = false := decide_eq_false d2
        have HN := Aside0.mk (HA.out.next hk d1 d2)
        go_wp2
        go_round
        case rel => exact ⟨k + 1, _, by go_num, by go_num, HN⟩
        case measure => simp [intOf]; omega
      · obtain rfl : k = 3 := by omega
        obtain rfl := HA.out.done
        clear hk
        go_wp2
        go_ret
        exact ⟨rfl, hb.out⟩
  · rw [if_neg c4] at h
    subst h
    have c4b0 : (bt a0 3 == 32) = false := beq_eq_false_iff_ne.mpr c4
    have c4b1 : (bt a0 3 != 32) = true := bne_iff_ne.mpr c4
    go_enter Try.func7, Try.ntmps7
    go_wp2
    go_ret
    exact ⟨rfl, Below.refl _ _⟩

end Go.Proofs.Ytflaodgdgcodlaa.Hand
