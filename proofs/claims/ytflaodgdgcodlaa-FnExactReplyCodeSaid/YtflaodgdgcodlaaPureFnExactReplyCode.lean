/-
  The law FnExactReplyCode of the program satchel: for every string, the program's ReplyCode returns what the reference's returns. No condition beyond the row's own.
-/
import Derived.Test.YtflaodgdgcodlaaHFnExactReplyCodex1
namespace Go.Proofs.Ytflaodgdgcodlaa.Pure
open Go.RowKit Go.Proofs.Ytflaodgdgcodlaa.HFnExactReplyCode Go.Proofs.YtflaodgdgcodlaaW.PrintWords Go.Proofs.YtflaodgdgcodlaaW.PrintLast
open Go.Proofs.Ytflaodgdgcodlaa.Hand (impl_ReplyCode.f impl_ReplyCode.val impl_ReplyCode.go)

theorem wrapIn {x : Int} (h0 : 0 ≤ x) (h1 : x ≤ 9223372036854775807) : wrap64 x = x := by
  unfold wrap64
  omega

theorem bt_extract (s : ByteArray) (n i : Nat) (hi : i < n) (hn : n ≤ s.size) : bt (s.extract 0 n) i = bt s i := by
  have hz : (s.extract 0 n).size = n := by simp [ByteArray.size_extract]; omega
  unfold bt
  rw [dif_pos (by omega : (i : Int).toNat < (s.extract 0 n).size), dif_pos (by omega : (i : Int).toNat < s.size)]
  simp [ByteArray.getElem_eq_getElem_data]

theorem num_step (k : Nat) (s : ByteArray) (c i : Int) (h0 : 0 ≤ i) (hlt : i < (s.size : Int)) (hi : i < 9) (hc0 : 0 ≤ c) (hc : c ≤ 100000000) :
    spec_l1Num.l0 (k + 1) s c i = if bt s i < 48 then some (-1) else if bt s i > 57 then some (-1) else spec_l1Num.l0 k s (c * 10 + (bt s i - 48)) (i + 1) := by
  obtain ⟨a, b⟩ := bt_range s i
  rw [spec_l1Num.l0, if_pos hlt, if_pos h0, if_neg (by omega : ¬ i ≥ 9), wrapIn (x := i + 1) (by omega) (by omega), wrapIn (x := c * 10) (by omega) (by omega)]
  by_cases h : bt s i < 48
  · rw [if_pos h, if_pos h]
  · rw [if_neg h, if_neg h, show (bt s i - 48) % 256 = bt s i - 48 by omega, wrapIn (x := c * 10 + (bt s i - 48)) (by omega) (by omega)]

theorem num_end (k : Nat) (s : ByteArray) (c : Int) (hz : s.size = 3) (h0 : ¬ bt s 0 = 48) : spec_l1Num.l0 (k + 1) s c 3 = some c := by
  rw [spec_l1Num.l0, if_neg (by omega), if_neg (by omega), if_pos (by omega), if_pos (by omega), if_neg h0]

theorem code_eq (a : ByteArray) : spec_l4Code.f 6 a = some (impl_ReplyCode.val a) := by
  unfold spec_l4Code.f impl_ReplyCode.val
  by_cases c1 : (a.size : Int) < 4
  · rw [if_pos c1, if_pos c1, spec_l4Code.j0, if_pos rfl]
  rw [if_neg c1, if_neg c1, if_pos (by omega)]
  by_cases c4 : bt a 3 = 32
  · rw [if_pos c4, if_pos c4, if_pos (by omega)]
    by_cases c2 : bt a 0 < 50
    · rw [if_pos c2, if_pos c2, spec_l4Code.j0, if_pos rfl]
    rw [if_neg c2, if_neg c2]
    by_cases c3 : bt a 0 > 53
    · rw [if_pos c3, decide_eq_true c3, spec_l4Code.j0, if_pos rfl]
    rw [if_neg c3, decide_eq_false c3, spec_l4Code.j0, if_neg (by decide), if_pos (by omega), if_pos (by omega)]
    have hz : (a.extract 0 3).size = 3 := by simp [ByteArray.size_extract]; omega
    have e0 : bt (a.extract 0 3) 0 = bt a 0 := bt_extract a 3 0 (by omega) (by omega)
    have e1 : bt (a.extract 0 3) 1 = bt a 1 := bt_extract a 3 1 (by omega) (by omega)
    have e2 : bt (a.extract 0 3) 2 = bt a 2 := bt_extract a 3 2 (by omega) (by omega)
    obtain ⟨b1, d1⟩ := bt_range a 1
    obtain ⟨b2, d2⟩ := bt_range a 2
    unfold spec_l1Num.f
    rw [num_step 4 _ 0 0 (by omega) (by omega) (by omega) (by omega) (by omega), e0, if_neg (by omega), if_neg (by omega), show (0 : Int) + 1 = 1 from rfl]
    simp only [impl_ReplyCode.go]
    rw [show (0 : Int) + 1 = 1 from rfl, show (1 : Int) + 1 = 2 from rfl, if_neg (by omega : ¬ bt a 0 < 48), if_neg (by omega : ¬ bt a 0 > 57)]
    rw [num_step 3 _ _ 1 (by omega) (by omega) (by omega) (by omega) (by omega), e1, show (1 : Int) + 1 = 2 from rfl]
    by_cases f1 : bt a 1 < 48
    · rw [if_pos f1, if_pos f1]; rfl
    rw [if_neg f1, if_neg f1]
    by_cases g1 : bt a 1 > 57
    · rw [if_pos g1, if_pos g1]; rfl
    rw [if_neg g1, if_neg g1]
    rw [num_step 2 _ _ 2 (by omega) (by omega) (by omega) (by omega) (by omega), e2, show (2 : Int) + 1 = 3 from rfl]
    by_cases f2 : bt a 2 < 48
    · rw [if_pos f2, if_pos f2]; rfl
    rw [if_neg f2, if_neg f2]
    by_cases g2 : bt a 2 > 57
    · rw [if_pos g2, if_pos g2]; rfl
    rw [if_neg g2, if_neg g2]
    rw [num_end 1 _ _ hz (by rw [e0]; omega), Option.bind_some, if_neg (by omega)]
    congr 1
    omega
  · rw [if_neg c4, if_neg c4, spec_l4Code.j0, if_pos rfl]
    by_cases c2 : bt a 0 < 50
    · rw [if_pos c2]
    · rw [if_neg c2]
      by_cases c3 : bt a 0 > 53
      · rw [if_pos c3]
      · rw [if_neg c3]

theorem FnExactReplyCode : laws_FnExactReplyCode.Pure := by
  intro a _
  refine ⟨6, ?_⟩
  unfold laws_FnExactReplyCode.f spec_ReplyCode.f impl_ReplyCode.f
  by_cases h : (a.size : Int) > 1048576
  · rw [if_pos h]
  · rw [if_neg h, code_eq]
    simp

end Go.Proofs.Ytflaodgdgcodlaa.Pure
