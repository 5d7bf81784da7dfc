/-
  The law FnReplyCode of the program satchel: for every byte string, the drawn answer's number is the reference's, and it is three figures and a blank. No condition beyond the row's own.
-/
import Derived.Test.YtflaodgdgcodlaaHFnReplyCodex2
namespace Go.Proofs.Ytflaodgdgcodlaa.Pure
open Go.RowKit Go.Proofs.Ytflaodgdgcodlaa.HFnReplyCode Go.Proofs.YtflaodgdgcodlaaW.PrintWords Go.Proofs.YtflaodgdgcodlaaW.PrintLast
open Go.Proofs.Ytflaodgdgcodlaa.Hand (impl_ReplyCode.f impl_ReplyCode.val impl_ReplyCode.go)

theorem wrapIn {x : Int} (h0 : 0 ≤ x) (h1 : x ≤ 9223372036854775807) : wrap64 x = x := by
  unfold wrap64
  omega

theorem xor_bounds (a b : Int) (ha0 : 0 ≤ a) (ha : a < 9223372036854775808) (hb0 : 0 ≤ b) (hb : b < 9223372036854775808) : 0 ≤ Go.bits .xor .i64 a b := by
  obtain ⟨a, rfl⟩ := Int.eq_ofNat_of_zero_le ha0
  obtain ⟨b, rfl⟩ := Int.eq_ofNat_of_zero_le hb0
  have ha' : a < 9223372036854775808 := by omega
  have hb' : b < 9223372036854775808 := by omega
  have hx : a ^^^ b < 2 ^ 63 := Nat.xor_lt_two_pow (by omega) (by omega)
  have h1 : (BitVec.ofInt 64 (a : Int)).toNat = a := by
    rw [BitVec.ofInt_natCast, BitVec.toNat_ofNat]; exact Nat.mod_eq_of_lt (by omega)
  have h2 : (BitVec.ofInt 64 (b : Int)).toNat = b := by
    rw [BitVec.ofInt_natCast, BitVec.toNat_ofNat]; exact Nat.mod_eq_of_lt (by omega)
  have e : Go.bits .xor .i64 (a : Int) (b : Int) = ((a ^^^ b : Nat) : Int) := by
    show IntKind.i64.wrap ((BitVec.ofInt 64 (a : Int) ^^^ BitVec.ofInt 64 (b : Int)).toNat : Int) = _
    rw [BitVec.toNat_xor, h1, h2, IntKind.wrap_i64]
    omega
  rw [e]
  omega

theorem tmod_in (x n : Int) (h0 : 0 ≤ x) (hn : 0 < n) : 0 ≤ Int.tmod x n ∧ Int.tmod x n < n := by
  rw [Int.tmod_eq_emod_of_nonneg h0]
  exact ⟨Int.emod_nonneg _ (by omega), Int.emod_lt_of_pos _ hn⟩

theorem rd_byte (l : List Int) (hw : ∀ x ∈ l, (Lit.int .u8 x).wf = true) (i : Int) : 0 ≤ rd l i ∧ rd l i ≤ 255 := by
  unfold rd
  rw [List.getD_eq_getElem?_getD]
  cases h : l[i.toNat]? with
  | none => simp
  | some v =>
    have := hw v (List.mem_of_getElem? h)
    simp [Lit.wf, IntKind.min, IntKind.max, IntKind.bits, IntKind.signed] at this
    simp
    omega

/-- What is picked lies from 0 to n-1, and the place goes on by one. -/
theorem pick_in (l : List Int) (hl : l.length ≤ 2000) (hw : ∀ x ∈ l, (Lit.int .u8 x).wf = true) (p n : Int) (hp0 : 0 ≤ p) (hp : p ≤ 1099511627776) (hn : 1 ≤ n) (hn2 : n ≤ 1099511627776) (k : Nat) :
    ∃ v, spec_l20Rd_pick.f (k + 1) l p n = some (v, p + 1) ∧ 0 ≤ v ∧ v < n := by
  unfold spec_l20Rd_pick.f
  rw [if_neg (by omega), wrapIn (by omega) (by omega : p + 1 ≤ _)]
  simp only [spec_l20Rd_pick.j0]
  have e1 : wrap64 (p + 1 - 1) = p := by rw [wrapIn (by omega) (by omega)]; omega
  rw [e1]
  by_cases hz : (l.length : Int) = 0
  · rw [if_pos (by simpa using hz)]
    exact ⟨0, rfl, by omega, by omega⟩
  · rw [if_neg (by simpa using hz)]
    by_cases hlt : p < (l.length : Int)
    · rw [if_pos hlt, if_pos hp0, if_neg (by omega)]
      obtain ⟨a, b⟩ := rd_byte l hw p
      rw [wrapIn a (by omega)]
      exact ⟨_, rfl, tmod_in _ _ a (by omega)⟩
    · have e2 : wrap64 (wrap64 (p * 7) + 3) = p * 7 + 3 := by rw [wrapIn (x := p * 7) (by omega) (by omega), wrapIn (by omega) (by omega)]
      rw [if_neg hlt, if_neg hz, e2]
      have m1 := tmod_in p l.length hp0 (by omega)
      have m2 := tmod_in (p * 7 + 3) l.length (by omega) (by omega)
      rw [if_pos m1.1, if_pos m1.2, if_pos m2.1, if_pos m2.2, if_neg (by omega)]
      obtain ⟨a, b⟩ := rd_byte l hw (Int.tmod p l.length)
      obtain ⟨c, d⟩ := rd_byte l hw (Int.tmod (p * 7 + 3) l.length)
      have q0 : 0 ≤ Int.tdiv p l.length := Int.tdiv_nonneg hp0 (by omega)
      have q1 : Int.tdiv p l.length ≤ p := by
        rw [Int.tdiv_eq_ediv_of_nonneg hp0]
        exact Int.ediv_le_self _ hp0
      generalize rd l (Int.tmod p l.length) = x at *
      generalize rd l (Int.tmod (p * 7 + 3) l.length) = y at *
      generalize Int.tdiv p l.length = z at *
      rw [wrapIn (x := x) (by omega) (by omega), wrapIn (x := y) (by omega) (by omega), wrapIn (x := z) (by omega) (by omega), wrapIn (x := x * 131) (by omega) (by omega), wrapIn (x := y * 1117) (by omega) (by omega), wrapIn (x := p * 29) (by omega) (by omega), wrapIn (x := z * 53) (by omega) (by omega), wrapIn (x := x * 131 + y * 1117) (by omega) (by omega), wrapIn (x := x * 131 + y * 1117 + p * 29) (by omega) (by omega), wrapIn (x := x * 131 + y * 1117 + p * 29 + z * 53) (by omega) (by omega)]
      have t0 : 0 ≤ Int.tdiv (x * 131 + y * 1117 + p * 29 + z * 53) 64 := Int.tdiv_nonneg (by omega) (by omega)
      have t1 : Int.tdiv (x * 131 + y * 1117 + p * 29 + z * 53) 64 ≤ x * 131 + y * 1117 + p * 29 + z * 53 := by
        rw [Int.tdiv_eq_ediv_of_nonneg (by omega)]
        exact Int.ediv_le_self _ (by omega)
      rw [wrapIn t0 (by omega)]
      exact ⟨_, rfl, tmod_in _ _ (xor_bounds _ _ (by omega) (by omega) t0 (by omega)) (by omega)⟩

theorem open_in (l : List Int) (hw : ∀ x ∈ l, (Lit.int .u8 x).wf = true) : ∃ m, spec_l20Open.f l = some (m, 0) ∧ m.length ≤ 2000 ∧ ∀ x ∈ m, (Lit.int .u8 x).wf = true := by
  unfold spec_l20Open.f
  by_cases h : (l.length : Int) > 2000
  · rw [if_pos h, if_pos (by omega)]
    exact ⟨_, rfl, by simp; omega, fun x hx => hw x (List.mem_of_mem_take hx)⟩
  · rw [if_neg h]
    exact ⟨_, rfl, by omega, hw⟩

/-- The answers that are drawn. -/
def answers : List ByteArray := [(⟨#[50, 53, 48, 32, 111, 107]⟩ : ByteArray), (⟨#[50, 53, 48]⟩ : ByteArray), (⟨#[50, 53, 48, 45, 111, 107]⟩ : ByteArray), (⟨#[53, 53, 52, 32, 110, 111]⟩ : ByteArray), (⟨#[49, 57, 57, 32, 120]⟩ : ByteArray), (⟨#[54, 48, 48, 32, 120]⟩ : ByteArray), (⟨#[50, 120, 48, 32, 97]⟩ : ByteArray), (⟨#[]⟩ : ByteArray), (⟨#[51, 53, 52, 32, 103, 111, 32, 111, 110]⟩ : ByteArray), (⟨#[50, 50, 48, 32, 111, 110, 101, 46, 111, 114, 103]⟩ : ByteArray), (⟨#[53, 48, 48, 32]⟩ : ByteArray)]

theorem draw_in (l : List Int) (hw : ∀ x ∈ l, (Lit.int .u8 x).wf = true) (k : Nat) : ∃ i : Nat, i < 11 ∧ spec_DrawReplyCode.f (k + 1) l = some (answers.getD i ByteArray.empty) := by
  obtain ⟨m, hm, hm1, hm2⟩ := open_in l hw
  obtain ⟨v, hv, h0, h1⟩ := pick_in m hm1 hm2 0 11 (by omega) (by omega) (by omega) (by omega) k
  have hp : spec_l20Rd_pick.f (k + 1) m 0 (answers.length : Int) = some (v, 0 + 1) := hv
  obtain ⟨i, rfl⟩ := Int.eq_ofNat_of_zero_le h0
  refine ⟨i, by omega, ?_⟩
  unfold spec_DrawReplyCode.f spec_l20Rd_of.f
  rw [hm]
  simp only [Option.bind_some]
  show ((spec_l20Rd_pick.f (k + 1) m 0 (answers.length : Int)).bind _).bind _ = _
  rw [hp]
  simp only [Option.bind_some]
  rw [if_pos h0, if_pos (by simpa using h1)]
  rfl

theorem rest (i : Nat) (hi : i < 11) : ((impl_ReplyCode.f (answers.getD i ByteArray.empty)).bind fun t121 => ((spec_ReplyCode.f 11 (answers.getD i ByteArray.empty)).bind fun t122 => (if t121 = t122 then (laws_FnReplyCode.j0 11 (answers.getD i ByteArray.empty) t121 (t121 == 0)) else (laws_FnReplyCode.j0 11 (answers.getD i ByteArray.empty) t121 true)))) = some true := by
  have : i = 0 ∨ i = 1 ∨ i = 2 ∨ i = 3 ∨ i = 4 ∨ i = 5 ∨ i = 6 ∨ i = 7 ∨ i = 8 ∨ i = 9 ∨ i = 10 := by omega
  rcases this with rfl | rfl | rfl | rfl | rfl | rfl | rfl | rfl | rfl | rfl | rfl <;> decide +kernel

theorem FnReplyCode : laws_FnReplyCode.Pure := by
  intro l _ _ hw
  refine ⟨11, ?_⟩
  obtain ⟨i, hi, hn⟩ := draw_in l hw 10
  unfold laws_FnReplyCode.f
  by_cases h : (l.length : Int) > 1048576
  · rw [if_pos h]
  · rw [if_neg h, hn, Option.bind_some]
    exact rest i hi

end Go.Proofs.Ytflaodgdgcodlaa.Pure
