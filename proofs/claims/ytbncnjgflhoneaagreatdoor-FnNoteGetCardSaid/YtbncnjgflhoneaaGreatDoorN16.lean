/- Of this claim, merged by program: Q6, Q7, F119, F121, HDotGet, F128, Q8. -/
import Derived.Test.YtbncnjgflhoneaaGreatDoorN02
import Derived.Test.YtbncnjgflhoneaaGreatDoorN03
import Derived.Test.YtbncnjgflhoneaaGreatDoorN13
import Derived.Test.YtbncnjgflhoneaaGreatDoorN14
import Derived.Test.YtbncnjgflhoneaaGreatDoorN15
set_option linter.unusedVariables false
set_option linter.unusedSimpArgs false
namespace Go.Proofs.YtbncnjgflhoneaaGreatDoor.Hand
open Go.RowKit Go.Proofs.YtbncnjgflhoneaaGreatDoor.F Go.Proofs.YtbncnjgflhoneaaGreatDoorW.l8 Go.Proofs.YtbncnjgflhoneaaGreatDoorW.s9 Go.Proofs.YtbncnjgflhoneaaGreatDoorW.y9
theorem d01 (a : UInt8) (t : List UInt8) : Lib.cut [] (a :: t) = ([], [], false) := rfl
theorem ay8 (b : UInt8) (l sep : List UInt8) : Lib.cut (b :: l) sep =
  if sep.isPrefixOf (b :: l) = true then ([], (b :: l).drop sep.length, true) else if (Lib.cut l sep).2.2 = true then (b :: (Lib.cut l sep).1, (Lib.cut l sep).2.1, true) else (b :: l, [], false) := by
 have hge := Lib.index_ge l sep
 by_cases hp : sep.isPrefixOf (b :: l) = true
 ·have e : Lib.index (b :: l) sep = 0 := by rw [Lib.index, if_pos hp]
  rw [if_pos hp]
  unfold Lib.cut
  rw [e, if_pos (by decide)]
  simp
 ·rw [if_neg hp]
  by_cases hm : Lib.index l sep = -1
  ·have e : Lib.index (b :: l) sep = -1 := by rw [Lib.index, if_neg hp, hm]; rfl
   unfold Lib.cut
   rw [e, hm]
   simp
  ·have e : Lib.index (b :: l) sep = Lib.index l sep + 1 := by rw [Lib.index, if_neg hp, if_neg (fun e => hm (beq_iff_eq.1 e))]
   obtain ⟨i, hi⟩ := Int.eq_ofNat_of_zero_le (a := Lib.index l sep) (by omega)
   unfold Lib.cut
   rw [e, hi, if_pos (show (0 : Int) ≤ (i : Int) + 1 by omega), if_pos (show (0 : Int) ≤ (i : Int) by omega), show ((i : Int) + 1).toNat = i + 1 by omega, Int.toNat_natCast, show i + 1 + sep.length = (i + sep.length) + 1 by omega]
   simp
theorem aL9 (c : UInt8) (b : List UInt8) : ∀ a : List UInt8, c ∉ a → Lib.cut (a ++ c :: b) [c] = (a, b, true)
 | [], _ => by
  rw [List.nil_append, ay8, if_pos (by simp)]
  simp
 | x :: a, h => by
  rw [List.mem_cons, not_or] at h
  rw [List.cons_append, ay8, if_neg (by simp; exact h.1), aL9 c b a h.2, if_pos rfl]
theorem aS8 (sep : List UInt8) : ∀ s : List UInt8, (Lib.cut s sep).1.length ≤ s.length ∧ (Lib.cut s sep).2.1.length ≤ s.length := fun s => by
 unfold Lib.cut
 split
 ·constructor
  ·rw [List.length_take]; omega
  ·rw [List.length_drop]; omega
 ·exact ⟨Nat.le_refl _, Nat.zero_le _⟩
theorem ap5 (s sep : ByteArray) (hs : s.size ≤ 1073741824) : strings_Cut.f s sep = some (B (Lib.cut s.data.toList sep.data.toList).1, B (Lib.cut s.data.toList sep.data.toList).2.1, (Lib.cut s.data.toList sep.data.toList).2.2) := by
 unfold strings_Cut.f
 rw [if_pos (by omega)]
 rfl
def ag7 (p : List UInt8) : List (List UInt8) × List UInt8 → List (List UInt8) × List UInt8
 | ([], t) => ([], p ++ t)
 | (x :: ls, t) => ((p ++ x) :: ls, t)
def crlf : List UInt8 → List (List UInt8) × List UInt8
 | [] => ([], [])
 | [a] => ([], [a])
 | a :: b :: l => if a = 13 ∧ b = 10 then ([] :: (crlf l).1, (crlf l).2) else ag7 [a] (crlf (b :: l))
theorem by2 (p q : List UInt8) (x : List (List UInt8) × List UInt8) : ag7 p (ag7 q x) = ag7 (p ++ q) x := by
 obtain ⟨l, t⟩ := x
 cases l <;> simp [ag7]
theorem aX1 : ∀ s : List UInt8, crlf s = if (Lib.cut s [13, 10]).2.2 = true then ((Lib.cut s [13, 10]).1 :: (crlf (Lib.cut s [13, 10]).2.1).1, (crlf (Lib.cut s [13, 10]).2.1).2) else ([], s)
 | [] => rfl
 | [a] => by
  have e : Lib.cut [a] [13, 10] = ([a], [], false) := by rw [ay8, if_neg (by simp [List.isPrefixOf])]; rfl
  rw [e]
  rfl
 | a :: b :: l => by
  rw [crlf]
  by_cases h : a = 13 ∧ b = 10
  ·obtain ⟨rfl, rfl⟩ := h
   have e : Lib.cut (13 :: 10 :: l) [13, 10] = ([], l, true) := by rw [ay8, if_pos (by simp)]; rfl
   rw [if_pos ⟨rfl, rfl⟩, e]
   rfl
  ·have e := ay8 a (b :: l) [13, 10]
   rw [if_neg (by simp only [List.isPrefixOf]; simp; exact fun e1 e2 => h ⟨e1.symm, e2.symm⟩)] at e
   rw [if_neg h, e, aX1 (b :: l)]
   obtain ⟨p, q, t⟩ := Lib.cut (b :: l) [13, 10]
   cases t <;> rfl
theorem cP4 (s : List UInt8) (h : (Lib.cut s [13, 10]).2.2 = true) : (Lib.cut s [13, 10]).2.1.length + 2 ≤ s.length := by
 have hr := Lib.index_room s [13, 10]
 unfold Lib.cut at h ⊢
 split at h
 ·rename_i hi
  rw [if_pos hi]
  have := hr hi
  simp only [List.length_cons, List.length_nil] at this
  show (s.drop _).length + 2 ≤ _
  rw [List.length_drop]
  simp only [List.length_cons, List.length_nil]
  omega
 ·cases h
theorem bU5 : ∀ (n : Nat) (s : ByteArray) (acc : List ByteArray), s.size ≤ n → n ≤ 1073741824 → acc.length + n ≤ 2147483648 →
  Ev (fun k => Y0.l0 k s acc) (acc ++ (crlf s.data.toList).1.map B, B (crlf s.data.toList).2) := by
 intro n
 induction n with
 | zero =>
  intro s acc hs _ _
  have hd : s.data.toList = [] := List.eq_nil_of_length_eq_zero (by rw [E3]; omega)
  refine Ev.step (f := fun _ => some (acc, s)) (fun k => ?_) ?_
  ·rw [Y0.l0, ap5 s _ (by omega), Option.bind_some, hd]
   exact if_neg (by decide)
  ·rw [hd]
   have : s = B [] := as9 hd
   rw [this]
   simpa [crlf] using Ev.now (acc, B [])
 | succ n ih =>
  intro s acc hs hn ha
  rw [aX1]
  have hle := aS8 [13, 10] s.data.toList
  rw [b94] at hle
  by_cases hf : (Lib.cut s.data.toList [13, 10]).2.2 = true
  ·have hlt := cP4 _ hf
   rw [b94] at hlt
   refine Ev.step (f := fun k => Y0.l0 k (B (Lib.cut s.data.toList [13, 10]).2.1) (acc ++ [B (Lib.cut s.data.toList [13, 10]).1])) (fun k => ?_) ?_
   ·rw [Y0.l0, ap5 s _ (by omega), Option.bind_some]
    exact (if_pos hf).trans (if_pos (by omega))
   ·have h := ih (B (Lib.cut s.data.toList [13, 10]).2.1) (acc ++ [B (Lib.cut s.data.toList [13, 10]).1]) (by rw [D8]; omega) (by omega) (by rw [List.length_append, List.length_singleton]; omega)
    rw [M5] at h
    rw [if_pos hf, List.map_cons]
    simpa using h
  ·refine Ev.step (f := fun _ => some (acc, s)) (fun k => ?_) ?_
   ·rw [Y0.l0, ap5 s _ (by omega), Option.bind_some]
    exact if_neg hf
   ·rw [if_neg hf, List.map_nil, List.append_nil, aW5]
    exact Ev.now _
theorem bK4 (s : ByteArray) (hs : s.size ≤ 1073741824) : Ev (fun k => Y0.f k s) ((crlf s.data.toList).1.map B, B (crlf s.data.toList).2) := by
 have h := bU5 s.size s [] (Nat.le_refl _) hs (by simp; omega)
 rw [List.nil_append] at h
 exact h
theorem bU6 (s : ByteArray) (hs : s.size ≤ 1073741824) : ∀ (n d i f : Nat) (out : List ByteArray), d ≤ n → s.size = i + d → f ≤ i → out.length ≤ i →
  Ev (fun k => L3.l0 k s out (f : Int) (i : Int)) (out ++ (ag7 ((s.data.toList.take i).drop f) (crlf (s.data.toList.drop i))).1.map B, B (ag7 ((s.data.toList.take i).drop f) (crlf (s.data.toList.drop i))).2) := by
 have hdl : s.data.toList.length = s.size := E3 s
 have close : ∀ (i f : Nat) (out : List ByteArray), i ≤ s.size → s.size ≤ i + 1 → f ≤ i → crlf (s.data.toList.drop i) = ([], s.data.toList.drop i) →
   Ev (fun k => L3.l0 k s out (f : Int) (i : Int)) (out ++ (ag7 ((s.data.toList.take i).drop f) (crlf (s.data.toList.drop i))).1.map B, B (ag7 ((s.data.toList.take i).drop f) (crlf (s.data.toList.drop i))).2) := by
  intro i f out hi h1 hf hc
  refine Ev.step (f := fun _ => some (out, s.extract f s.size)) (fun k => by
   rw [L3.l0, Y5 (x := (i : Int) + 1) (by omega) (by omega), if_neg (by omega), if_pos (by omega), if_pos (by omega)]
   rfl) ?_
  rw [hc]
  have e : s.extract f s.size = B ((s.data.toList.take i).drop f ++ s.data.toList.drop i) := by
   refine as9 ?_
   rw [Z0, ← List.drop_append_of_le_length (by rw [List.length_take]; omega), List.take_append_drop, List.take_of_length_le (by omega)]
  rw [e]
  simpa [ag7] using Ev.now (out, B ((s.data.toList.take i).drop f ++ s.data.toList.drop i))
 intro n
 induction n with
 | zero =>
  intro d i f out hd hi hf _
  refine close i f out (by omega) (by omega) hf ?_
  rw [List.drop_eq_nil_of_le (by omega)]
  rfl
 | succ n ih =>
  intro d i f out hd hi hf ho
  match d, hd, hi with
  | 0, _, hi =>
   refine close i f out (by omega) (by omega) hf ?_
   rw [List.drop_eq_nil_of_le (by omega)]
   rfl
  | 1, _, hi =>
   refine close i f out (by omega) (by omega) hf ?_
   rw [List.drop_eq_getElem_cons (by omega), List.drop_eq_nil_of_le (by omega)]
   rfl
  | d + 2, hd, hi =>
   have h0 : i < s.data.toList.length := by omega
   have h1 : i + 1 < s.data.toList.length := by omega
   have e0 : s.data.toList.drop i = s.data.toList[i] :: s.data.toList[i + 1] :: s.data.toList.drop (i + 2) := by
    rw [List.drop_eq_getElem_cons h0, List.drop_eq_getElem_cons h1]
   have e1 : s.data.toList.drop (i + 1) = s.data.toList[i + 1] :: s.data.toList.drop (i + 2) := by rw [List.drop_eq_getElem_cons h1]
   rw [e0, crlf]
   by_cases hc : s.data.toList[i] = 13 ∧ s.data.toList[i + 1] = 10
   ·rw [if_pos hc]
    refine Ev.step (f := fun k => L3.l0 k s (out ++ [s.extract f i]) ((i + 2 : Nat) : Int) ((i + 2 : Nat) : Int)) (fun k => by
     rw [L3.l0, Y5 (x := (i : Int) + 1) (by omega) (by omega), if_pos (by omega), if_pos (by omega), if_pos (by omega), if_pos (by rw [au0 s i h0, hc.1]; rfl), if_pos (by omega), show ((i : Int) + 1) = ((i + 1 : Nat) : Int) by omega,
      if_pos (by rw [au0 s (i + 1) h1, hc.2]; rfl), if_pos (by omega), if_pos (by omega), if_pos (by omega), if_pos (by omega), Y5 (x := ((i + 1 : Nat) : Int) + 1) (by omega) (by omega), show ((i + 1 : Nat) : Int) + 1 = ((i + 2 : Nat) : Int) by omega]
     rfl) ?_
    have h := ih d (i + 2) (i + 2) (out ++ [s.extract f i]) (by omega) (by omega) (Nat.le_refl _) (by rw [List.length_append, List.length_singleton]; omega)
    have en : (s.data.toList.take (i + 2)).drop (i + 2) = [] := List.drop_eq_nil_of_le (by rw [List.length_take]; omega)
    have ef : ∀ x : List (List UInt8) × List UInt8, ag7 [] x = x := fun x => by obtain ⟨l, t⟩ := x; cases l <;> rfl
    rw [en, ef] at h
    have e2 : s.extract f i = B ((s.data.toList.take i).drop f) := as9 (Z0 s f i)
    rw [e2] at h ⊢
    simpa [ag7] using h
   ·rw [if_neg hc]
    refine Ev.step (f := fun k => L3.l0 k s out (f : Int) ((i + 1 : Nat) : Int)) (fun k => by
     rw [L3.l0, Y5 (x := (i : Int) + 1) (by omega) (by omega), if_pos (by omega), if_pos (by omega), if_pos (by omega), show ((i : Int) + 1) = ((i + 1 : Nat) : Int) by omega]
     by_cases ha : s.data.toList[i] = 13
     ·rw [if_pos (by rw [au0 s i h0, ha]; rfl), if_pos (by omega), if_neg (by rw [au0 s (i + 1) h1]; intro e; exact hc ⟨ha, UInt8.toNat_inj.1 (by show _ = 10; omega)⟩)]
     ·rw [if_neg (by rw [au0 s i h0]; intro e; exact ha (UInt8.toNat_inj.1 (by show _ = 13; omega)))]) ?_
    have h := ih (d + 1) (i + 1) f out (by omega) (by omega) (by omega) (by omega)
    rw [by2]
    have e : (s.data.toList.take i).drop f ++ [s.data.toList[i]] = (s.data.toList.take (i + 1)).drop f := by
     rw [List.take_succ_eq_append_getElem h0, List.drop_append_of_le_length (by rw [List.length_take]; omega)]
    rw [e, ← e1]
    exact h
theorem b98 (s : ByteArray) (hs : s.size ≤ 1073741824) : Ev (fun k => L3.f k s) ((crlf s.data.toList).1.map B, B (crlf s.data.toList).2) := by
 have h := bU6 s hs s.size s.size 0 0 [] (Nat.le_refl _) (by omega) (Nat.le_refl _) (Nat.le_refl _)
 have ef : ∀ x : List (List UInt8) × List UInt8, ag7 [] x = x := fun x => by obtain ⟨l, t⟩ := x; cases l <;> rfl
 simp only [List.take_zero, List.drop_nil, List.drop_zero, List.nil_append, ef] at h
 exact h
theorem aY8 : ∀ (a s : List UInt8), 13 ∉ a → crlf (a ++ 13 :: 10 :: s) = (a :: (crlf s).1, (crlf s).2)
 | [], s, _ => by rw [List.nil_append, crlf, if_pos ⟨rfl, rfl⟩]
 | [x], s, h => by
  have hx : ¬ x = 13 := fun e => h (by simp [e])
  show crlf (x :: 13 :: 10 :: s) = _
  rw [crlf, if_neg (fun e => hx e.1), crlf, if_pos ⟨rfl, rfl⟩]
  rfl
 | x :: y :: a, s, h => by
  have hx : ¬ x = 13 := fun e => h (by simp [e])
  have ih := aY8 (y :: a) s (fun e => h (List.mem_cons_of_mem _ e))
  show crlf (x :: y :: (a ++ 13 :: 10 :: s)) = _
  rw [crlf, if_neg (fun e => hx e.1)]
  have ih' : crlf (y :: (a ++ 13 :: 10 :: s)) = ((y :: a) :: (crlf s).1, (crlf s).2) := ih
  rw [ih']
  rfl
theorem cw5 (p : List UInt8) (x : List (List UInt8) × List UInt8) (n : Nat) (h : x.1.length ≤ n ∧ (∀ l ∈ x.1, l.length ≤ n) ∧ x.2.length ≤ n) : (ag7 p x).1.length ≤ n ∧ (∀ l ∈ (ag7 p x).1, l.length ≤ n + p.length) ∧ (ag7 p x).2.length ≤ n + p.length := by
 obtain ⟨l, t⟩ := x
 obtain ⟨h1, h2, h3⟩ := h
 cases l with
 | nil =>
  refine ⟨h1, ?_, ?_⟩
  ·intro l hl
   cases hl
  ·simp only [ag7, List.length_append]
   have h3 : t.length ≤ n := h3
   omega
 | cons y l =>
  refine ⟨h1, fun z hz => ?_, by
   have h3 : t.length ≤ n := h3
   show t.length ≤ _
   omega⟩
  simp only [ag7, List.mem_cons] at hz
  rcases hz with rfl | hz
  ·have := h2 y (by simp)
   rw [List.length_append]
   omega
  ·have := h2 z (by simp [hz])
   omega
theorem aS9 : ∀ s : List UInt8, (crlf s).1.length ≤ s.length ∧ (∀ l ∈ (crlf s).1, l.length ≤ s.length) ∧ (crlf s).2.length ≤ s.length
 | [] => ⟨Nat.le_refl _, fun l hl => absurd (show l ∈ ([] : List (List UInt8)) from hl) (by simp), Nat.le_refl _⟩
 | [a] => ⟨Nat.zero_le _, fun l hl => absurd (show l ∈ ([] : List (List UInt8)) from hl) (by simp), Nat.le_refl _⟩
 | a :: b :: l => by
  rw [crlf]
  by_cases h : a = 13 ∧ b = 10
  ·rw [if_pos h]
   obtain ⟨h1, h2, h3⟩ := aS9 l
   refine ⟨by simp only [List.length_cons]; omega, fun x hx => ?_, by simp only [List.length_cons]; omega⟩
   simp only [List.mem_cons] at hx
   rcases hx with rfl | hx
   ·exact Nat.zero_le _
   ·have := h2 x hx
    simp only [List.length_cons]
    omega
  ·rw [if_neg h]
   have ih := aS9 (b :: l)
   obtain ⟨h1, h2, h3⟩ := cw5 [a] (crlf (b :: l)) _ ih
   refine ⟨by simp only [List.length_cons] at h1 ⊢; omega, fun x hx => ?_, ?_⟩
   ·have := h2 x hx
    simp only [List.length_cons, List.length_nil] at this ⊢
    omega
   ·simp only [List.length_cons, List.length_nil] at h3 ⊢
    omega
end Go.Proofs.YtbncnjgflhoneaaGreatDoor.Hand
namespace Go.Proofs.YtbncnjgflhoneaaGreatDoor.Hand
open Go.RowKit Go.Proofs.YtbncnjgflhoneaaGreatDoor.F Go.Proofs.YtbncnjgflhoneaaGreatDoorW.l8 Go.Proofs.YtbncnjgflhoneaaGreatDoorW.s9 Go.Proofs.YtbncnjgflhoneaaGreatDoorW.y9
theorem b27 (s : ByteArray) (c : UInt8) : stringslite_HasPrefix.f s (⟨#[c]⟩ : ByteArray) = some (decide (s.data.toList.head? = some c)) := by
 have hl := E3 s
 have h1 : ((⟨#[c]⟩ : ByteArray).size : Int) = 1 := rfl
 have h2 : (⟨#[c]⟩ : ByteArray).toList = [c] := toL _
 unfold stringslite_HasPrefix.f
 rw [h1, h2]
 cases hd : s.data.toList with
 | nil =>
  rw [hd] at hl
  rw [if_neg (by simp at hl; omega)]
  rfl
 | cons x r =>
  rw [hd, List.length_cons] at hl
  rw [if_pos (by omega), if_pos (by decide), if_pos (by omega)]
  have e : (s.extract 0 (1 : Int).toNat).toList = [x] := by
   rw [toL, Z0, hd]
   rfl
  rw [e]
  refine congrArg some ?_
  by_cases hx : x = c
  ·subst hx; simp
  ·rw [show ([x] == [c]) = false by simp [hx]]; simp [hx]
theorem bK5 (s : ByteArray) : s.extract 1 s.size = B s.data.toList.tail := by
 refine as9 ?_
 rw [Z0, List.take_of_length_le (by rw [E3]; exact Nat.le_refl _), List.drop_one]
theorem by3 (s : ByteArray) (c : UInt8) : strings_CutPrefix.f s (⟨#[c]⟩ : ByteArray) = some (if s.data.toList.head? = some c then (B s.data.toList.tail, true) else (s, false)) := by
 have hl := E3 s
 have h1 : ((⟨#[c]⟩ : ByteArray).size : Int) = 1 := rfl
 unfold strings_CutPrefix.f stringslite_CutPrefix.f
 rw [b27, Option.bind_some, h1]
 by_cases h : s.data.toList.head? = some c
 ·have hs : 1 ≤ s.size := by
   cases hd : s.data.toList with
   | nil => rw [hd] at h; cases h
   | cons x r => rw [hd, List.length_cons] at hl; omega
  rw [if_pos (decide_eq_true h), if_pos (by decide), if_pos (by omega), if_pos h, show (1 : Int).toNat = 1 from rfl, bK5]
  rfl
 ·rw [if_neg (by simpa using h), if_neg h]
  rfl
theorem bt3 (s : ByteArray) (c : UInt8) : strings_TrimPrefix.f s (⟨#[c]⟩ : ByteArray) = some (B (if s.data.toList.head? = some c then s.data.toList.tail else s.data.toList)) := by
 have hl := E3 s
 have h1 : ((⟨#[c]⟩ : ByteArray).size : Int) = 1 := rfl
 unfold strings_TrimPrefix.f stringslite_TrimPrefix.f
 rw [b27, Option.bind_some, h1]
 by_cases h : s.data.toList.head? = some c
 ·have hs : 1 ≤ s.size := by
   cases hd : s.data.toList with
   | nil => rw [hd] at h; cases h
   | cons x r => rw [hd, List.length_cons] at hl; omega
  rw [if_pos (decide_eq_true h), if_pos (by decide), if_pos (by omega), if_pos h, show (1 : Int).toNat = 1 from rfl, bK5]
  rfl
 ·rw [if_neg (by simpa using h), if_neg h, aW5]
  rfl
def c61 (c : UInt8) (l : List UInt8) : List UInt8 := if l.getLast? = some c then l.dropLast else l
theorem d02 (c : UInt8) (l : List UInt8) : (c61 c l).length ≤ l.length := by
 unfold c61
 split
 ·rw [List.length_dropLast]; omega
 ·exact Nat.le_refl _
theorem bt4 (s : ByteArray) (hs : s.size ≤ 1073741824) (c : UInt8) : strings_TrimSuffix.f s (⟨#[c]⟩ : ByteArray) = some (B (c61 c s.data.toList)) := by
 have hl := E3 s
 have h1 : ((⟨#[c]⟩ : ByteArray).size : Int) = 1 := rfl
 have h2 : (⟨#[c]⟩ : ByteArray).toList = [c] := toL _
 unfold strings_TrimSuffix.f stringslite_TrimSuffix.f stringslite_HasSuffix.f c61
 rw [h1, h2]
 by_cases h0 : s.size = 0
 ·have hd : s.data.toList = [] := List.eq_nil_of_length_eq_zero (by omega)
  rw [if_neg (by omega), hd]
  have : s = B [] := as9 hd
  rw [this]
  rfl
 ·rw [if_pos (by omega), Y5 (x := (s.size : Int) - 1) (by omega) (by omega), if_pos (by omega), if_pos (by omega), show ((s.size : Int) - 1).toNat = s.size - 1 by omega]
  have hne : s.data.toList ≠ [] := fun e => h0 (by rw [e] at hl; simpa using hl.symm)
  have e : (s.extract (s.size - 1) s.size).toList = [s.data.toList.getLast hne] := by
   have e' : s.data.toList = s.data.toList.dropLast ++ [s.data.toList.getLast hne] := (List.dropLast_concat_getLast hne).symm
   rw [toL, Z0, List.take_of_length_le (by omega)]
   exact (congrArg (List.drop (s.size - 1)) e').trans (List.drop_left' (by rw [List.length_dropLast]; omega))
  rw [e, List.getLast?_eq_some_getLast hne]
  by_cases hx : s.data.toList.getLast hne = c
  ·rw [hx, Option.bind_some, if_pos (by simp), if_pos rfl]
   have e2 : s.extract 0 (s.size - 1) = B s.data.toList.dropLast := by
    refine as9 ?_
    rw [Z0, List.drop_zero, List.dropLast_eq_take, hl]
   rw [e2, if_pos (show 0 ≤ (s.size : Int) - 1 by omega), if_pos (show (s.size : Int) - 1 ≤ (s.size : Int) by omega)]
   rfl
  ·rw [show ([s.data.toList.getLast hne] == [c]) = false from beq_eq_false_iff_ne.2 (fun e => hx (List.cons.inj e).1), Option.bind_some, if_neg (by decide), if_neg (fun e => hx (Option.some.inj e)), aW5]
   rfl
theorem bc4 (c x : UInt8) : ∀ l : List UInt8, x ∈ l → x = c ∨ ∃ p ∈ cutAt c l, x ∈ p
 | [], h => by cases h
 | a :: l, h => by
  rw [cutAt]
  by_cases e : a = c
  ·rw [if_pos e]
   rcases List.mem_cons.1 h with rfl | h
   ·exact .inl e
   ·rcases bc4 c x l h with h | ⟨p, hp, hx⟩
    ·exact .inl h
    ·exact .inr ⟨p, List.mem_cons_of_mem _ hp, hx⟩
  ·rw [if_neg e]
   cases hq : cutAt c l with
   | nil => exact absurd hq (aO3 c l)
   | cons y r =>
    rcases List.mem_cons.1 h with rfl | h
    ·exact .inr ⟨x :: y, by simp [front], by simp⟩
    ·rcases bc4 c x l h with h | ⟨p, hp, hx⟩
     ·exact .inl h
     ·rw [hq] at hp
      rcases List.mem_cons.1 hp with rfl | hp
      ·exact .inr ⟨a :: p, by simp [front], by simp [hx]⟩
      ·exact .inr ⟨p, by simp [front, hp], hx⟩
def bK6 (c : UInt8) : Bool := aq3 c || c == 46 || c == 60 || c == 62 || c == 64
theorem aX2 {s : ByteArray} (h : ap0 s = true) : ∀ x ∈ s.data.toList, aq3 x = true := by
 unfold ap0 at h
 rw [Bool.and_eq_true] at h
 exact fun x hx => List.all_eq_true.1 h.2 x hx
theorem bf8 (d : ByteArray) : (ap2 d).map (·.data.toList) = cutAt 46 d.data.toList := bc2 46 d.size d (Nat.le_refl _)
theorem b99 {d : ByteArray} (h : aC6 d = true) : ∀ x ∈ d.data.toList, aq3 x = true ∨ x = 46 := by
 unfold aC6 at h
 rw [Bool.and_eq_true] at h
 intro x hx
 rcases bc4 46 x _ hx with h1 | ⟨p, hp, hxp⟩
 ·exact .inr h1
 ·rw [← bf8] at hp
  obtain ⟨s, hs, rfl⟩ := List.mem_map.1 hp
  exact .inl (aX2 (List.all_eq_true.1 h.1 s hs) x hxp)
theorem ap6 {u d : ByteArray} (h : a43 u d = true) : u = B [] ∧ d = B [] := by
 unfold a43 at h
 rw [Bool.and_eq_true] at h
 have h1 := eq_of_beq h.1
 have h2 := eq_of_beq h.2
 rw [toL] at h1 h2
 exact ⟨as9 h1, as9 h2⟩
theorem b49 {u d : ByteArray} (h : (a43 u d || U9 u d) = true) : ∀ x ∈ J3 u d, bK6 x = true := by
 unfold J3
 by_cases hn : a43 u d = true
 ·rw [if_pos hn]
  intro x hx
  simp at hx
  rcases hx with rfl | rfl <;> decide
 ·rw [if_neg hn]
  rw [Bool.eq_false_iff.2 hn, Bool.false_or] at h
  unfold U9 at h
  rw [Bool.and_eq_true] at h
  intro x hx
  simp only [List.mem_cons, List.mem_append, List.not_mem_nil, or_false] at hx
  unfold bK6
  rcases hx with rfl | hx | rfl | hx | rfl
  ·decide
  ·simp [aX2 h.1 x hx]
  ·decide
  ·rcases b99 h.2 x hx with e | e
   ·simp [e]
   ·simp [e]
  ·decide
theorem bt5 {u d : ByteArray} (h : U9 u d = true) : a43 u d = false ∧ (64 : UInt8) ∉ u.data.toList ∧ (64 : UInt8) ∉ d.data.toList := by
 unfold U9 at h
 rw [Bool.and_eq_true] at h
 refine ⟨?_, fun hx => ?_, fun hx => ?_⟩
 ·rw [Bool.eq_false_iff]
  intro hn
  rw [(ap6 hn).1] at h
  exact absurd h.1 (by decide)
 ·exact absurd (aX2 h.1 _ hx) (by decide)
 ·rcases b99 h.2 _ hx with e | e
  ·exact absurd e (by decide)
  ·exact absurd e (by decide)
def ag8 (l : List UInt8) : List UInt8 := c61 62 (if l.head? = some 60 then l.tail else l)
theorem bD5 (l : List UInt8) : (ag8 l).length ≤ l.length := by
 unfold ag8
 refine Nat.le_trans (d02 _ _) ?_
 split
 ·rw [List.length_tail]; omega
 ·exact Nat.le_refl _
def an4 (l : List UInt8) : ByteArray × ByteArray × Bool :=
 if (decide (l.head? = some 60) && ((a43 (B (Lib.cut (ag8 l) [64]).1) (B (Lib.cut (ag8 l) [64]).2.1) || U9 (B (Lib.cut (ag8 l) [64]).1) (B (Lib.cut (ag8 l) [64]).2.1)) && decide (J3 (B (Lib.cut (ag8 l) [64]).1) (B (Lib.cut (ag8 l) [64]).2.1) = l))) = true
 then (B (Lib.cut (ag8 l) [64]).1, B (Lib.cut (ag8 l) [64]).2.1, true) else (B [], B [], false)
theorem bf9 (s : ByteArray) (hs : s.size ≤ 536870912) : Ev (fun k => S8.f k s) (an4 s.data.toList) := by
 have hl := E3 s
 have hin := bD5 s.data.toList
 have hc := aS8 [64] (ag8 s.data.toList)
 unfold an4
 generalize hu : B (Lib.cut (ag8 s.data.toList) [64]).1 = u
 generalize hd : B (Lib.cut (ag8 s.data.toList) [64]).2.1 = d
 have hus : u.size ≤ 1073741824 := by rw [← hu, D8]; omega
 have hds : d.size ≤ 1073741824 := by rw [← hd, D8]; omega
 have step : ∀ k, S8.f k s = (if decide (s.data.toList.head? = some 60) = true then ((M7.f k u d).bind fun t109 => (if t109 = true then ((Q2.f u d).bind fun t110 => (if t110.toList = s.toList then (some (u, d, true)) else (some ((⟨#[]⟩ : ByteArray), (⟨#[]⟩ : ByteArray), false)))) else (some ((⟨#[]⟩ : ByteArray), (⟨#[]⟩ : ByteArray), false)))) else (some ((⟨#[]⟩ : ByteArray), (⟨#[]⟩ : ByteArray), false))) := fun k => by
  unfold S8.f
  rw [by3, Option.bind_some]
  have e : (if s.data.toList.head? = some 60 then (B s.data.toList.tail, true) else (s, false)) = (B (if s.data.toList.head? = some 60 then s.data.toList.tail else s.data.toList), decide (s.data.toList.head? = some 60)) := by
   by_cases h : s.data.toList.head? = some 60
   ·rw [if_pos h, if_pos h, decide_eq_true h]
   ·rw [if_neg h, if_neg h, aW5, decide_eq_false h]
  rw [e]
  have hsz : (B (if s.data.toList.head? = some 60 then s.data.toList.tail else s.data.toList)).size ≤ 1073741824 := by
   rw [D8]
   split
   ·rw [List.length_tail]; omega
   ·omega
  rw [bt4 _ hsz, Option.bind_some, M5]
  have hq : c61 62 (if s.data.toList.head? = some 60 then s.data.toList.tail else s.data.toList) = ag8 s.data.toList := rfl
  rw [hq, ap5 _ _ (by rw [D8]; omega), Option.bind_some, M5]
  show (if decide _ = true then ((M7.f k (B (Lib.cut (ag8 s.data.toList) [64]).1) (B (Lib.cut (ag8 s.data.toList) [64]).2.1)).bind _) else _) = _
  rw [hu, hd]
 refine Ev.congr step ?_
 by_cases h60 : s.data.toList.head? = some 60
 ·rw [decide_eq_true h60, Bool.true_and]
  refine Ev.congr (fun k => if_pos rfl) ?_
  refine Ev.call (a := (a43 u d || U9 u d)) (Ev.exact (d.size + 2) fun k hk => b66 u d hds k hk) (h := fun _ => some (if ((a43 u d || U9 u d) && decide (J3 u d = s.data.toList)) = true then (u, d, true) else (B [], B [], false))) (fun k => ?_) (Ev.now _)
  cases hg : (a43 u d || U9 u d)
  ·rfl
  ·rw [if_pos rfl, aD8 u d hus hds, Option.bind_some, ab7, toL, Bool.true_and]
   by_cases ht : J3 u d = s.data.toList
   ·rw [if_pos ht, if_pos (decide_eq_true ht)]
   ·rw [if_neg ht, if_neg (by simpa using ht)]
    rfl
 ·rw [decide_eq_false h60, Bool.false_and]
  exact Ev.congr (fun k => if_neg (by decide)) (Ev.now _)
theorem bt6 (l : List UInt8) : (an4 l).1.size ≤ l.length ∧ (an4 l).2.1.size ≤ l.length := by
 have hin := bD5 l
 have hc := aS8 [64] (ag8 l)
 unfold an4
 split
 ·exact ⟨by rw [D8]; omega, by rw [D8]; omega⟩
 ·exact ⟨Nat.zero_le _, Nat.zero_le _⟩
theorem aT0 {u d : ByteArray} (h : (a43 u d || U9 u d) = true) : an4 (J3 u d) = (u, d, true) := by
 have key : Lib.cut (ag8 (J3 u d)) [64] = (u.data.toList, d.data.toList, (Lib.cut (ag8 (J3 u d)) [64]).2.2) ∧ (J3 u d).head? = some 60 := by
  cases hn : a43 u d
  ·rw [hn, Bool.false_or] at h
   obtain ⟨_, h1, _⟩ := bt5 h
   have e : J3 u d = 60 :: (u.data.toList ++ 64 :: (d.data.toList ++ [62])) := by unfold J3; rw [if_neg (by rw [hn]; decide)]
   have e2 : ag8 (J3 u d) = u.data.toList ++ 64 :: d.data.toList := by
    rw [e]
    unfold ag8
    rw [if_pos (by rfl), List.tail_cons, show u.data.toList ++ 64 :: (d.data.toList ++ [62]) = (u.data.toList ++ 64 :: d.data.toList) ++ [62] by simp]
    unfold c61
    rw [List.getLast?_concat, if_pos rfl, List.dropLast_concat]
   rw [e2, aL9 64 _ _ h1, e]
   exact ⟨rfl, rfl⟩
  ·obtain ⟨rfl, rfl⟩ := ap6 hn
   have e : J3 (B []) (B []) = [60, 62] := if_pos hn
   rw [e]
   exact ⟨rfl, rfl⟩
 unfold an4
 rw [key.1, key.2]
 show (if (decide (some (60 : UInt8) = some 60) && ((a43 (B u.data.toList) (B d.data.toList) || U9 (B u.data.toList) (B d.data.toList)) && decide (J3 (B u.data.toList) (B d.data.toList) = J3 u d))) = true then (B u.data.toList, B d.data.toList, true) else _) = _
 rw [aW5, aW5, h, if_pos (by simp)]
theorem aX3 (c : UInt8) : ∀ l : List UInt8, c ∉ l → cutAt c l = [l]
 | [], _ => rfl
 | a :: l, h => by
  rw [List.mem_cons, not_or] at h
  rw [cutAt, if_neg (fun e => h.1 e.symm), aX3 c l h.2]
  rfl
theorem aO7 (c : UInt8) (b : List UInt8) : ∀ a : List UInt8, c ∉ a → cutAt c (a ++ c :: b) = a :: cutAt c b
 | [], _ => by rw [List.nil_append, cutAt, if_pos rfl]
 | x :: a, h => by
  rw [List.mem_cons, not_or] at h
  rw [List.cons_append, cutAt, if_neg (fun e => h.1 e.symm), aO7 c b a h.2]
  rfl
theorem bU7 (p : List UInt8) (L : List (List UInt8)) (n : Nat) (h : ∀ x ∈ L, x.length ≤ n) : ∀ x ∈ front p L, x.length ≤ n + p.length := by
 cases L with
 | nil => intro x hx; simp only [front, List.mem_singleton] at hx; subst hx; omega
 | cons y r =>
  intro x hx
  simp only [front, List.mem_cons] at hx
  rcases hx with rfl | hx
  ·have := h y (by simp)
   rw [List.length_append]; omega
  ·have := h x (by simp [hx])
   omega
theorem aT1 (c : UInt8) : ∀ (l : List UInt8) (m : Nat), (ab3 c m l).length ≤ m + 1 ∧ ∀ x ∈ ab3 c m l, x.length ≤ l.length
 | [], m => by cases m <;> simp [ab3]
 | a :: l, 0 => by simp [ab3]
 | a :: l, m + 1 => by
  rw [ab3]
  by_cases e : a = c
  ·rw [if_pos e]
   have h := aT1 c l m
   refine ⟨by rw [List.length_cons]; omega, fun x hx => ?_⟩
   rcases List.mem_cons.1 hx with rfl | hx
   ·exact Nat.zero_le _
   ·have := h.2 x hx
    rw [List.length_cons]; omega
  ·rw [if_neg e]
   have h := aT1 c l (m + 1)
   have hf := bU7 [a] _ _ h.2
   refine ⟨?_, fun x hx => by have := hf x hx; simpa using this⟩
   have h1 := h.1
   cases hq : ab3 c (m + 1) l with
   | nil => simp [front]
   | cons y r => rw [hq] at h1; exact h1
def am4 (l : List UInt8) : List UInt8 := l.tail.dropLast
def ad5 (l : List UInt8) : ByteArray × ByteArray × Bool :=
 if l = [60, 62] then (B [], B [], true)
 else if l.length < 2 ∨ ¬ l.head? = some 60 ∨ ¬ l.getLast? = some 62 then (B [], B [], false)
 else match ab3 64 2 (am4 l) with
  | [x, y] => if U9 (B x) (B y) = true then (B x, B y, true) else (B [], B [], false)
  | _ => (B [], B [], false)
theorem dz3 (s : ByteArray) (_hs : 2 ≤ s.size) : s.extract 1 (s.size - 1) = B (am4 s.data.toList) := by
 have hl := E3 s
 refine as9 ?_
 unfold am4
 rw [Z0, List.dropLast_eq_take, List.length_tail, hl, ← List.drop_one, List.take_drop, List.drop_take]
 rw [List.take_drop]
theorem ay9 (s : ByteArray) (hs : s.size ≤ 536870912) : Ev (fun k => D0.f k s) (ad5 s.data.toList) := by
 have hl := E3 s
 unfold ad5
 by_cases h0 : s.data.toList = [60, 62]
 ·rw [if_pos h0]
  refine Ev.congr (f := fun _ => some (B [], B [], true)) (fun k => ?_) (Ev.now _)
  unfold D0.f
  rw [toL, if_pos h0]
  rfl
 rw [if_neg h0]
 have neg : (s.data.toList.length < 2 ∨ ¬ s.data.toList.head? = some 60 ∨ ¬ s.data.toList.getLast? = some 62) → Ev (fun k => D0.j0 k s true) (B [], B [], false) := fun _ =>
  Ev.step (f := fun _ => some (B [], B [], false)) (fun k => by rw [D0.j0, if_pos rfl]; rfl) (Ev.now _)
 by_cases h2 : s.data.toList.length < 2
 ·rw [if_pos (.inl h2)]
  refine Ev.congr (fun k => ?_) (neg (.inl h2))
  unfold D0.f
  rw [toL, if_neg h0, if_pos (by omega)]
 have hb : ∀ k, D0.f k s = if (bt s 0) = 60 then D0.j0 k s ((bt s ((s.size - 1 : Nat) : Int)) != 62) else D0.j0 k s true := fun k => by
  unfold D0.f
  rw [toL, if_neg h0, if_neg (by omega), if_pos (by omega), Y5 (x := (s.size : Int) - 1) (by omega) (by omega), if_pos (show 0 ≤ (s.size : Int) - 1 by omega), if_pos (show (s.size : Int) - 1 < (s.size : Int) by omega), show (s.size : Int) - 1 = ((s.size - 1 : Nat) : Int) by omega]
 have hne : s.data.toList ≠ [] := fun e => by rw [e] at h2; exact h2 (by decide)
 have e0 : bt s 0 = ((s.data.toList.head hne).toNat : Int) := by
  rw [show (0 : Int) = ((0 : Nat) : Int) from rfl, au0 s 0 (by omega), List.head_eq_getElem]
 have e1 : bt s ((s.size - 1 : Nat) : Int) = ((s.data.toList.getLast hne).toNat : Int) := by
  rw [au0 s (s.size - 1) (by omega), List.getLast_eq_getElem]
  simp only [hl]
 by_cases hh : s.data.toList.head? = some 60
 ·have hh' : s.data.toList.head hne = 60 := by rw [List.head?_eq_some_head hne] at hh; exact Option.some.inj hh
  by_cases hg : s.data.toList.getLast? = some 62
  ·have hg' : s.data.toList.getLast hne = 62 := by rw [List.getLast?_eq_some_getLast hne] at hg; exact Option.some.inj hg
   rw [if_neg (by rintro (h | h | h); exact h2 h; exact h hh; exact h hg)]
   refine Ev.congr (f := fun k => D0.j0 k s false) (fun k => ?_) ?_
   ·rw [hb, if_pos (by rw [e0, hh']; rfl), e1, hg']
    rfl
   have hc := aY7 (B (am4 s.data.toList)) (by rw [D8]; unfold am4; rw [List.length_dropLast, List.length_tail]; omega) 64 2 (by decide)
   rw [M5] at hc
   have hcl := aT1 64 (am4 s.data.toList) 2
   have hil : (am4 s.data.toList).length ≤ 536870912 := by unfold am4; rw [List.length_dropLast, List.length_tail]; omega
   refine Ev.step (f := fun k => (G5.f k (B (am4 s.data.toList)) 64 2).bind fun t102 => (if (t102.length : Int) = 2 then (if 0 < (t102.length : Int) then (if 1 < (t102.length : Int) then ((D4.f k (H9 ByteArray.empty t102 0) (H9 ByteArray.empty t102 1)).bind fun t108 => (if t108 = true then (some (H9 ByteArray.empty t102 0, H9 ByteArray.empty t102 1, true)) else (some ((⟨#[]⟩ : ByteArray), (⟨#[]⟩ : ByteArray), false)))) else (none)) else (none)) else (some ((⟨#[]⟩ : ByteArray), (⟨#[]⟩ : ByteArray), false)))) (fun k => by
    rw [D0.j0, if_neg (by decide), Y5 (x := (s.size : Int) - 1) (by omega) (by omega), if_pos (by omega), if_pos (by omega), show ((s.size : Int) - 1).toNat = s.size - 1 by omega, dz3 s (by omega)]) ?_
   refine Ev.bind hc ?_
   match hq : ab3 64 2 (am4 s.data.toList) with
   | [x, y] =>
    rw [hq] at hcl
    have hx := hcl.2 x (by simp)
    have hy := hcl.2 y (by simp)
    refine Ev.call (aL6 (B x) (B y) (by rw [D8]; omega) (by rw [D8]; omega)) (h := fun _ => some (if U9 (B x) (B y) = true then (B x, B y, true) else (B [], B [], false))) (fun k => ?_) (Ev.now _)
    cases hv : U9 (B x) (B y) <;> rfl
   | [] => exact Ev.now _
   | [x] => exact Ev.now _
   | x :: y :: z :: r =>
    refine Ev.congr (f := fun _ => some (B [], B [], false)) (fun k => ?_) (Ev.now _)
    exact if_neg (by simp only [List.length_map, List.length_cons]; omega)
  ·rw [if_pos (.inr (.inr hg))]
   refine Ev.congr (fun k => ?_) (neg (.inr (.inr hg)))
   have hg' : ¬ s.data.toList.getLast hne = 62 := fun e => hg (by rw [List.getLast?_eq_some_getLast hne, e])
   rw [hb, if_pos (by rw [e0, hh']; rfl), e1, bne_iff_ne.2 (fun e => hg' (UInt8.toNat_inj.1 (by show _ = 62; omega)))]
 ·rw [if_pos (.inr (.inl hh))]
  refine Ev.congr (fun k => ?_) (neg (.inr (.inl hh)))
  have hh' : ¬ s.data.toList.head hne = 60 := fun e => hh (by rw [List.head?_eq_some_head hne, e])
  rw [hb, if_neg (by rw [e0]; intro e; exact hh' (UInt8.toNat_inj.1 (by show _ = 60; omega)))]
theorem bt7 (l : List UInt8) : (ad5 l).1.size ≤ l.length ∧ (ad5 l).2.1.size ≤ l.length := by
 have hil : (am4 l).length ≤ l.length := by unfold am4; rw [List.length_dropLast, List.length_tail]; omega
 have hcl := aT1 64 (am4 l) 2
 unfold ad5
 split
 ·exact ⟨Nat.zero_le _, Nat.zero_le _⟩
 split
 ·exact ⟨Nat.zero_le _, Nat.zero_le _⟩
 split
 ·rename_i x y hq
  rw [hq] at hcl
  have hx := hcl.2 x (by simp)
  have hy := hcl.2 y (by simp)
  split
  ·exact ⟨by rw [D8]; omega, by rw [D8]; omega⟩
  ·exact ⟨Nat.zero_le _, Nat.zero_le _⟩
 ·exact ⟨Nat.zero_le _, Nat.zero_le _⟩
theorem aT2 {u d : ByteArray} (h : (a43 u d || U9 u d) = true) : ad5 (J3 u d) = (u, d, true) := by
 cases hn : a43 u d
 ·rw [hn, Bool.false_or] at h
  obtain ⟨_, h1, h2⟩ := bt5 h
  have e : J3 u d = 60 :: (u.data.toList ++ 64 :: (d.data.toList ++ [62])) := by unfold J3; rw [if_neg (by rw [hn]; decide)]
  have e2 : am4 (J3 u d) = u.data.toList ++ 64 :: d.data.toList := by
   rw [e]
   unfold am4
   rw [List.tail_cons, show u.data.toList ++ 64 :: (d.data.toList ++ [62]) = (u.data.toList ++ 64 :: d.data.toList) ++ [62] by simp, List.dropLast_concat]
  have e3 : ab3 64 2 (am4 (J3 u d)) = [u.data.toList, d.data.toList] := by
   have hc : cutAt 64 (am4 (J3 u d)) = [u.data.toList, d.data.toList] := by rw [e2, aO7 64 _ _ h1, aX3 64 _ h2]
   rw [(au4 64 (am4 (J3 u d)) 2).1 (by rw [hc]; simp), hc]
  have e4 : ¬ ((J3 u d).length < 2 ∨ ¬ (J3 u d).head? = some 60 ∨ ¬ (J3 u d).getLast? = some 62) := by
   rw [e]
   rintro (h | h | h)
   ·simp at h
    omega
   ·exact h rfl
   ·exact h (by rw [show 60 :: (u.data.toList ++ 64 :: (d.data.toList ++ [62])) = (60 :: (u.data.toList ++ 64 :: d.data.toList)) ++ [62] by simp, List.getLast?_concat])
  have e5 : ¬ J3 u d = [60, 62] := by
   rw [e]
   intro h
   have := congrArg List.length h
   simp at this
   omega
  unfold ad5
  rw [if_neg e5, if_neg e4, e3]
  show (if U9 (B u.data.toList) (B d.data.toList) = true then (B u.data.toList, B d.data.toList, true) else _) = _
  rw [aW5, aW5, if_pos h]
 ·obtain ⟨rfl, rfl⟩ := ap6 hn
  rw [show J3 (B []) (B []) = [60, 62] from if_pos hn]
  exact if_pos rfl
end Go.Proofs.YtbncnjgflhoneaaGreatDoor.Hand
namespace Go.Proofs.YtbncnjgflhoneaaGreatDoor.F
open Go.RowKit Go.Proofs.YtbncnjgflhoneaaGreatDoor.Hand Go.Proofs.YtbncnjgflhoneaaGreatDoorW.l8 Go.Proofs.YtbncnjgflhoneaaGreatDoorW.s9 Go.Proofs.YtbncnjgflhoneaaGreatDoorW.y9
def ac3.f (k : Nat) (a0 : ByteArray) : Option (List ByteArray × ByteArray) := if (a0.size : Int) > 800 then (some (([] : List ByteArray), (⟨#[]⟩ : ByteArray))) else ((Y0.f k a0).bind fun Y6 => (some (Y6.1, Y6.2)))
set_option maxHeartbeats 8000000 in
set_option maxRecDepth 100000 in
theorem ac3.calls (k : Nat) (a0 : ByteArray) (r1 : List ByteArray) (r2 : ByteArray) (w : World) (hG : Laid w) (h : ac3.f k a0 = some (r1, r2)) :
  Calls Tryz.prog 119 #[.string a0] w fun e w' => ∃ v0_ : Value, e = .returned (.tuple #[v0_, .string r2]) ∧ Kd.R Kd.string 9 w' w.heap.size (fun _ => True) v0_ r1 ∧ Below w.heap.size w w' := by
 have HG := j4.mk hG
 clear hG
 have HB := j4.mk (Below.refl w.heap.size w)
 have H := h
 clear h
 unfold ac3.f at H
 replace H := a29 H; rcases H with ⟨c2, ak5, H⟩ | ⟨c2, ak5, H⟩
 ·have aJ6 : decide (800 < a0.size) = true := decide_eq_true (by omega)
  clear c2
  simp only [Option.some.injEq, Prod.mk.injEq] at H
  obtain ⟨rfl, rfl⟩ := H
  go_enter Tryz.func119, Tryz.ntmps119
  go_wp2
  go_ret2
  exact ⟨_, zr, zn, zB⟩
 ·have aJ6 : decide (800 < a0.size) = false := decide_eq_false (by omega)
  clear c2
  replace H := S2 H; obtain ⟨⟨t101, t102⟩, A3, H⟩ := H
  dsimp only at H
  simp only [Option.some.injEq, Prod.mk.injEq] at H
  obtain ⟨rfl, rfl⟩ := H
  go_enter Tryz.func119, Tryz.ntmps119
  go_wp2_with (first | ((with_reducible refine j6 (f := 158) rfl ?_); refine gl 8 Tryz.func158 _ ((Y0.calls (w := _) (hG := gB) (h := A3.out)).mono ?_); rintro e w4 ⟨bH6, rfl, ho0, hb⟩; refine ⟨_, rfl, ?_⟩; have U8 := lS ho0; replace HB := bS hb; clear hb ho0))
  go_ret2
  exact ⟨_, zr, rO U8, zB⟩
def aj9.f (l0 : List ByteArray) : Option (ByteArray) := (ac6.f l0).bind fun t101 => (if t101 = true then ((ac7.f l0).bind fun t102 => (some t102)) else (some (⟨#[]⟩ : ByteArray)))
set_option maxHeartbeats 8000000 in
set_option maxRecDepth 100000 in
theorem aj9.calls (A0 : Option Addr) (c0 : Nat) (l0 : List ByteArray) (r : ByteArray) (w : World) (hr0 : Kd.C Kd.string w A0 l0.length l0) (hc0 : l0.length ≤ c0) (h : aj9.f l0 = some r) :
  Calls Tryz.prog 121 #[.slice A0 l0.length c0] w fun e w' => e = .returned (.string r) ∧ Below w.heap.size w w' := by
 have HR0 := j4.mk hr0
 have HC0 := j4.mk hc0
 clear hr0 hc0
 have HB := j4.mk (Below.refl w.heap.size w)
 have H := h
 clear h
 unfold aj9.f at H
 replace H := S2 H; obtain ⟨t101, A2, H⟩ := H
 replace H := itb H; rcases H with ⟨rfl, H⟩ | ⟨rfl, H⟩
 ·replace H := S2 H; obtain ⟨t102, A4, H⟩ := H
  obtain rfl := Option.some.inj H
  go_enter Tryz.func121, Tryz.ntmps121
  go_wp2_with (first | ((with_reducible refine j6 (f := 75) rfl ?_); refine gv 4 Tryz.func75 #[.slice A0 l0.length c0] (ac6.calls (w := _) (hr0 := by repeat (first | exact HR0.out | (with_reducible refine Kd.K4 ?_ _) | (with_reducible refine Kd.K5 ?_ _) | (with_reducible refine Kd.Q1 ?_))) (_hc0 := HC0.out) (h := A2.out)) ?_; rintro w' ⟨nd, rfl⟩) | ((with_reducible refine j6 (f := 65) rfl ?_); refine gv 7 Tryz.func65 #[.slice A0 l0.length c0] (ac7.calls (w := _) (hr0 := by repeat (first | exact HR0.out | (with_reducible refine Kd.K4 ?_ _) | (with_reducible refine Kd.K5 ?_ _) | (with_reducible refine Kd.Q1 ?_))) (_hc0 := HC0.out) (h := A4.out)) ?_; intro w5 hb; replace HB := bS hb; clear hb))
  go_ret
  exact ⟨zr, zB⟩
 ·obtain rfl := Option.some.inj H
  go_enter Tryz.func121, Tryz.ntmps121
  go_wp2_with (first | ((with_reducible refine j6 (f := 75) rfl ?_); refine gv 4 Tryz.func75 #[.slice A0 l0.length c0] (ac6.calls (w := _) (hr0 := by repeat (first | exact HR0.out | (with_reducible refine Kd.K4 ?_ _) | (with_reducible refine Kd.K5 ?_ _) | (with_reducible refine Kd.Q1 ?_))) (_hc0 := HC0.out) (h := A2.out)) ?_; rintro w' ⟨nd, rfl⟩))
  go_ret
  exact ⟨zr, zB⟩
end Go.Proofs.YtbncnjgflhoneaaGreatDoor.F
namespace Go.Proofs.YtbncnjgflhoneaaGreatDoor.F
open Go.RowKit Go.Proofs.YtbncnjgflhoneaaGreatDoor.Hand Go.Proofs.YtbncnjgflhoneaaGreatDoorW.l8 Go.Proofs.YtbncnjgflhoneaaGreatDoorW.s9 Go.Proofs.YtbncnjgflhoneaaGreatDoorW.y9
def O3.l0 : Nat → ByteArray → List ByteArray → List ByteArray → Int → Int → Option (List ByteArray × Bool)
 | 0, _, _, _, _, _ => none
 | k + 1, x0, x6, x21, x22, x23 => if x23 < x22 then (if 0 ≤ x23 then (if x23 < (x21.length : Int) then ((strings_TrimPrefix.f (H9 ByteArray.empty x21 x23) (⟨#[46]⟩ : ByteArray)).bind fun cP5 => (if x6.length < 8796093022208 then (O3.l0 k x0 (x6 ++ [cP5]) x21 x22 (wrap64 (x23 + 1))) else (none))) else (none)) else (none)) else ((aj9.f x6).bind fun dU7 => (if dU7.toList = x0.toList then (some (x6, true)) else (some (([] : List ByteArray), false))))
def O3.f (k : Nat) (a0 : ByteArray) : Option (List ByteArray × Bool) := (ac3.f k a0).bind fun bD6 => (if (bD6.1.length : Int) = 0 then (some (([] : List ByteArray), false)) else (if 0 ≤ (wrap64 ((bD6.1.length : Int) - 1)) then (if (wrap64 ((bD6.1.length : Int) - 1)) ≤ (bD6.1.length : Int) then ((some (bD6.1.take ((wrap64 ((bD6.1.length : Int) - 1)) : Int).toNat : List ByteArray)).bind fun bh4 => (O3.l0 k a0 ([] : List ByteArray) bh4 (bh4.length : Int) 0)) else (none)) else (none)))
set_option maxHeartbeats 8000000 in
set_option maxRecDepth 100000 in
theorem O3.calls (k : Nat) (a0 : ByteArray) (r1 : List ByteArray) (r2 : Bool) (w : World) (hG : Laid w) (h : O3.f k a0 = some (r1, r2)) :
  Calls Tryz.prog 78 #[.string a0] w fun e w' => ∃ v0_ : Value, e = .returned (.tuple #[v0_, .bool r2]) ∧ Kd.R Kd.string 9 w' w.heap.size (fun _ => True) v0_ r1 ∧ Below w.heap.size w w' := by
 have HG := j4.mk hG
 clear hG
 have HB := j4.mk (Below.refl w.heap.size w)
 have H := h
 clear h
 unfold O3.f at H
 replace H := S2 H; obtain ⟨⟨by4, eJ7⟩, A2, H⟩ := H
 dsimp only at H
 replace H := a45 H; rcases H with ⟨aD1, aZ5, H⟩ | ⟨c3, aD1, aZ5, H⟩
 ·simp only [Option.some.injEq, Prod.mk.injEq] at H
  obtain ⟨rfl, rfl⟩ := H
  go_enter Tryz.func78, Tryz.ntmps78
  go_wp2_with (first | ((with_reducible refine j6 (f := 119) rfl ?_); refine gl 11 Tryz.func119 _ ((ac3.calls (w := _) (hG := gB) (h := A2.out)).mono ?_); rintro e w4 ⟨ei1, rfl, ho0, hb⟩; refine ⟨_, rfl, ?_⟩; have bU8 := lS ho0; replace HB := bS hb; clear hb ho0; obtain ⟨Ao5, co5, eo5⟩ := Kd.s7 bU8.out; subst eo5))
  go_ret2
  exact ⟨_, zr, zn, zB⟩
 ·have c50 : ¬ (by4 = []) := fun h_ => c3 (by rw [h_]; rfl)
  obtain ⟨ji6, cw6⟩ : ∃ j_ : Int, (wrap64 ((by4.length : Int) - 1)) = j_ := ⟨_, rfl⟩
  first | rw [cw6] at H | simp only [cw6] at H
  (try rw [cw6] at A2)
  have ew2 : (IntKind.i64.wrap ((by4.length : Int) - 1)) = ji6 := (Z1 _).trans cw6
  replace H := Q5 H; obtain ⟨ak6, b77, H⟩ := H
  replace H := Q5 H; obtain ⟨aN6, bQ9, H⟩ := H
  first | (with_reducible replace H := bns H; obtain ⟨bh4, cP6, H⟩ := H) | (generalize V5 : (by4.take ((ji6) : Int).toNat : List ByteArray) = bh4 at H; have cP6 := j4.mk V5.symm; clear V5)
  have H' := j4.mk H
  clear H
  go_enter Tryz.func78, Tryz.ntmps78
  go_wp2_with (first | ((with_reducible refine j6 (f := 119) rfl ?_); refine gl 11 Tryz.func119 _ ((ac3.calls (w := _) (hG := gB) (h := A2.out)).mono ?_); rintro e w9 ⟨ei1, rfl, ho0, hb⟩; refine ⟨_, rfl, ?_⟩; have bU8 := lS ho0; replace HB := bS hb; clear hb ho0; obtain ⟨cL6, cv7, cL7⟩ := Kd.s7 bU8.out; subst cL7; have q11 : ((ji6) : Int) ≤ ((by4.length : Int) : Int) := of_decide_eq_true za; obtain ⟨eJ8, dn4, _, dU8, _⟩ := info_parts aF0; have cq8 : by4.length ≤ cv7 := (Kd.y7 bU8.out).2.1; have dU9 : Kd.C Kd.string _ cL6 by4.length by4 := (Kd.y7 bU8.out).2.2; have dz4 := bm9 (P := Tryz.prog) 25 9 .i64 Tryz.underlying25 dn4 cL6 by4.length cv7 (ji6) (of_decide_eq_true za) q11 cq8; have dz5 := Kd.cA5 (m := ((ji6) : Int).toNat) dU9 (by omega); have dz6 : bh4.length = ((ji6) : Int).toNat := (by rw [cP6.out, List.length_take]; omega); rw [← cP6.out] at dz5; rw [← dz6] at dz4; have dV0 := j4.mk dz5; have ew3 := j4.mk (show bh4.length ≤ cv7 from by omega); clear dz5 dU9 cq8 dn4 dU8; have eJ9 := j4.mk dz6; clear dz6; have eK0 := j4.mk (show ((ji6) : Int).toNat ≤ by4.length from by omega); replace q11 := eq_true q11))
  have HW9 := HB
  go_loopg [6, 23] k (fun kq v6 v23 w' => ∃ (a02 : List ByteArray) (bt8 : Int), v23 = .int .i64 bt8 ∧ j4 (O3.l0 kq a0 a02 bh4 (bh4.length : Int) bt8 = some (r1, r2)) ∧ j4 (kq ≤ k) ∧ j4 (Kd.R Kd.string 9 w' w9.heap.size (fun _ => True) v6 a02) ∧ j4 (Below w9.heap.size w9 w'))
  case atStart => exact ⟨(([] : List ByteArray)), (0), zs, H', ⟨Nat.le_refl _⟩, ⟨zn⟩, ⟨Below.refl _ _⟩⟩
  case round =>
   clear H'
   obtain ⟨a02, bt8, rfl, HA, HK1, aq9, HB⟩ := hrel
   cases gk with
   | zero => exact absurd HA.out (by simp [O3.l0])
   | succ k1 =>
    have H := HA.out
    clear HA
    simp only [O3.l0] at H
    replace H := K2 H; rcases H with ⟨ax7, H⟩ | ⟨ax7, H⟩
    ·replace H := S1 H; obtain ⟨al5, H⟩ := H
     replace H := S1 H; obtain ⟨aL5, H⟩ := H
     replace H := S2 H; obtain ⟨cP5, A15, H⟩ := H
     replace H := aj5 H; obtain ⟨bf2, H⟩ := H
     first | (with_reducible replace H := bns H; obtain ⟨dV1, dn5, H⟩ := H) | (generalize V5 : (a02 ++ [cP5] : List ByteArray) = dV1 at H; have dn5 := j4.mk V5.symm; clear V5)
     have H' := j4.mk H
     clear H
     have dz7 : 0 ≤ (bt8 : Int) := of_decide_eq_true za
     have dz8 : bt8 < (bh4.length : Int) := of_decide_eq_true za
     obtain ⟨ew4, ei2, bK7⟩ := Kd.E5 dV0.out bt8 dz7 dz8
     cases ei2
     replace bK7 := (HB.out.cell (World.block_lt_of_cell? w9 _ bK7)).trans bK7
     replace dz7 := eq_true dz7
     replace dz8 := eq_true dz8
     go_wp2_with (first | ((with_reducible refine j6 (f := 120) rfl ?_); refine gv 29 Tryz.func120 _ (strings_TrimPrefix.calls (w := _) (h := A15.out)) ?_; rintro w' ⟨nd, rfl⟩) | ((with_reducible refine N8 (b := .append) (xs := #[.tmp 27, .tmp 30]) rfl ?_); at_builtin; refine Kd.a89 Kd.string (w0 := w9) w9.heap.size rfl (.tmp 27) (.tmp 30) 25 9 (.string ⟨#[]⟩) 16 rfl Tryz.underlying25 aF0 rfl I1 (by omega) u6 a02 cP5 [.string cP5] (fun _ => True) (fun _ => False) rfl rfl ?aP (fun _ hk => hk.elim) ?aF ?aO ?aB ?aS ?aL ?_; (case aP => exact rfl); (case aB => exact zB); (case aF => exact (fun _ _ => trivial)); (case aO => exact (rO aq9)); (case aS => exact (bZ)); (case aL => have := bf2.out; omega); intro eK1 w17 ho hb hg hat; rw [← dn5.out] at ho; have P5 := j4.mk (hb); have P6 := j4.mk (ho); clear HB aq9; have HB := P5; have dV2 := P6; clear P5 P6 ho hb hg hat))
     go_roundg k1
     case measure => have := HK1.out; omega
     case rel => exact ⟨(dV1), (wrap64 (bt8 + 1)), zs, H', ⟨by have := HK1.out; omega⟩, ⟨rO dV2⟩, ⟨zB⟩⟩
    ·replace H := S2 H; obtain ⟨dU7, A18, H⟩ := H
     replace H := F6 H; rcases H with ⟨aD4, bf3, H⟩ | ⟨aD4, bf3, H⟩
     ·simp only [Option.some.injEq, Prod.mk.injEq] at H
      obtain ⟨rfl, rfl⟩ := H
      obtain ⟨bx8, bx9, br5⟩ := Kd.s7 aq9.out
      subst br5
      go_wp2_with (first | ((with_reducible refine j6 (f := 121) rfl ?_); refine gv 34 Tryz.func121 #[.slice bx8 a02.length bx9] (aj9.calls (w := _) (hr0 := rC aq9) (hc0 := cL aq9) (h := A18.out)) ?_; intro w21 hb; replace aq9 := rS aq9 hb; replace HB := bS hb; clear hb))
      go_ret2
      exact ⟨_, by first | rfl | (simp [W6, W7] <;> rfl) | (simp only [← cw6]; first | rfl | (simp [W6, W7] <;> rfl)) | (simp [*, W6, W7] <;> rfl), Kd.T9 (rO aq9) HW9.out.size, HW9.out.trans (Below.mono zB HW9.out.size)⟩
     ·simp only [Option.some.injEq, Prod.mk.injEq] at H
      obtain ⟨rfl, rfl⟩ := H
      obtain ⟨b44, aZ7, bh3⟩ := Kd.s7 aq9.out
      subst bh3
      go_wp2_with (first | ((with_reducible refine j6 (f := 121) rfl ?_); refine gv 34 Tryz.func121 #[.slice b44 a02.length aZ7] (aj9.calls (w := _) (hr0 := rC aq9) (hc0 := cL aq9) (h := A18.out)) ?_; intro w23 hb; replace aq9 := rS aq9 hb; replace HB := bS hb; clear hb))
      go_ret2
      exact ⟨_, by first | rfl | (simp [W6, W7] <;> rfl) | (simp only [← cw6]; first | rfl | (simp [W6, W7] <;> rfl)) | (simp [*, W6, W7] <;> rfl), zn, HW9.out.trans (Below.mono zB HW9.out.size)⟩
def K9.l0 : Nat → ByteArray → List ByteArray → List ByteArray → Int → Option (List ByteArray × Bool)
 | 0, _, _, _, _ => none
 | k + 1, x0, x4, x6, x7 => if (wrap64 (x7 + 1)) < (x4.length : Int) then (if 0 ≤ x7 then (if x7 < (x4.length : Int) then (if (H9 ByteArray.empty x4 x7).toList = ([] : List UInt8) then (if x6.length < 8796093022208 then (K9.l0 k x0 x4 (x6 ++ [H9 ByteArray.empty x4 x7]) (wrap64 (x7 + 1))) else (none)) else (if 0 < ((H9 ByteArray.empty x4 x7).size : Int) then (if (bt (H9 ByteArray.empty x4 x7) 0) = 46 then (if 1 ≤ ((H9 ByteArray.empty x4 x7).size : Int) then (if x6.length < 8796093022208 then (K9.l0 k x0 x4 (x6 ++ [(H9 ByteArray.empty x4 x7).extract 1 (H9 ByteArray.empty x4 x7).size]) (wrap64 (x7 + 1))) else (none)) else (none)) else (if x6.length < 8796093022208 then (K9.l0 k x0 x4 (x6 ++ [H9 ByteArray.empty x4 x7]) (wrap64 (x7 + 1))) else (none))) else (none))) else (none)) else (none)) else ((F8.f k x6).bind fun t118 => (if t118 = true then ((P4.f k x6).bind fun t119 => (if t119.toList = x0.toList then (some (x6, true)) else (some (([] : List ByteArray), false)))) else (some (([] : List ByteArray), false))))
def K9.f (k : Nat) (a0 : ByteArray) : Option (List ByteArray × Bool) := if (a0.size : Int) > 800 then (some (([] : List ByteArray), false)) else ((L3.f k a0).bind fun Y6 => (K9.l0 k a0 Y6.1 (([] : List ByteArray)) 0))
set_option maxHeartbeats 8000000 in
set_option maxRecDepth 100000 in
theorem K9.calls (k : Nat) (a0 : ByteArray) (r1 : List ByteArray) (r2 : Bool) (w : World) (h : K9.f k a0 = some (r1, r2)) :
  Calls Tryz.prog 128 #[.string a0] w fun e w' => ∃ v0_ : Value, e = .returned (.tuple #[v0_, .bool r2]) ∧ Kd.R Kd.string 9 w' w.heap.size (fun _ => True) v0_ r1 ∧ Below w.heap.size w w' := by
 have HB := j4.mk (Below.refl w.heap.size w)
 have H := h
 clear h
 unfold K9.f at H
 replace H := a29 H; rcases H with ⟨c2, ak5, H⟩ | ⟨c2, ak5, H⟩
 ·have aJ6 : decide (800 < a0.size) = true := decide_eq_true (by omega)
  clear c2
  simp only [Option.some.injEq, Prod.mk.injEq] at H
  obtain ⟨rfl, rfl⟩ := H
  go_enter Tryz.func128, Tryz.ntmps128
  go_wp2
  go_ret2
  exact ⟨_, zr, zn, zB⟩
 ·have aJ6 : decide (800 < a0.size) = false := decide_eq_false (by omega)
  clear c2
  replace H := S2 H; obtain ⟨⟨t101, t102⟩, A3, H⟩ := H
  dsimp only at H
  first | (with_reducible replace H := bns H; obtain ⟨bH7, aJ8, H⟩ := H) | (generalize V5 : (([] : List ByteArray) : List ByteArray) = bH7 at H; have aJ8 := j4.mk V5.symm; clear V5)
  have H' := j4.mk H
  clear H
  go_enter Tryz.func128, Tryz.ntmps128
  go_wp2_with (first | ((with_reducible refine j6 (f := 164) rfl ?_); refine gl 14 Tryz.func164 _ ((L3.calls (w := _) (h := A3.out)).mono ?_); rintro e w4 ⟨bH6, rfl, ho0, hb⟩; refine ⟨_, rfl, ?_⟩; have U8 := lS ho0; replace HB := bS hb; clear hb ho0) | ((with_reducible refine l9 (N := 17) rfl ?_); refine Kd.aI8 Kd.string _ 9 ?hg (N := 17) ?hd (xs := ([] : List ByteArray)) (inner := []) (ok := fun _ => True) (okp := fun _ => True) ?hr ?hp (fun _ hk => hk) trivial (Below.refl _ _) (Nat.le_refl _) (by simp) ?_; (case hd => rfl); (case hg => rfl); (case hr => first | (go_simp; done) | (go_simp; rfl)); (case hp => exact (M4.none _ _)); intro ct8 w5 ho6 hb hg_ X3; clear hg_ X3; (first | rw [← aJ8.out] at ho6 | (simp only [Int.reduceToNat] at ho6; rw [← aJ8.out] at ho6)); have O6 := j4.mk (Kd.T9 (Kd.as0 ho6 (Kd.aa3 (rO U8))) (bZ)); replace U8 := j4.mk (Kd.ab6 (rO U8) (Kd.J6 ho6) hb); replace HB := bS hb; clear hb ho6))
  go_loopg [6, 7] k (fun kq v6 v7 w' => ∃ (a02 : List ByteArray) (a26 : Int), v7 = .int .i64 a26 ∧ j4 (K9.l0 kq a0 t101 a02 a26 = some (r1, r2)) ∧ j4 (kq ≤ k) ∧ j4 (Kd.R Kd.string 9 w' w.heap.size (fun k_ => some k_ ≠ (v6 : Value).ownBlock) bH6 t101) ∧ j4 (Kd.R Kd.string 9 w' w.heap.size (fun k_ => some k_ ≠ (bH6 : Value).ownBlock) v6 a02) ∧ j4 (Below w.heap.size w w'))
  case atStart => exact ⟨(bH7), (0), zs, H', ⟨Nat.le_refl _⟩, ⟨by (with_reducible repeat (first | apply Kd.N9 | apply Kd.M8 | apply Kd.O0)); exact Kd.E0 U8.out (fun _ hk => hk.2)⟩, ⟨by (with_reducible repeat (first | apply Kd.N9 | apply Kd.M8 | apply Kd.O0)); exact Kd.E0 O6.out (fun _ hk => hk.2)⟩, ⟨zB⟩⟩
  case round =>
   clear H'
   obtain ⟨a02, a26, rfl, HA, HK1, L9, aq9, HB⟩ := hrel
   cases gk with
   | zero => exact absurd HA.out (by simp [K9.l0])
   | succ k1 =>
    have H := HA.out
    clear HA
    simp only [K9.l0] at H
    replace H := K2 H; rcases H with ⟨ak6, H⟩ | ⟨ak6, H⟩
    ·replace H := S1 H; obtain ⟨aN6, H⟩ := H
     replace H := S1 H; obtain ⟨aF9, H⟩ := H
     replace H := F6 H; rcases H with ⟨aF1, b92, H⟩ | ⟨aF1, b92, H⟩
     ·replace H := aj5 H; obtain ⟨dV3, H⟩ := H
      first | (with_reducible replace H := bns H; obtain ⟨bg9, bq7, H⟩ := H) | (generalize V5 : (a02 ++ [H9 ByteArray.empty t101 a26] : List ByteArray) = bg9 at H; have bq7 := j4.mk V5.symm; clear V5)
      have H' := j4.mk H
      clear H
      obtain ⟨bb6, b72, bx0⟩ := Kd.s7 L9.out
      subst bx0
      have bt9 : 0 ≤ (a26 : Int) := of_decide_eq_true za
      have bu0 : a26 < (t101.length : Int) := of_decide_eq_true za
      obtain ⟨bU9, cP7, cq9⟩ := Kd.E5 (Kd.y7 L9.out).2.2 a26 bt9 bu0
      cases cP7
      replace bt9 := eq_true bt9
      replace bu0 := eq_true bu0
      go_wp2_with (first | ((with_reducible refine N8 (b := .append) (xs := #[.tmp 38, .tmp 40]) rfl ?_); at_builtin; refine Kd.a89 Kd.string (w0 := w) w.heap.size rfl (.tmp 38) (.tmp 40) 25 9 (.string ⟨#[]⟩) 16 rfl Tryz.underlying25 aF0 rfl I1 (by omega) u6 a02 (H9 ByteArray.empty t101 a26) [.string (H9 ByteArray.empty t101 a26)] (fun k_ => some k_ ≠ (.slice (some bU9) t101.length b72 : Value).ownBlock) (fun _ => False) rfl rfl ?aP (fun _ hk => hk.elim) ?aF ?aO ?aB ?aS ?aL ?_; (case aP => exact rfl); (case aB => exact zB); (case aF => exact (fun k_ hk => Kd.fresh' (Kd.aa3 (rO L9)) k_ hk)); (case aO => exact (rO aq9)); (case aS => exact (bZ)); (case aL => have := dV3.out; omega); intro bb7 w13 ho hb hg hat; rw [← bq7.out] at ho; have P5 := j4.mk (Kd.aK8 (ok := (fun _ => True)) (by (with_reducible repeat (first | apply Kd.N9 | apply Kd.M8 | apply Kd.O0)); exact Kd.E0 L9.out (fun _ hk => ⟨trivial, hk⟩)) hg hat); have P6 := j4.mk (hb); have n2_ := j4.mk (ho); clear L9 HB aq9; have L9 := P5; have HB := P6; have O9 := n2_; clear P5 P6 n2_ ho hb hg hat))
      go_roundg k1
      case measure => have := HK1.out; omega
      case rel => exact ⟨(bg9), (wrap64 (a26 + 1)), zs, H', ⟨by have := HK1.out; omega⟩, ⟨by (with_reducible repeat (first | apply Kd.N9 | apply Kd.M8 | apply Kd.O0)); exact Kd.E0 L9.out (fun _ hk => hk.2)⟩, ⟨rO O9⟩, ⟨zB⟩⟩
     ·replace H := ak4 H; obtain ⟨c14, aL5, H⟩ := H
      have b24 : decide (0 < (H9 ByteArray.empty t101 a26).size) = true := decide_eq_true (by omega)
      clear c14
      replace H := F6 H; rcases H with ⟨b21, b90, H⟩ | ⟨b21, b90, H⟩
      ·replace H := Q5 H; obtain ⟨cg6, cg7, H⟩ := H
       replace H := aj5 H; obtain ⟨cH3, H⟩ := H
       first | (with_reducible replace H := bns H; obtain ⟨b42, b73, H⟩ := H) | (generalize V5 : (a02 ++ [(H9 ByteArray.empty t101 a26).extract 1 (H9 ByteArray.empty t101 a26).size] : List ByteArray) = b42 at H; have b73 := j4.mk V5.symm; clear V5)
       have H' := j4.mk H
       clear H
       obtain ⟨d03, cP8, cP9⟩ := Kd.s7 L9.out
       subst cP9
       have bt9 : 0 ≤ (a26 : Int) := of_decide_eq_true za
       have bu0 : a26 < (t101.length : Int) := of_decide_eq_true za
       obtain ⟨bU9, cP7, cq9⟩ := Kd.E5 (Kd.y7 L9.out).2.2 a26 bt9 bu0
       cases cP7
       replace bt9 := eq_true bt9
       replace bu0 := eq_true bu0
       have p15 : 0 ≤ (0 : Int) := (by omega)
       have q15 : 0 < (H9 ByteArray.empty t101 a26).size := (by have : (0 : Int) < ((H9 ByteArray.empty t101 a26).size : Int) := of_decide_eq_true za; omega)
       have ei3 : ∀ h : 0 < (H9 ByteArray.empty t101 a26).size, (((H9 ByteArray.empty t101 a26)[0]'h).toNat : Int) = bt (H9 ByteArray.empty t101 a26) 0 := V4 (H9 ByteArray.empty t101 a26) 0
       clear p15
       have ei4 : (0 < ((H9 ByteArray.empty t101 a26).size : Int)) = True := eq_true (of_decide_eq_true za)
       replace q15 := eq_true q15
       go_wp2_with (first | ((with_reducible refine N8 (b := .append) (xs := #[.tmp 38, .tmp 40]) rfl ?_); at_builtin; refine Kd.a89 Kd.string (w0 := w) w.heap.size rfl (.tmp 38) (.tmp 40) 25 9 (.string ⟨#[]⟩) 16 rfl Tryz.underlying25 aF0 rfl I1 (by omega) u6 a02 ((H9 ByteArray.empty t101 a26).extract 1 (H9 ByteArray.empty t101 a26).size) [.string ((H9 ByteArray.empty t101 a26).extract 1 (H9 ByteArray.empty t101 a26).size)] (fun k_ => some k_ ≠ (.slice (some bU9) t101.length cP8 : Value).ownBlock) (fun _ => False) rfl rfl ?aP (fun _ hk => hk.elim) ?aF ?aO ?aB ?aS ?aL ?_; (case aP => exact rfl); (case aB => exact zB); (case aF => exact (fun k_ hk => Kd.fresh' (Kd.aa3 (rO L9)) k_ hk)); (case aO => exact (rO aq9)); (case aS => exact (bZ)); (case aL => have := cH3.out; omega); intro cu2 w20 ho hb hg hat; rw [← b73.out] at ho; have P5 := j4.mk (Kd.aK8 (ok := (fun _ => True)) (by (with_reducible repeat (first | apply Kd.N9 | apply Kd.M8 | apply Kd.O0)); exact Kd.E0 L9.out (fun _ hk => ⟨trivial, hk⟩)) hg hat); have P6 := j4.mk (hb); have n2_ := j4.mk (ho); clear L9 HB aq9; have L9 := P5; have HB := P6; have R2 := n2_; clear P5 P6 n2_ ho hb hg hat))
       go_roundg k1
       case measure => have := HK1.out; omega
       case rel => exact ⟨(b42), (wrap64 (a26 + 1)), zs, H', ⟨by have := HK1.out; omega⟩, ⟨by (with_reducible repeat (first | apply Kd.N9 | apply Kd.M8 | apply Kd.O0)); exact Kd.E0 L9.out (fun _ hk => hk.2)⟩, ⟨rO R2⟩, ⟨zB⟩⟩
      ·replace H := aj5 H; obtain ⟨cL5, H⟩ := H
       first | (with_reducible replace H := bns H; obtain ⟨cu1, bP7, H⟩ := H) | (generalize V5 : (a02 ++ [H9 ByteArray.empty t101 a26] : List ByteArray) = cu1 at H; have bP7 := j4.mk V5.symm; clear V5)
       have H' := j4.mk H
       clear H
       obtain ⟨b44, aZ7, bh3⟩ := Kd.s7 L9.out
       subst bh3
       have bt9 : 0 ≤ (a26 : Int) := of_decide_eq_true za
       have bu0 : a26 < (t101.length : Int) := of_decide_eq_true za
       obtain ⟨bU9, cP7, cq9⟩ := Kd.E5 (Kd.y7 L9.out).2.2 a26 bt9 bu0
       cases cP7
       replace bt9 := eq_true bt9
       replace bu0 := eq_true bu0
       have p15 : 0 ≤ (0 : Int) := (by omega)
       have q15 : 0 < (H9 ByteArray.empty t101 a26).size := (by have : (0 : Int) < ((H9 ByteArray.empty t101 a26).size : Int) := of_decide_eq_true za; omega)
       have ei3 : ∀ h : 0 < (H9 ByteArray.empty t101 a26).size, (((H9 ByteArray.empty t101 a26)[0]'h).toNat : Int) = bt (H9 ByteArray.empty t101 a26) 0 := V4 (H9 ByteArray.empty t101 a26) 0
       clear p15
       have ei4 : (0 < ((H9 ByteArray.empty t101 a26).size : Int)) = True := eq_true (of_decide_eq_true za)
       replace q15 := eq_true q15
       go_wp2_with (first | ((with_reducible refine N8 (b := .append) (xs := #[.tmp 38, .tmp 40]) rfl ?_); at_builtin; refine Kd.a89 Kd.string (w0 := w) w.heap.size rfl (.tmp 38) (.tmp 40) 25 9 (.string ⟨#[]⟩) 16 rfl Tryz.underlying25 aF0 rfl I1 (by omega) u6 a02 (H9 ByteArray.empty t101 a26) [.string (H9 ByteArray.empty t101 a26)] (fun k_ => some k_ ≠ (.slice (some bU9) t101.length aZ7 : Value).ownBlock) (fun _ => False) rfl rfl ?aP (fun _ hk => hk.elim) ?aF ?aO ?aB ?aS ?aL ?_; (case aP => exact rfl); (case aB => exact zB); (case aF => exact (fun k_ hk => Kd.fresh' (Kd.aa3 (rO L9)) k_ hk)); (case aO => exact (rO aq9)); (case aS => exact (bZ)); (case aL => have := cL5.out; omega); intro e98 w23 ho hb hg hat; rw [← bP7.out] at ho; have P5 := j4.mk (Kd.aK8 (ok := (fun _ => True)) (by (with_reducible repeat (first | apply Kd.N9 | apply Kd.M8 | apply Kd.O0)); exact Kd.E0 L9.out (fun _ hk => ⟨trivial, hk⟩)) hg hat); have P6 := j4.mk (hb); have n2_ := j4.mk (ho); clear L9 HB aq9; have L9 := P5; have HB := P6; have cg4 := n2_; clear P5 P6 n2_ ho hb hg hat))
       go_roundg k1
       case measure => have := HK1.out; omega
       case rel => exact ⟨(cu1), (wrap64 (a26 + 1)), zs, H', ⟨by have := HK1.out; omega⟩, ⟨by (with_reducible repeat (first | apply Kd.N9 | apply Kd.M8 | apply Kd.O0)); exact Kd.E0 L9.out (fun _ hk => hk.2)⟩, ⟨rO cg4⟩, ⟨zB⟩⟩
    ·replace H := S2 H; obtain ⟨t118, A24, H⟩ := H
     replace H := itb H; rcases H with ⟨rfl, H⟩ | ⟨rfl, H⟩
     ·replace H := S2 H; obtain ⟨t119, A26, H⟩ := H
      replace H := F6 H; rcases H with ⟨bV0, bV1, H⟩ | ⟨bV0, bV1, H⟩
      ·simp only [Option.some.injEq, Prod.mk.injEq] at H
       obtain ⟨rfl, rfl⟩ := H
       obtain ⟨c63, bV2, cQ0⟩ := Kd.s7 L9.out
       subst cQ0
       obtain ⟨dz9, dA0, dA1⟩ := Kd.s7 aq9.out
       subst dA1
       go_wp2_with (first | ((with_reducible refine j6 (f := 100) rfl ?_); refine gv 43 Tryz.func100 #[.slice dz9 a02.length dA0] (F8.calls (w := _) (hr0 := rC aq9) (hc0 := cL aq9) (h := A24.out)) ?_; rintro w' ⟨nd, rfl⟩) | (go_at_call 103; refine (P4.calls (w := _) (hr0 := rC aq9) (hc0 := cL aq9) (h := A26.out)).mono ?_; rintro e w' ⟨rfl, ⟨nd, rfl⟩⟩))
       go_ret2
       exact ⟨_, zr, by (with_reducible repeat (first | apply Kd.N9 | apply Kd.M8 | apply Kd.O0)); exact Kd.E0 aq9.out (fun _ hk => trivial), zB⟩
      ·simp only [Option.some.injEq, Prod.mk.injEq] at H
       obtain ⟨rfl, rfl⟩ := H
       obtain ⟨dw9, dx0, dx1⟩ := Kd.s7 L9.out
       subst dx1
       obtain ⟨d04, d05, dA2⟩ := Kd.s7 aq9.out
       subst dA2
       go_wp2_with (first | ((with_reducible refine j6 (f := 100) rfl ?_); refine gv 43 Tryz.func100 #[.slice d04 a02.length d05] (F8.calls (w := _) (hr0 := rC aq9) (hc0 := cL aq9) (h := A24.out)) ?_; rintro w' ⟨nd, rfl⟩) | (go_at_call 103; refine (P4.calls (w := _) (hr0 := rC aq9) (hc0 := cL aq9) (h := A26.out)).mono ?_; rintro e w' ⟨rfl, ⟨nd, rfl⟩⟩))
       go_ret2
       exact ⟨_, zr, zn, zB⟩
     ·simp only [Option.some.injEq, Prod.mk.injEq] at H
      obtain ⟨rfl, rfl⟩ := H
      obtain ⟨X6, X2, bx1⟩ := Kd.s7 L9.out
      subst bx1
      obtain ⟨a15, a16, bP8⟩ := Kd.s7 aq9.out
      subst bP8
      go_wp2_with (first | ((with_reducible refine j6 (f := 100) rfl ?_); refine gv 43 Tryz.func100 #[.slice a15 a02.length a16] (F8.calls (w := _) (hr0 := rC aq9) (hc0 := cL aq9) (h := A24.out)) ?_; rintro w' ⟨nd, rfl⟩))
      go_ret2
      exact ⟨_, zr, zn, zB⟩
end Go.Proofs.YtbncnjgflhoneaaGreatDoor.F
namespace Go.Proofs.YtbncnjgflhoneaaGreatDoor.Hand
open Go.RowKit Go.Proofs.YtbncnjgflhoneaaGreatDoor.F Go.Proofs.YtbncnjgflhoneaaGreatDoorW.l8 Go.Proofs.YtbncnjgflhoneaaGreatDoorW.s9 Go.Proofs.YtbncnjgflhoneaaGreatDoorW.y9
def bg0 (p : List UInt8) : List UInt8 := if p.head? = some 46 then p.tail else p
def ad6 (s : ByteArray) : ByteArray := B (bg0 s.data.toList)
theorem cQ1 (p : List UInt8) : (bg0 p).length ≤ p.length := by
 unfold bg0
 split
 ·rw [List.length_tail]; omega
 ·exact Nat.le_refl _
theorem bD7 (s : ByteArray) : (ad6 s).size ≤ s.size := by
 unfold ad6
 rw [D8, ← E3]
 exact cQ1 _
def aK2 (l : List UInt8) : List ByteArray := ((crlf l).1.map B).dropLast.map ad6
def aE0 (l : List UInt8) : List ByteArray × Bool := if (decide (l.length ≤ 800) && (ae3 (aK2 l) && decide (Z2 (aK2 l) = l))) = true then (aK2 l, true) else ([], false)
theorem by5 (l : List ByteArray) (h : ∀ s ∈ l, s.size ≤ 1073741824) : aj9.f l = some (if ae3 l = true then B (Z2 l) else B []) := by
 have hs : l.all bY4 = true := List.all_eq_true.2 fun s hs => decide_eq_true (by have := h s hs; omega)
 unfold aj9.f ac6.f
 rw [if_pos hs, Option.bind_some]
 cases hb : ae3 l
 ·rfl
 ·have := (ag6 hb).2.2
  unfold ac7.f
  rw [if_pos rfl, if_pos (by omega)]
  rfl
theorem cw7 (s : ByteArray) (y : List ByteArray) (hy : y.length ≤ 1073741824) (hys : ∀ x ∈ y, x.size ≤ 1073741824) : ∀ (d i : Nat) (acc : List ByteArray), y.length = i + d → acc.length ≤ i → (∀ x ∈ acc, x.size ≤ 1073741824) →
  Ev (fun k => O3.l0 k s acc y (y.length : Int) (i : Int)) (if (if ae3 (acc ++ (y.drop i).map ad6) = true then Z2 (acc ++ (y.drop i).map ad6) else []) = s.data.toList then (acc ++ (y.drop i).map ad6, true) else ([], false)) := by
 intro d
 induction d with
 | zero =>
  intro i acc hi ha hs
  rw [List.drop_eq_nil_of_le (by omega), List.map_nil, List.append_nil]
  refine Ev.step (f := fun _ => some (if (if ae3 acc = true then Z2 acc else []) = s.data.toList then (acc, true) else ([], false))) (fun k => ?_) (Ev.now _)
  rw [O3.l0, if_neg (by omega), by5 acc hs, Option.bind_some, toL, toL]
  have e : (if ae3 acc = true then B (Z2 acc) else B []).data.toList = if ae3 acc = true then Z2 acc else [] := by split <;> rw [M5]
  rw [e]
  generalize (if ae3 acc = true then Z2 acc else []) = z
  by_cases hz : z = s.data.toList
  ·rw [if_pos hz, if_pos hz]
  ·rw [if_neg hz, if_neg hz]
 | succ d ih =>
  intro i acc hi ha hs
  have hlt : i < y.length := by omega
  have hr : H9 ByteArray.empty y (i : Int) = y[i] := aI3 _ y i hlt
  refine Ev.step (f := fun k => O3.l0 k s (acc ++ [ad6 y[i]]) y (y.length : Int) ((i + 1 : Nat) : Int)) (fun k => ?_) ?_
  ·rw [O3.l0, if_pos (by omega), if_pos (by omega), if_pos (by omega), hr, bt3, Option.bind_some, if_pos (by omega), Y5 (x := (i : Int) + 1) (by omega) (by omega), show ((i : Int) + 1) = ((i + 1 : Nat) : Int) by omega]
   rfl
  ·have h := ih (i + 1) (acc ++ [ad6 y[i]]) (by omega) (by rw [List.length_append, List.length_singleton]; omega) (fun x hx => by
    rcases List.mem_append.1 hx with hx | hx
    ·exact hs x hx
    ·rw [List.mem_singleton] at hx
     subst hx
     have := bD7 y[i]
     have := hys y[i] (List.getElem_mem hlt)
     omega)
   rw [List.append_assoc, List.singleton_append] at h
   rw [List.drop_eq_getElem_cons hlt, List.map_cons]
   exact h
theorem cw8 (s : ByteArray) (L : List ByteArray) (h0 : L.length ≠ 0) (h1 : L.length ≤ 1073741824) (k : Nat) :
  (if (L.length : Int) = 0 then (some (([] : List ByteArray), false)) else (if 0 ≤ (wrap64 ((L.length : Int) - 1)) then (if (wrap64 ((L.length : Int) - 1)) ≤ (L.length : Int) then ((some (L.take ((wrap64 ((L.length : Int) - 1)) : Int).toNat : List ByteArray)).bind fun bh4 => (O3.l0 k s ([] : List ByteArray) bh4 (bh4.length : Int) 0)) else (none)) else (none))) = O3.l0 k s ([] : List ByteArray) L.dropLast (L.dropLast.length : Int) 0 := by
 rw [if_neg (by omega), Y5 (x := (L.length : Int) - 1) (by omega) (by omega), if_pos (by omega), if_pos (by omega), Option.bind_some, show ((L.length : Int) - 1).toNat = L.length - 1 by omega, ← List.dropLast_eq_take]
theorem by6 (s : ByteArray) (hs : s.size ≤ 536870912) : Ev (fun k => O3.f k s) (aE0 s.data.toList) := by
 have hl := E3 s
 have hc := aS9 s.data.toList
 unfold aE0
 by_cases h8 : s.size ≤ 800
 ·rw [decide_eq_true (p := s.data.toList.length ≤ 800) (by omega), Bool.true_and]
  have hls : Ev (fun k => ac3.f k s) ((crlf s.data.toList).1.map B, B (crlf s.data.toList).2) := by
   refine Ev.congr (f := fun k => (Y0.f k s).bind fun Y6 => (some (Y6.1, Y6.2))) (fun k => ?_) (Ev.call (bK4 s (by omega)) (h := fun _ => some ((crlf s.data.toList).1.map B, B (crlf s.data.toList).2)) (fun k => rfl) (Ev.now _))
   unfold ac3.f
   rw [if_neg (by omega)]
  unfold O3.f
  cases hn : (crlf s.data.toList).1 with
  | nil =>
   rw [hn] at hls
   have e : aK2 s.data.toList = [] := by unfold aK2; rw [hn]; rfl
   have e2 : ¬ Z2 [] = s.data.toList := fun e => by
    have : crlf s.data.toList = ([[46]], []) := by rw [← e]; rfl
    rw [this] at hn
    cases hn
   rw [e, if_neg (by simp [e2])]
   exact Ev.call hls (h := fun _ => some ([], false)) (fun k => if_pos rfl) (Ev.now _)
  | cons a r =>
   have hne : ((crlf s.data.toList).1.map B).length ≠ 0 := by rw [hn]; simp
   have hlen : ((crlf s.data.toList).1.map B).length = (crlf s.data.toList).1.length := List.length_map ..
   refine Ev.call hls (h := fun k => O3.l0 k s ([] : List ByteArray) ((crlf s.data.toList).1.map B).dropLast ((((crlf s.data.toList).1.map B).dropLast.length : Nat) : Int) 0) (fun k => cw8 s _ hne (by omega) k) ?_
   ·have hb := cw7 s ((crlf s.data.toList).1.map B).dropLast (by rw [List.length_dropLast]; omega) (fun x hx => by
     have hx := (List.dropLast_sublist _).subset hx
     obtain ⟨y, hy, rfl⟩ := List.mem_map.1 hx
     have := hc.2.1 y hy
     rw [D8]; omega) ((crlf s.data.toList).1.map B).dropLast.length 0 [] (by omega) (Nat.le_refl _) (fun _ h => by cases h)
    rw [List.drop_zero, List.nil_append] at hb
    have e : ((crlf s.data.toList).1.map B).dropLast.map ad6 = aK2 s.data.toList := rfl
    rw [e] at hb
    have hs0 : ¬ ([] : List UInt8) = s.data.toList := fun e => by rw [← e] at hn; cases hn
    cases hbb : ae3 (aK2 s.data.toList)
    ·rw [hbb] at hb
     rw [Bool.false_and, if_neg (by decide)]
     rw [if_neg (by decide : ¬ false = true), if_neg hs0] at hb
     exact hb
    ·rw [hbb] at hb
     rw [Bool.true_and]
     rw [if_pos rfl] at hb
     by_cases hd : Z2 (aK2 s.data.toList) = s.data.toList
     ·rw [if_pos hd] at hb
      rw [if_pos (decide_eq_true hd)]
      exact hb
     ·rw [if_neg hd] at hb
      rw [if_neg (by simpa using hd)]
      exact hb
 ·rw [decide_eq_false (p := s.data.toList.length ≤ 800) (by omega), Bool.false_and, if_neg (by decide)]
  refine Ev.congr (f := fun _ => some ([], false)) (fun k => ?_) (Ev.now _)
  unfold O3.f ac3.f
  rw [if_pos (by omega), Option.bind_some]
  exact if_pos rfl
theorem cw9 (s : ByteArray) (L : List ByteArray) (hL : L.length ≤ 1073741824) (hLs : ∀ x ∈ L, x.size ≤ 1073741824) : ∀ (d i : Nat) (acc : List ByteArray), L.dropLast.length = i + d → acc.length ≤ i → (∀ x ∈ acc, x.size ≤ 1073741824) →
  Ev (fun k => K9.l0 k s L acc (i : Int)) (if (ae3 (acc ++ (L.dropLast.drop i).map ad6) && decide (Z2 (acc ++ (L.dropLast.drop i).map ad6) = s.data.toList)) = true then (acc ++ (L.dropLast.drop i).map ad6, true) else ([], false)) := by
 have hdl : L.dropLast.length = L.length - 1 := List.length_dropLast
 intro d
 induction d with
 | zero =>
  intro i acc hi ha hs
  rw [List.drop_eq_nil_of_le (by omega), List.map_nil, List.append_nil]
  refine Ev.step (f := fun k => (F8.f k acc).bind fun t118 => (if t118 = true then ((P4.f k acc).bind fun t119 => (if t119.toList = s.toList then (some (acc, true)) else (some (([] : List ByteArray), false)))) else (some (([] : List ByteArray), false)))) (fun k => by
   rw [K9.l0, Y5 (x := (i : Int) + 1) (by omega) (by omega), if_neg (by omega)]) ?_
  have hb := be6 acc (by omega) (fun x hx => by have := hs x hx; omega)
  cases hbb : ae3 acc
  ·rw [hbb] at hb
   exact Ev.call hb (h := fun _ => some ([], false)) (fun k => if_neg (by decide)) (Ev.now _)
  ·rw [hbb] at hb
   have hsm := ag6 hbb
   refine Ev.call hb (fun k => if_pos rfl) (Ev.call (bf7 acc (by omega) (by omega)) (h := fun _ => some (if (true && decide (Z2 acc = s.data.toList)) = true then (acc, true) else ([], false))) (fun k => ?_) (Ev.now _))
   rw [ab7, toL, Bool.true_and]
   by_cases hd : Z2 acc = s.data.toList
   ·rw [if_pos hd, if_pos (decide_eq_true hd)]
   ·rw [if_neg hd, if_neg (by simpa using hd)]
 | succ d ih =>
  intro i acc hi ha hs
  have hlt : i < L.length := by omega
  have hlt' : i < L.dropLast.length := by omega
  have hr : H9 ByteArray.empty L (i : Int) = L[i] := aI3 _ L i hlt
  have hsz := hLs L[i] (List.getElem_mem hlt)
  have hl := E3 L[i]
  refine Ev.step (f := fun k => K9.l0 k s L (acc ++ [ad6 L[i]]) ((i + 1 : Nat) : Int)) (fun k => ?_) ?_
  ·rw [K9.l0, Y5 (x := (i : Int) + 1) (by omega) (by omega), if_pos (by omega), if_pos (by omega), if_pos (by omega), hr, toL, show ((i : Int) + 1) = ((i + 1 : Nat) : Int) by omega]
   cases hd : L[i].data.toList with
   | nil =>
    have e : ad6 L[i] = L[i] := by unfold ad6 bg0; rw [hd, if_neg (by simp), ← hd, aW5]
    rw [if_pos rfl, if_pos (by omega), e]
   | cons x r =>
    have h0 : 0 < L[i].size := by rw [hd, List.length_cons] at hl; omega
    have hb0 : bt L[i] 0 = (x.toNat : Int) := by
     rw [show (0 : Int) = ((0 : Nat) : Int) from rfl, au0 L[i] 0 (by omega)]
     simp only [hd, List.getElem_cons_zero]
    rw [if_neg (by simp), if_pos (by omega), hb0]
    by_cases hx : x = 46
    ·have e : ad6 L[i] = L[i].extract 1 L[i].size := by unfold ad6 bg0; rw [hd, if_pos (by rw [hx]; rfl), bK5, hd]
     rw [if_pos (by rw [hx]; rfl), if_pos (by omega), if_pos (by omega), e]
    ·have e : ad6 L[i] = L[i] := by unfold ad6 bg0; rw [hd, if_neg (by simp [hx]), ← hd, aW5]
     rw [if_neg (fun e => hx (UInt8.toNat_inj.1 (by show _ = 46; omega))), if_pos (by omega), e]
  ·have h := ih (i + 1) (acc ++ [ad6 L[i]]) (by omega) (by rw [List.length_append, List.length_singleton]; omega) (fun x hx => by
    rcases List.mem_append.1 hx with hx | hx
    ·exact hs x hx
    ·rw [List.mem_singleton] at hx
     subst hx
     have := bD7 L[i]
     omega)
   rw [List.append_assoc, List.singleton_append] at h
   rw [List.drop_eq_getElem_cons hlt', List.map_cons, List.getElem_dropLast]
   exact h
theorem by7 (s : ByteArray) (hs : s.size ≤ 536870912) : Ev (fun k => K9.f k s) (aE0 s.data.toList) := by
 have hl := E3 s
 have hc := aS9 s.data.toList
 unfold aE0
 by_cases h8 : s.size ≤ 800
 ·rw [decide_eq_true (p := s.data.toList.length ≤ 800) (by omega), Bool.true_and]
  refine Ev.congr (f := fun k => (L3.f k s).bind fun Y6 => (K9.l0 k s Y6.1 (([] : List ByteArray)) 0)) (fun k => ?_) ?_
  ·unfold K9.f
   rw [if_neg (by omega)]
  ·refine Ev.bind (b98 s (by omega)) ?_
   have h := cw9 s ((crlf s.data.toList).1.map B) (by rw [List.length_map]; omega) (fun x hx => by
    obtain ⟨y, hy, rfl⟩ := List.mem_map.1 hx
    have := hc.2.1 y hy
    rw [D8]; omega) _ 0 [] (Nat.zero_add _).symm (Nat.le_refl _) (fun _ h => by cases h)
   rw [List.drop_zero, List.nil_append] at h
   exact h
 ·rw [decide_eq_false (p := s.data.toList.length ≤ 800) (by omega), Bool.false_and, if_neg (by decide)]
  refine Ev.congr (f := fun _ => some ([], false)) (fun k => ?_) (Ev.now _)
  unfold K9.f
  rw [if_pos (by omega)]
theorem bu1 {l : List ByteArray} (h : ae3 l = true) : ∀ s ∈ l, (13 : UInt8) ∉ s.data.toList := by
 unfold ae3 at h
 rw [Bool.and_eq_true] at h
 intro s hs hx
 have := List.all_eq_true.1 h.2 s hs
 unfold aJ5 at this
 rw [Bool.and_eq_true] at this
 exact absurd (List.all_eq_true.1 this.1 13 hx) (by decide)
def aN2 (s : ByteArray) : List UInt8 := (if s.data.toList.head? = some 46 then [46] else []) ++ s.data.toList
theorem bK8 (s : ByteArray) : bg0 (aN2 s) = s.data.toList := by
 unfold bg0 aN2
 by_cases h : s.data.toList.head? = some 46
 ·rw [if_pos h, if_pos (by rfl)]
  rfl
 ·rw [if_neg h, List.nil_append, if_neg h]
theorem bc5 : ∀ l : List ByteArray, (∀ s ∈ l, (13 : UInt8) ∉ s.data.toList) → crlf (Z2 l) = (l.map aN2 ++ [[46]], [])
 | [], _ => rfl
 | s :: l, h => by
  have e : Z2 (s :: l) = aN2 s ++ 13 :: 10 :: Z2 l := by
   unfold Z2 aN2 aB2
   simp
  have hn : (13 : UInt8) ∉ aN2 s := by
   unfold aN2
   rw [List.mem_append, not_or]
   refine ⟨?_, h s (by simp)⟩
   split <;> simp
  rw [e, aY8 _ _ hn, bc5 l (fun x hx => h x (by simp [hx]))]
  rfl
theorem bD8 {l : List ByteArray} (h : ae3 l = true) : aE0 (Z2 l) = (l, true) := by
 have hb : aK2 (Z2 l) = l := by
  unfold aK2
  rw [bc5 l (bu1 h), List.map_append, List.map_singleton, List.dropLast_concat, List.map_map, List.map_map]
  have : ((ad6 ∘ B) ∘ aN2) = (id : ByteArray → ByteArray) := by
   funext s
   show ad6 (B (aN2 s)) = s
   unfold ad6
   rw [M5, bK8, aW5]
  rw [this, List.map_id]
 have hs := (ag6 h).2.2
 unfold aE0
 rw [hb, h, if_pos (by simp; omega)]
theorem aT3 (l : List UInt8) : (aE0 l).1.length ≤ 1073741824 ∧ ∀ s ∈ (aE0 l).1, s.size ≤ 1073741824 := by
 unfold aE0
 split
 ·rename_i h
  rw [Bool.and_eq_true, Bool.and_eq_true] at h
  have hs := ag6 h.2.1
  exact ⟨by show (aK2 l).length ≤ _; omega, fun s hs' => by have := hs.2.1 s hs'; omega⟩
 ·exact ⟨by show (0 : Nat) ≤ _; omega, fun s hs' => absurd (show s ∈ ([] : List ByteArray) from hs') (by simp)⟩
end Go.Proofs.YtbncnjgflhoneaaGreatDoor.Hand
