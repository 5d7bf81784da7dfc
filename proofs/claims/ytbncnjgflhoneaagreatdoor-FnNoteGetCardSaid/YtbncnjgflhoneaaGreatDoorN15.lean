/- Of this claim, merged by program: Q4, F139, F125, F80, F163, F126, F81, F43, F87, F158, F164, F159, F120. -/
import Derived.Test.YtbncnjgflhoneaaGreatDoorN02
import Derived.Test.YtbncnjgflhoneaaGreatDoorN03
import Derived.Test.YtbncnjgflhoneaaGreatDoorN05
import Derived.Test.YtbncnjgflhoneaaGreatDoorN12
import Derived.Test.YtbncnjgflhoneaaGreatDoorN13
import Derived.Test.YtbncnjgflhoneaaGreatDoorN14
set_option linter.unusedVariables false
set_option linter.unusedSimpArgs false
namespace Go.Proofs.YtbncnjgflhoneaaGreatDoor.Hand
open Go.RowKit Go.Proofs.YtbncnjgflhoneaaGreatDoor.F Go.Proofs.YtbncnjgflhoneaaGreatDoorW.l8 Go.Proofs.YtbncnjgflhoneaaGreatDoorW.s9 Go.Proofs.YtbncnjgflhoneaaGreatDoorW.y9
theorem I8 (x y : ByteArray) : (x ++ y).data.toList = x.data.toList ++ y.data.toList := by simp
theorem U5 (l : List UInt8) : (⟨l.toArray⟩ : ByteArray).data.toList = l := by simp
theorem aO4 (l : List UInt8) : (⟨l.toArray⟩ : ByteArray).size = l.length := by rw [← E3, U5]
theorem b94 (s : ByteArray) : s.data.toList.length = s.size := E3 s
def J3 (u d : ByteArray) : List UInt8 := if a43 u d = true then [60, 62] else 60 :: (u.data.toList ++ 64 :: (d.data.toList ++ [62]))
theorem ay7 (u d : ByteArray) : (J3 u d).length ≤ u.size + d.size + 3 := by
 unfold J3
 split
 ·simp
 ·simp
  omega
theorem aD8 (u d : ByteArray) (hu : u.size ≤ 1073741824) (hd : d.size ≤ 1073741824) : Q2.f u d = some (B (J3 u d)) := by
 unfold Q2.f O1.f J3
 rw [Option.bind_some]
 show (if a43 u d = true then _ else _) = _
 by_cases h : a43 u d = true
 ·rw [if_pos h, if_pos h]; rfl
 ·rw [if_neg h, if_neg h]
  rw [if_pos (by omega), if_pos (by simp only [ByteArray.size_append, aO4, List.length_cons, List.length_nil]; omega), if_pos (by simp only [ByteArray.size_append, aO4, List.length_cons, List.length_nil]; omega), if_pos (by simp only [ByteArray.size_append, aO4, List.length_cons, List.length_nil]; omega)]
  exact congrArg some (as9 (by simp only [I8]; simp))
theorem aL7 (u d : ByteArray) (hu : u.size ≤ 1073741824) (hd : d.size ≤ 1073741824) : a74.f u d = some (B (J3 u d)) := by
 unfold a74.f J3
 rw [aL2, Option.bind_some]
 by_cases h : a43 u d = true
 ·rw [if_pos h, if_pos h]; rfl
 ·rw [if_neg h, if_neg h]
  rw [if_pos (by omega), if_pos (by simp only [ByteArray.size_append, aO4, List.length_cons, List.length_nil]; omega), if_pos (by simp only [ByteArray.size_append, aO4, List.length_cons, List.length_nil]; omega), if_pos (by simp only [ByteArray.size_append, aO4, List.length_cons, List.length_nil]; omega)]
  exact congrArg some (as9 (by simp only [I8]; simp))
theorem cO2 (n : Nat) : (Lib.decDigits n).length ≤ n + 1 := by
 induction n using Nat.strongRecOn with
 | _ n ih =>
  rw [Lib.decDigits]
  split
  ·simp
  ·have := ih (n / 10) (by omega)
   simp
   omega
theorem bD4 (c : Int) (h0 : 0 ≤ c) (h9 : c ≤ 9) : strOfNums [(wrap64 (48 + c)) % 256] = B [UInt8.ofNat (48 + c.toNat)] := by
 rw [Y5 (by omega) (by omega), show (48 + c) % 256 = 48 + c by omega]
 refine as9 ?_
 rw [strOfNums_data]
 show [UInt8.ofNat (48 + c).toNat] = [UInt8.ofNat (48 + c.toNat)]
 rw [show (48 + c).toNat = 48 + c.toNat by omega]
theorem cw1 (n : Nat) (hn : n ≤ 1099511627776) : Ev (fun k => L7.f k (n : Int)) (B (Lib.decDigits n)) := by
 induction n using Nat.strongRecOn with
 | _ n ih =>
  by_cases h : n < 10
  ·refine Ev.step (f := fun _ => some (B (Lib.decDigits n))) (fun k => ?_) (Ev.now _)
   rw [L7.f, if_neg (by omega), if_neg (by omega), if_pos (by omega), bD4 n (by omega) (by omega), Lib.decDigits, dif_pos h]
   rfl
  ·have h2 := ih (n / 10) (by omega) (by omega)
   have hl := cO2 (n / 10)
   refine Ev.step (f := fun k => (L7.f k ((n / 10 : Nat) : Int)).bind fun t105 => ((some (([(wrap64 (48 + (Int.tmod (n : Int) 10))) % 256] : List Int) : List Int)).bind fun aU6 => (if t105.size + (strOfNums aU6).size ≤ 9223372036854775807 then (some (t105 ++ (strOfNums aU6))) else (none)))) (fun k => by
    rw [L7.f, if_neg (by omega), if_neg (by omega), if_neg (by omega), show Int.tdiv (n : Int) 10 = ((n / 10 : Nat) : Int) from rfl, Y5 (x := ((n / 10 : Nat) : Int)) (by omega) (by omega)]) ?_
   refine Ev.call h2 (h := fun _ => some (B (Lib.decDigits n))) (fun k => ?_) (Ev.now _)
   rw [show Int.tmod (n : Int) 10 = ((n % 10 : Nat) : Int) from rfl, Option.bind_some, bD4 _ (by omega) (by omega), if_pos (by rw [D8, D8]; simp; omega)]
   refine congrArg some (as9 ?_)
   rw [I8, M5, M5, Lib.decDigits.eq_def n, dif_neg h, Int.toNat_natCast]
theorem cw2 (l : List ByteArray) (i : Nat) (h : i < l.length) : (l.drop i).flatMap (fun s => aB2 s.data.toList) = aB2 l[i].data.toList ++ (l.drop (i + 1)).flatMap (fun s => aB2 s.data.toList) := by
 rw [List.drop_eq_getElem_cons h, List.flatMap_cons]
theorem aW8 (l : List UInt8) : l.length + 2 ≤ (aB2 l).length ∧ (aB2 l).length ≤ l.length + 3 := by
 unfold aB2
 split <;> simp <;> omega
theorem c56 (l : List ByteArray) (hl : l.length ≤ 1099511627776) : ∀ (d i : Nat) (acc : List UInt8), l.length = i + d → acc.length + ((l.drop i).flatMap fun s => aB2 s.data.toList).length ≤ 1099511627776 →
  Ev (fun k => P4.l0 k l (B acc) (i : Int)) (B (acc ++ ((l.drop i).flatMap (fun s => aB2 s.data.toList) ++ [46, 13, 10]))) := by
 intro d
 induction d with
 | zero =>
  intro i acc hi hb
  refine Ev.step (f := fun _ => some (B (acc ++ [46, 13, 10]))) (fun k => ?_) ?_
  ·rw [P4.l0, if_neg (by omega), if_pos (by rw [D8]; omega)]
   exact congrArg some (as9 (by rw [I8, M5, U5]))
  ·rw [List.drop_eq_nil_of_le (by omega), List.flatMap_nil, List.nil_append]
   exact Ev.now _
 | succ d ih =>
  intro i acc hi hb
  have hlt : i < l.length := by omega
  rw [cw2 l i hlt] at hb ⊢
  rw [List.length_append] at hb
  obtain ⟨hd1, hd2⟩ := aW8 l[i].data.toList
  have hsz := b94 l[i]
  have hN := ih (i + 1) (acc ++ aB2 l[i].data.toList) (by omega) (by rw [List.length_append]; omega)
  refine Ev.step (f := fun k => P4.l0 k l (B (acc ++ aB2 l[i].data.toList)) ((i + 1 : Nat) : Int)) (fun k => ?_) (by simpa using hN)
  rw [P4.l0, if_pos (by omega), if_pos (by omega), aU9 _ _ _ hlt, Y5 (x := (i : Int) + 1) (by omega) (by omega)]
  generalize l[i] = s at *
  by_cases he : s.toList = []
  ·rw [if_pos he, if_pos (by rw [D8]; omega), if_pos (by rw [ByteArray.size_append, D8]; omega)]
   have e : (B acc ++ s) ++ (⟨#[13, 10]⟩ : ByteArray) = B (acc ++ aB2 s.data.toList) := as9 (by
    rw [toL] at he
    rw [I8, I8, M5, U5, he]
    simp [aB2])
   rw [e]
   rfl
  ·rw [if_neg he]
   rw [toL] at he
   have hpos : 0 < s.data.toList.length := List.length_pos_iff.2 he
   rw [if_pos (by omega)]
   have hb0 : bt s 0 = ((s.data.toList[0]).toNat : Int) := au0 s 0 hpos
   have hh : s.data.toList.head? = some s.data.toList[0] := by rw [List.head?_eq_getElem?, List.getElem?_eq_getElem hpos]
   by_cases h46 : bt s 0 = 46
   ·have h2 : s.data.toList.head? = some 46 := by
     rw [hh]
     exact congrArg some (UInt8.toNat_inj.1 (by show _ = 46; omega))
    have h3 : (aB2 s.data.toList).length = s.size + 3 := by
     unfold aB2
     rw [if_pos h2]
     simp [hsz]
    rw [if_pos h46, if_pos (by omega), if_pos (by rw [ByteArray.size_append, D8]; show _ + (1 + _) ≤ _; omega), if_pos (by rw [ByteArray.size_append, ByteArray.size_append, D8]; show _ + (1 + _) + 2 ≤ _; omega)]
    have e : (B acc ++ ((⟨#[46]⟩ : ByteArray) ++ s)) ++ (⟨#[13, 10]⟩ : ByteArray) = B (acc ++ aB2 s.data.toList) := as9 (by
     rw [I8, I8, I8, M5, U5, U5]
     unfold aB2
     rw [if_pos h2]
     simp)
    rw [e]
    rfl
   ·have h2 : s.data.toList.head? ≠ some 46 := by
     rw [hh]
     intro hx
     injection hx with hx
     rw [hx] at hb0
     exact h46 hb0
    rw [if_neg h46, if_pos (by rw [D8]; omega), if_pos (by rw [ByteArray.size_append, D8]; omega)]
    have e : (B acc ++ s) ++ (⟨#[13, 10]⟩ : ByteArray) = B (acc ++ aB2 s.data.toList) := as9 (by
     rw [I8, I8, M5, U5]
     unfold aB2
     rw [if_neg h2]
     simp)
    rw [e]
    rfl
theorem bf7 (l : List ByteArray) (hl : l.length ≤ 1099511627776) (hb : (Z2 l).length ≤ 1099511627776) : Ev (fun k => P4.f k l) (B (Z2 l)) := by
 have h := c56 l hl l.length 0 [] (by omega) (by
  unfold Z2 at hb
  rw [List.length_append] at hb
  rw [List.drop_zero, List.length_nil]
  omega)
 rw [List.drop_zero, List.nil_append] at h
 exact h
theorem b95 {α : Type} (f : α → List UInt8) (n : Nat) : ∀ l : List α, (∀ x ∈ l, (f x).length ≤ n) → (l.flatMap f).length ≤ l.length * n
 | [], _ => by simp
 | x :: l, h => by
  have h1 := h x (by simp)
  have h2 := b95 f n l (fun y hy => h y (by simp [hy]))
  rw [List.flatMap_cons, List.length_append, List.length_cons, Nat.add_mul]
  omega
theorem ag6 {l : List ByteArray} (h : ae3 l = true) : l.length ≤ 12 ∧ (∀ s ∈ l, s.size ≤ 40) ∧ (Z2 l).length ≤ 600 := by
 unfold ae3 at h
 rw [Bool.and_eq_true] at h
 have h1 := of_decide_eq_true h.1
 have h2 : ∀ s ∈ l, s.size ≤ 40 := fun s hs => by
  have := List.all_eq_true.1 h.2 s hs
  unfold aJ5 at this
  rw [Bool.and_eq_true] at this
  exact of_decide_eq_true this.2
 refine ⟨h1, h2, ?_⟩
 have h3 := b95 (fun s : ByteArray => aB2 s.data.toList) 43 l (fun s hs => by
  have := (aW8 s.data.toList).2
  have := h2 s hs
  rw [b94] at *
  omega)
 unfold Z2
 rw [List.length_append]
 simp only [List.length_cons, List.length_nil]
 have : l.length * 43 ≤ 12 * 43 := Nat.mul_le_mul_right _ h1
 omega
def toT (ts : List G6) : List UInt8 := ts.flatMap fun a => [116, 111, 32] ++ (J3 a.f0 a.f1 ++ [13, 10])
def aa1 (u d : ByteArray) (ts : List G6) (body : List ByteArray) : List UInt8 := [102, 114, 111, 109, 32] ++ (J3 u d ++ ([13, 10] ++ (toT ts ++ ([13, 10] ++ Z2 body))))
theorem bU3 (ts : List G6) (i : Nat) (h : i < ts.length) : toT (ts.drop i) = [116, 111, 32] ++ (J3 ts[i].f0 ts[i].f1 ++ [13, 10]) ++ toT (ts.drop (i + 1)) := by
 unfold toT
 rw [List.drop_eq_getElem_cons h, List.flatMap_cons]
theorem cO3 (a : G6) (h : b65 a) : ([116, 111, 32] ++ (J3 a.f0 a.f1 ++ [13, 10])).length ≤ 4294967296 := by
 have := ay7 a.f0 a.f1
 have := h.1
 have := h.2
 simp only [List.length_append, List.length_cons, List.length_nil]
 omega
theorem cw3 (u d : ByteArray) (ts : List G6) (body : List ByteArray) (ht : ∀ a ∈ ts, b65 a) (h4 : ts.length ≤ 4) (hb : ae3 body = true) : ∀ (e i : Nat) (acc : List UInt8), ts.length = i + e → acc.length + e * 4294967296 ≤ 1099511627776 →
  Ev (fun k => R5.l0 k (B acc) (i : Int) u d ts body) (B (acc ++ (toT (ts.drop i) ++ ([13, 10] ++ Z2 body)))) := by
 obtain ⟨hb1, hb2, hb3⟩ := ag6 hb
 intro e
 induction e with
 | zero =>
  intro i acc hi hl
  refine Ev.step (f := fun k => (P4.f k body).bind fun t105 => (if (B acc ++ (⟨#[13, 10]⟩ : ByteArray)).size + t105.size ≤ 9223372036854775807 then (some ((B acc ++ (⟨#[13, 10]⟩ : ByteArray)) ++ t105)) else (none))) (fun k => by
   rw [R5.l0, if_neg (by omega), if_pos (by rw [D8]; omega)]) ?_
  refine Ev.call (bf7 body (by omega) (by omega)) (h := fun _ => some (B (acc ++ (toT (ts.drop i) ++ ([13, 10] ++ Z2 body))))) (fun k => ?_) (Ev.now _)
  rw [if_pos (by rw [ByteArray.size_append, D8, D8]; show _ + 2 + _ ≤ _; omega), List.drop_eq_nil_of_le (by omega)]
  exact congrArg some (as9 (by rw [I8, I8, M5, M5, U5]; simp [toT]))
 | succ e ih =>
  intro i acc hi hl
  have hlt : i < ts.length := by omega
  have hT := ht _ (List.getElem_mem hlt)
  have hle := cO3 _ hT
  have hal := ay7 ts[i].f0 ts[i].f1
  rw [bU3 ts i hlt]
  have hN := ih (i + 1) (acc ++ ([116, 111, 32] ++ (J3 ts[i].f0 ts[i].f1 ++ [13, 10]))) (by omega) (by rw [List.length_append]; omega)
  refine Ev.step (f := fun k => R5.l0 k (B (acc ++ ([116, 111, 32] ++ (J3 ts[i].f0 ts[i].f1 ++ [13, 10])))) ((i + 1 : Nat) : Int) u d ts body) (fun k => ?_) (by simpa using hN)
  have h1 := hT.1
  have h2 := hT.2
  rw [R5.l0, if_pos (by omega), if_pos (by rw [D8]; omega), if_pos (by omega), ao9 _ _ hlt, aL7 _ _ h1 h2, Option.bind_some, if_pos (by rw [ByteArray.size_append, D8, D8]; show _ + 3 + _ ≤ _; omega), if_pos (by rw [ByteArray.size_append, ByteArray.size_append, D8, D8]; show _ + 3 + _ + 2 ≤ _; omega), Y5 (x := (i : Int) + 1) (by omega) (by omega)]
  have e : ((B acc ++ (⟨#[116, 111, 32]⟩ : ByteArray)) ++ B (J3 ts[i].f0 ts[i].f1)) ++ (⟨#[13, 10]⟩ : ByteArray) = B (acc ++ ([116, 111, 32] ++ (J3 ts[i].f0 ts[i].f1 ++ [13, 10]))) := as9 (by
   rw [I8, I8, I8, M5, M5, U5, U5]
   simp)
  rw [e]
  rfl
theorem cw4 (u d : ByteArray) (ts : List G6) (body : List ByteArray) (ht : ∀ a ∈ ts, b65 a) (h4 : ts.length ≤ 4) (hb : ae3 body = true) : ∀ (e i : Nat) (acc : List UInt8), ts.length = i + e → acc.length + e * 4294967296 ≤ 1099511627776 →
  Ev (fun k => L0.l0 k (B acc) ts (ts.length : Int) (i : Int) u d ts body) (B (acc ++ (toT (ts.drop i) ++ ([13, 10] ++ Z2 body)))) := by
 obtain ⟨hb1, hb2, hb3⟩ := ag6 hb
 intro e
 induction e with
 | zero =>
  intro i acc hi hl
  have hD : ac7.f body = some (B (Z2 body)) := by
   unfold ac7.f
   rw [if_pos (by omega)]
   rfl
  refine Ev.step (f := fun _ => some (B (acc ++ (toT (ts.drop i) ++ ([13, 10] ++ Z2 body))))) (fun k => ?_) (Ev.now _)
  rw [L0.l0, if_neg (by omega), if_pos (by rw [D8]; omega), hD, Option.bind_some, if_pos (by rw [ByteArray.size_append, D8, D8]; show _ + 2 + _ ≤ _; omega), List.drop_eq_nil_of_le (by omega)]
  exact congrArg some (as9 (by rw [I8, I8, M5, M5, U5]; simp [toT]))
 | succ e ih =>
  intro i acc hi hl
  have hlt : i < ts.length := by omega
  have hT := ht _ (List.getElem_mem hlt)
  have hle := cO3 _ hT
  have hal := ay7 ts[i].f0 ts[i].f1
  rw [bU3 ts i hlt]
  have hN := ih (i + 1) (acc ++ ([116, 111, 32] ++ (J3 ts[i].f0 ts[i].f1 ++ [13, 10]))) (by omega) (by rw [List.length_append]; omega)
  refine Ev.step (f := fun k => L0.l0 k (B (acc ++ ([116, 111, 32] ++ (J3 ts[i].f0 ts[i].f1 ++ [13, 10])))) ts (ts.length : Int) ((i + 1 : Nat) : Int) u d ts body) (fun k => ?_) (by simpa using hN)
  have h1 := hT.1
  have h2 := hT.2
  rw [L0.l0, if_pos (by omega), if_pos (by omega), if_pos (by omega), ao9 _ _ hlt, aD8 _ _ h1 h2, Option.bind_some, if_pos (by rw [D8]; omega), if_pos (by rw [ByteArray.size_append, D8]; show 3 + _ + 2 ≤ _; omega), if_pos (by rw [ByteArray.size_append, ByteArray.size_append, D8, D8]; show _ + (3 + _ + 2) ≤ _; omega), Y5 (x := (i : Int) + 1) (by omega) (by omega)]
  have e : B acc ++ (((⟨#[116, 111, 32]⟩ : ByteArray) ++ B (J3 ts[i].f0 ts[i].f1)) ++ (⟨#[13, 10]⟩ : ByteArray)) = B (acc ++ ([116, 111, 32] ++ (J3 ts[i].f0 ts[i].f1 ++ [13, 10]))) := as9 (by
   rw [I8, I8, I8, M5, M5, U5, U5]
   simp)
  rw [e]
  rfl
theorem al3 {u d : ByteArray} {ts : List G6} {body : List ByteArray} (h : am6 u d ts body = true) : (a43 u d || U9 u d) = true ∧ (1 ≤ ts.length ∧ ts.length ≤ 4) ∧ (∀ a ∈ ts, U9 a.f0 a.f1 = true) ∧ ao8 ts = true ∧ ae3 body = true := by
 unfold am6 at h
 simp only [Bool.and_eq_true] at h
 obtain ⟨⟨⟨⟨h1, h2⟩, h3⟩, h4⟩, h5⟩ := h
 exact ⟨h1, of_decide_eq_true h2, fun a ha => List.all_eq_true.1 h3 a ha, h4, h5⟩
theorem bs9 (u d : ByteArray) (ts : List G6) (body : List ByteArray) (hs : av3 u d ts body) (hm : am6 u d ts body = true) : Ev (fun k => R5.f k u d ts body) (B (aa1 u d ts body)) := by
 obtain ⟨hu, hd, ht, _, _, _⟩ := hs
 obtain ⟨_, h2, _, _, h5⟩ := al3 hm
 have hal := ay7 u d
 have h := cw3 u d ts body ht h2.2 h5 ts.length 0 ([102, 114, 111, 109, 32] ++ (J3 u d ++ [13, 10])) (by omega) (by
  simp only [List.length_append, List.length_cons, List.length_nil]
  omega)
 refine Ev.congr (f := fun k => R5.l0 k (B ([102, 114, 111, 109, 32] ++ (J3 u d ++ [13, 10]))) ((0 : Nat) : Int) u d ts body) (fun k => ?_) (by
  unfold aa1
  simpa using h)
 unfold R5.f
 rw [aL7 u d hu hd, Option.bind_some, if_pos (by rw [D8]; omega), if_pos (by rw [ByteArray.size_append, D8]; show 5 + _ + 2 ≤ _; omega)]
 have e : ((⟨#[102, 114, 111, 109, 32]⟩ : ByteArray) ++ B (J3 u d)) ++ (⟨#[13, 10]⟩ : ByteArray) = B ([102, 114, 111, 109, 32] ++ (J3 u d ++ [13, 10])) := as9 (by
  rw [I8, I8, M5, U5, U5]
  simp)
 rw [e]
 rfl
theorem bt0 (u d : ByteArray) (ts : List G6) (body : List ByteArray) (hs : av3 u d ts body) (hm : am6 u d ts body = true) : Ev (fun k => L0.f k u d ts body) (B (aa1 u d ts body)) := by
 have hs' := hs
 obtain ⟨hu, hd, ht, _, _, _⟩ := hs
 obtain ⟨_, h2, _, _, h5⟩ := al3 hm
 have hal := ay7 u d
 have h := cw4 u d ts body ht h2.2 h5 ts.length 0 ([102, 114, 111, 109, 32] ++ (J3 u d ++ [13, 10])) (by omega) (by
  simp only [List.length_append, List.length_cons, List.length_nil]
  omega)
 refine Ev.congr (f := fun k => L0.l0 k (B ([102, 114, 111, 109, 32] ++ (J3 u d ++ [13, 10]))) ts (ts.length : Int) ((0 : Nat) : Int) u d ts body) (fun k => ?_) (by
  unfold aa1
  simpa using h)
 unfold L0.f
 rw [aW6 u d ts body hs', hm, Option.bind_some, if_pos rfl, aD8 u d hu hd, Option.bind_some, if_pos (by rw [D8]; omega), if_pos (by rw [ByteArray.size_append, D8]; show 5 + _ + 2 ≤ _; omega)]
 have e : ((⟨#[102, 114, 111, 109, 32]⟩ : ByteArray) ++ B (J3 u d)) ++ (⟨#[13, 10]⟩ : ByteArray) = B ([102, 114, 111, 109, 32] ++ (J3 u d ++ [13, 10])) := as9 (by
  rw [I8, I8, M5, U5, U5]
  simp)
 rw [e]
 rfl
def aj8 (kind id : Int) (au ad : ByteArray) (now : Int) (u d : ByteArray) (ts : List G6) (body : List ByteArray) : List UInt8 :=
 if kind = 1 then [97, 100, 100, 32] ++ (Lib.itoa now ++ ([10] ++ aa1 u d ts body))
 else if kind = 2 then [100, 111, 110, 101, 32] ++ (Lib.itoa id ++ ([32] ++ J3 au ad))
 else [108, 97, 116, 101, 114, 32] ++ (Lib.itoa id ++ ([32] ++ (J3 au ad ++ ([32] ++ Lib.itoa now))))
theorem aW9 (n : Int) (h : 0 ≤ n) : Lib.itoa n = Lib.decDigits n.toNat := by
 unfold Lib.itoa
 rw [if_neg (by omega)]
theorem at4 (n : Int) (h : 0 ≤ n) (h9 : n ≤ 9999) : (Lib.itoa n).length ≤ 10000 := by
 rw [aW9 n h]
 have := cO2 n.toNat
 omega
theorem aD9 (n : Int) (h : 0 ≤ n) (h9 : n ≤ 9999) : strconv_Itoa.f n = some (B (Lib.itoa n)) := by
 unfold strconv_Itoa.f
 rw [if_pos ⟨by omega, by omega⟩]
 rfl
theorem aL8 (n : Int) (h : 0 ≤ n) (h9 : n ≤ 9999) : Ev (fun k => L7.f k n) (B (Lib.itoa n)) := by
 obtain ⟨n, rfl⟩ := Int.eq_ofNat_of_zero_le h
 rw [aW9 _ h]
 exact cw1 n (by omega)
theorem bU4 (u d : ByteArray) (ts : List G6) (body : List ByteArray) (hs : av3 u d ts body) (hm : am6 u d ts body = true) : (aa1 u d ts body).length ≤ 1099511627776 := by
 obtain ⟨hu, hd, ht, _, _, _⟩ := hs
 obtain ⟨_, h2, _, _, h5⟩ := al3 hm
 obtain ⟨_, _, h6⟩ := ag6 h5
 have hal := ay7 u d
 have h7 : (toT ts).length ≤ ts.length * 4294967296 := b95 _ _ ts (fun a ha => cO3 a (ht a ha))
 have h8 : ts.length * 4294967296 ≤ 4 * 4294967296 := Nat.mul_le_mul_right _ h2.2
 unfold aa1
 simp only [List.length_append, List.length_cons, List.length_nil]
 omega
theorem au5 {kind id : Int} {au ad : ByteArray} {now : Int} {u d : ByteArray} {ts : List G6} {body : List ByteArray} (h : ap4 kind id au ad now u d ts body = true) :
  (kind = 1 ∧ am6 u d ts body = true ∧ 0 ≤ now ∧ now ≤ 9999 ∧ id = 0 ∧ a43 au ad = true) ∨ (kind = 2 ∧ aD7 u d ts body = true ∧ 1 ≤ id ∧ id ≤ 999 ∧ U9 au ad = true ∧ now = 0) ∨ (kind = 3 ∧ aD7 u d ts body = true ∧ 1 ≤ id ∧ id ≤ 999 ∧ U9 au ad = true ∧ 0 ≤ now ∧ now ≤ 9999) := by
 unfold ap4 at h
 by_cases k1 : kind = 1
 ·rw [if_pos k1] at h
  simp only [Bool.and_eq_true, decide_eq_true_eq] at h
  exact .inl ⟨k1, h.1, h.2.1.1, h.2.1.2, h.2.2.1, h.2.2.2⟩
 rw [if_neg k1] at h
 by_cases k2 : kind = 2
 ·rw [if_pos k2] at h
  simp only [Bool.and_eq_true, decide_eq_true_eq] at h
  exact .inr (.inl ⟨k2, h.1, h.2.1.1, h.2.1.2, h.2.2.1, h.2.2.2⟩)
 rw [if_neg k2] at h
 by_cases k3 : kind = 3
 ·rw [if_pos k3] at h
  simp only [Bool.and_eq_true, decide_eq_true_eq] at h
  exact .inr (.inr ⟨k3, h.1, h.2.1.1, h.2.1.2, h.2.2.1, h.2.2.2.1, h.2.2.2.2⟩)
 rw [if_neg k3] at h
 cases h
theorem b96 (kind id : Int) (au ad : ByteArray) (now : Int) (u d : ByteArray) (ts : List G6) (body : List ByteArray) (hs : av3 u d ts body) (hau : au.size ≤ 1073741824) (had : ad.size ≤ 1073741824) (hn : ap4 kind id au ad now u d ts body = true) :
  Ev (fun k => E4.f k kind id au ad now u d ts body) (B (aj8 kind id au ad now u d ts body)) := by
 have hal := ay7 au ad
 unfold aj8
 rcases au5 hn with ⟨k1, hm, n0, n9, _, _⟩ | ⟨k2, _, i1, i9, _, _⟩ | ⟨k3, _, i1, i9, _, n0, n9⟩
 ·rw [if_pos k1]
  have hl := at4 now n0 n9
  have hml := bU4 u d ts body hs hm
  refine Ev.congr (fun k => by unfold E4.f; rw [if_pos k1]) ?_
  refine Ev.call (aL8 now n0 n9) (fun k => by rw [if_pos (by rw [D8]; omega), if_pos (by rw [ByteArray.size_append, D8]; show 4 + _ + 1 ≤ _; omega)]) ?_
  refine Ev.call (bs9 u d ts body hs hm) (h := fun _ => some (B ([97, 100, 100, 32] ++ (Lib.itoa now ++ ([10] ++ aa1 u d ts body))))) (fun k => ?_) (Ev.now _)
  rw [if_pos (by rw [ByteArray.size_append, ByteArray.size_append, D8, D8]; show 4 + _ + 1 + _ ≤ _; omega)]
  exact congrArg some (as9 (by rw [I8, I8, I8, M5, M5, U5, U5]; simp))
 ·have hl := at4 id (by omega) (by omega)
  rw [if_neg (by omega), if_pos k2]
  refine Ev.congr (fun k => by unfold E4.f; rw [if_neg (by omega), if_pos k2]) ?_
  refine Ev.call (aL8 id (by omega) (by omega)) (h := fun _ => some (B ([100, 111, 110, 101, 32] ++ (Lib.itoa id ++ ([32] ++ J3 au ad))))) (fun k => ?_) (Ev.now _)
  rw [if_pos (by rw [D8]; omega), if_pos (by rw [ByteArray.size_append, D8]; show 5 + _ + 1 ≤ _; omega), aL7 au ad hau had, Option.bind_some, if_pos (by rw [ByteArray.size_append, ByteArray.size_append, D8, D8]; show 5 + _ + 1 + _ ≤ _; omega)]
  exact congrArg some (as9 (by rw [I8, I8, I8, M5, M5, U5, U5]; simp))
 ·have hl := at4 id (by omega) (by omega)
  have hl2 := at4 now n0 n9
  rw [if_neg (by omega), if_neg (by omega)]
  refine Ev.congr (fun k => by unfold E4.f; rw [if_neg (by omega), if_neg (by omega)]) ?_
  refine Ev.call (aL8 id (by omega) (by omega)) (fun k => by
   rw [if_pos (by rw [D8]; omega), if_pos (by rw [ByteArray.size_append, D8]; show 6 + _ + 1 ≤ _; omega), aL7 au ad hau had, Option.bind_some, if_pos (by rw [ByteArray.size_append, ByteArray.size_append, D8, D8]; show 6 + _ + 1 + _ ≤ _; omega), if_pos (by rw [ByteArray.size_append, ByteArray.size_append, ByteArray.size_append, D8, D8]; show 6 + _ + 1 + _ + 1 ≤ _; omega)]) ?_
  refine Ev.call (aL8 now n0 n9) (h := fun _ => some (B ([108, 97, 116, 101, 114, 32] ++ (Lib.itoa id ++ ([32] ++ (J3 au ad ++ ([32] ++ Lib.itoa now))))))) (fun k => ?_) (Ev.now _)
  rw [if_pos (by rw [ByteArray.size_append, ByteArray.size_append, ByteArray.size_append, ByteArray.size_append, D8, D8, D8]; show 6 + _ + 1 + _ + 1 + _ ≤ _; omega)]
  exact congrArg some (as9 (by rw [I8, I8, I8, I8, I8, M5, M5, M5, U5, U5]; simp))
def bK3 (kind id : Int) (au ad : ByteArray) (now : Int) (u d : ByteArray) (ts : List G6) (body : List ByteArray) : ByteArray := if ap4 kind id au ad now u d ts body = true then B (aj8 kind id au ad now u d ts body) else (⟨#[]⟩ : ByteArray)
theorem bt1 (kind id : Int) (au ad : ByteArray) (now : Int) (u d : ByteArray) (ts : List G6) (body : List ByteArray) (hs : av3 u d ts body) (hau : au.size ≤ 1073741824) (had : ad.size ≤ 1073741824) :
  Ev (fun k => al2.f k kind id au ad now u d ts body) (bK3 kind id au ad now u d ts body) := by
 have h := bf6 kind id au ad now u d ts body hs hau had
 unfold bK3
 cases hn : ap4 kind id au ad now u d ts body
 ·rw [hn] at h
  exact Ev.call h (h := fun _ => some (⟨#[]⟩ : ByteArray)) (fun k => if_neg (by decide)) (Ev.now _)
 ·rw [hn] at h
  refine Ev.call h (fun k => if_pos rfl) ?_
  exact Ev.call (b96 kind id au ad now u d ts body hs hau had hn) (h := fun _ => some (B (aj8 kind id au ad now u d ts body))) (fun k => rfl) (Ev.now _)
theorem aX0 (kind id : Int) (au ad : ByteArray) (now : Int) (u d : ByteArray) (ts : List G6) (body : List ByteArray) (hs : av3 u d ts body) (hau : au.size ≤ 1073741824) (had : ad.size ≤ 1073741824) :
  Ev (fun k => M6.f k kind id au ad now u d ts body) (bK3 kind id au ad now u d ts body) := by
 have h := aW7 kind id au ad now u d ts body hs had
 unfold bK3
 cases hn : ap4 kind id au ad now u d ts body
 ·rw [hn] at h
  exact Ev.call h (h := fun _ => some (⟨#[]⟩ : ByteArray)) (fun k => if_neg (by decide)) (Ev.now _)
 ·rw [hn] at h
  have hal := ay7 au ad
  refine Ev.call h (fun k => if_pos rfl) ?_
  unfold aj8
  rcases au5 hn with ⟨k1, hm, n0, n9, _, _⟩ | ⟨k2, _, i1, i9, _, eJ4⟩ | ⟨k3, _, i1, i9, _, n0, n9⟩
  ·rw [if_pos rfl, if_pos k1]
   have hl := at4 now n0 n9
   have hml := bU4 u d ts body hs hm
   refine Ev.congr (fun k => by rw [aD9 now n0 n9, Option.bind_some, if_pos k1, if_pos (by rw [D8]; omega), if_pos (by rw [ByteArray.size_append, D8]; show 4 + _ + 1 ≤ _; omega)]) ?_
   refine Ev.call (bt0 u d ts body hs hm) (h := fun _ => some (B ([97, 100, 100, 32] ++ (Lib.itoa now ++ ([10] ++ aa1 u d ts body))))) (fun k => ?_) (Ev.now _)
   rw [if_pos (by rw [ByteArray.size_append, ByteArray.size_append, D8, D8]; show 4 + _ + 1 + _ ≤ _; omega)]
   exact congrArg some (as9 (by rw [I8, I8, I8, M5, M5, U5, U5]; simp))
  ·have hl := at4 id (by omega) (by omega)
   rw [if_pos rfl, if_neg (by omega), if_pos k2]
   refine Ev.congr (f := fun _ => some (B ([100, 111, 110, 101, 32] ++ (Lib.itoa id ++ ([32] ++ J3 au ad))))) (fun k => ?_) (Ev.now _)
   rw [aD9 now (by omega) (by omega), Option.bind_some, if_neg (by omega), aD9 id (by omega) (by omega), Option.bind_some, if_pos (by rw [D8]; omega), aD8 au ad hau had, Option.bind_some, if_pos (by rw [ByteArray.size_append, D8, D8]; show _ + 1 + _ ≤ _; omega), if_pos k2, if_pos (by rw [ByteArray.size_append, ByteArray.size_append, D8, D8]; show 5 + (_ + 1 + _) ≤ _; omega)]
   exact congrArg some (as9 (by rw [I8, I8, I8, M5, M5, U5, U5]; simp))
  ·have hl := at4 id (by omega) (by omega)
   have hl2 := at4 now n0 n9
   rw [if_pos rfl, if_neg (by omega), if_neg (by omega)]
   refine Ev.congr (f := fun _ => some (B ([108, 97, 116, 101, 114, 32] ++ (Lib.itoa id ++ ([32] ++ (J3 au ad ++ ([32] ++ Lib.itoa now))))))) (fun k => ?_) (Ev.now _)
   rw [aD9 now (by omega) (by omega), Option.bind_some, if_neg (by omega), aD9 id (by omega) (by omega), Option.bind_some, if_pos (by rw [D8]; omega), aD8 au ad hau had, Option.bind_some, if_pos (by rw [ByteArray.size_append, D8, D8]; show _ + 1 + _ ≤ _; omega), if_neg (by omega), if_pos (by rw [ByteArray.size_append, ByteArray.size_append, D8, D8]; show 6 + (_ + 1 + _) ≤ _; omega), if_pos (by rw [ByteArray.size_append, ByteArray.size_append, ByteArray.size_append, D8, D8]; show 6 + (_ + 1 + _) + 1 ≤ _; omega), if_pos (by rw [ByteArray.size_append, ByteArray.size_append, ByteArray.size_append, ByteArray.size_append, D8, D8, D8]; show 6 + (_ + 1 + _) + 1 + _ ≤ _; omega)]
   exact congrArg some (as9 (by rw [I8, I8, I8, I8, I8, M5, M5, M5, U5, U5]; simp))
end Go.Proofs.YtbncnjgflhoneaaGreatDoor.Hand
namespace Go.Proofs.YtbncnjgflhoneaaGreatDoor.F
open Go.RowKit Go.Proofs.YtbncnjgflhoneaaGreatDoor.Hand Go.Proofs.YtbncnjgflhoneaaGreatDoorW.l8 Go.Proofs.YtbncnjgflhoneaaGreatDoorW.s9 Go.Proofs.YtbncnjgflhoneaaGreatDoorW.y9
def stringslite_HasPrefix.f (a0 : ByteArray) (a1 : ByteArray) : Option (Bool) := if (a0.size : Int) ≥ (a1.size : Int) then (if 0 ≤ (a1.size : Int) then (if (a1.size : Int) ≤ (a0.size : Int) then (some ((a0.extract 0 ((a1.size : Int) : Int).toNat).toList == a1.toList)) else (none)) else (none)) else (some false)
set_option maxHeartbeats 8000000 in
set_option maxRecDepth 100000 in
theorem stringslite_HasPrefix.calls (a0 : ByteArray) (a1 : ByteArray) (r : Bool) (w : World) (h : stringslite_HasPrefix.f a0 a1 = some r) :
  Calls Tryz.prog 139 #[.string a0, .string a1] w fun e w' => e = .returned (.bool r) ∧ O7 w w' := by
 have H := h
 clear h
 unfold stringslite_HasPrefix.f at H
 replace H := a29 H; rcases H with ⟨c3, aD1, H⟩ | ⟨c3, aD1, H⟩
 ·have aZ5 : decide (a1.size ≤ a0.size) = true := decide_eq_true (Int.ofNat_le.mp c3)
  clear c3
  replace H := Q5 H; obtain ⟨aD2, bT9, H⟩ := H
  replace H := Q5 H; obtain ⟨ap1, bc3, H⟩ := H
  obtain rfl := Option.some.inj H
  go_enter Tryz.func139, Tryz.ntmps139
  go_wp2
  go_ret
  exact ⟨zs, zD⟩
 ·have aZ5 : decide (a1.size ≤ a0.size) = false := decide_eq_false (fun h => c3 (Int.ofNat_le.mpr h))
  clear c3
  obtain rfl := Option.some.inj H
  go_enter Tryz.func139, Tryz.ntmps139
  go_wp2
  go_ret
  exact ⟨zs, zD⟩
def stringslite_CutPrefix.f (a0 : ByteArray) (a1 : ByteArray) : Option (ByteArray × Bool) := (stringslite_HasPrefix.f a0 a1).bind fun t101 => (if t101 = true then (if 0 ≤ (a1.size : Int) then (if (a1.size : Int) ≤ (a0.size : Int) then (some (a0.extract ((a1.size : Int) : Int).toNat a0.size, true)) else (none)) else (none)) else (some (a0, false)))
set_option maxHeartbeats 8000000 in
set_option maxRecDepth 100000 in
theorem stringslite_CutPrefix.calls (a0 : ByteArray) (a1 : ByteArray) (r1 : ByteArray) (r2 : Bool) (w : World) (h : stringslite_CutPrefix.f a0 a1 = some (r1, r2)) :
  Calls Tryz.prog 125 #[.string a0, .string a1] w fun e w' => e = .returned (.tuple #[.string r1, .bool r2]) ∧ O7 w w' := by
 have H := h
 clear h
 unfold stringslite_CutPrefix.f at H
 replace H := S2 H; obtain ⟨t101, A3, H⟩ := H
 replace H := itb H; rcases H with ⟨rfl, H⟩ | ⟨rfl, H⟩
 ·replace H := Q5 H; obtain ⟨ap1, bc3, H⟩ := H
  replace H := Q5 H; obtain ⟨am1, aZ8, H⟩ := H
  simp only [Option.some.injEq, Prod.mk.injEq] at H
  obtain ⟨rfl, rfl⟩ := H
  go_enter Tryz.func125, Tryz.ntmps125
  go_wp2_with (first | ((with_reducible refine j6 (f := 139) rfl ?_); refine gv 8 Tryz.func139 _ (stringslite_HasPrefix.calls (w := _) (h := A3.out)) ?_; rintro w' ⟨nd, rfl⟩))
  go_ret2
  exact ⟨zs, zD⟩
 ·simp only [Option.some.injEq, Prod.mk.injEq] at H
  obtain ⟨rfl, rfl⟩ := H
  go_enter Tryz.func125, Tryz.ntmps125
  go_wp2_with (first | ((with_reducible refine j6 (f := 139) rfl ?_); refine gv 8 Tryz.func139 _ (stringslite_HasPrefix.calls (w := _) (h := A3.out)) ?_; rintro w' ⟨nd, rfl⟩))
  go_ret2
  exact ⟨zs, zD⟩
end Go.Proofs.YtbncnjgflhoneaaGreatDoor.F
namespace Go.Proofs.YtbncnjgflhoneaaGreatDoor.F
open Go.RowKit Go.Proofs.YtbncnjgflhoneaaGreatDoor.Hand Go.Proofs.YtbncnjgflhoneaaGreatDoorW.l8 Go.Proofs.YtbncnjgflhoneaaGreatDoorW.s9 Go.Proofs.YtbncnjgflhoneaaGreatDoorW.y9
def strings_CutPrefix.f (a0 : ByteArray) (a1 : ByteArray) : Option (ByteArray × Bool) := (stringslite_CutPrefix.f a0 a1).bind fun Y6 => (some (Y6.1, Y6.2))
set_option maxHeartbeats 8000000 in
set_option maxRecDepth 100000 in
theorem strings_CutPrefix.calls (a0 : ByteArray) (a1 : ByteArray) (r1 : ByteArray) (r2 : Bool) (w : World) (h : strings_CutPrefix.f a0 a1 = some (r1, r2)) :
  Calls Tryz.prog 80 #[.string a0, .string a1] w fun e w' => e = .returned (.tuple #[.string r1, .bool r2]) ∧ O7 w w' := by
 have H := h
 clear h
 unfold strings_CutPrefix.f at H
 replace H := S2 H; obtain ⟨⟨t101, t102⟩, A3, H⟩ := H
 dsimp only at H
 simp only [Option.some.injEq, Prod.mk.injEq] at H
 obtain ⟨rfl, rfl⟩ := H
 go_enter Tryz.func80, Tryz.ntmps80
 go_wp2_with (first | ((with_reducible refine j6 (f := 125) rfl ?_); refine gv 8 Tryz.func125 _ (stringslite_CutPrefix.calls (w := _) (h := A3.out)) ?_; rintro w' ⟨nd, rfl⟩))
 go_ret2
 exact ⟨zs, zD⟩
def stringslite_HasSuffix.f (a0 : ByteArray) (a1 : ByteArray) : Option (Bool) := if (a0.size : Int) ≥ (a1.size : Int) then (if 0 ≤ (wrap64 ((a0.size : Int) - (a1.size : Int))) then (if (wrap64 ((a0.size : Int) - (a1.size : Int))) ≤ (a0.size : Int) then (some ((a0.extract ((wrap64 ((a0.size : Int) - (a1.size : Int))) : Int).toNat a0.size).toList == a1.toList)) else (none)) else (none)) else (some false)
set_option maxHeartbeats 8000000 in
set_option maxRecDepth 100000 in
theorem stringslite_HasSuffix.calls (a0 : ByteArray) (a1 : ByteArray) (r : Bool) (w : World) (h : stringslite_HasSuffix.f a0 a1 = some r) :
  Calls Tryz.prog 163 #[.string a0, .string a1] w fun e w' => e = .returned (.bool r) ∧ O7 w w' := by
 have H := h
 clear h
 unfold stringslite_HasSuffix.f at H
 replace H := a29 H; rcases H with ⟨c3, aD1, H⟩ | ⟨c3, aD1, H⟩
 ·have aZ5 : decide (a1.size ≤ a0.size) = true := decide_eq_true (Int.ofNat_le.mp c3)
  clear c3
  obtain ⟨ji4, d00⟩ : ∃ j_ : Int, (wrap64 ((a0.size : Int) - (a1.size : Int))) = j_ := ⟨_, rfl⟩
  first | rw [d00] at H | simp only [d00] at H
  have ev8 : (IntKind.i64.wrap ((a0.size : Int) - (a1.size : Int))) = ji4 := (Z1 _).trans d00
  replace H := Q5 H; obtain ⟨ap1, bc3, H⟩ := H
  replace H := Q5 H; obtain ⟨am1, aZ8, H⟩ := H
  obtain rfl := Option.some.inj H
  go_enter Tryz.func163, Tryz.ntmps163
  go_wp2
  go_ret
  exact ⟨by first | rfl | (simp; done) | (simp only [← d00] <;> (first | rfl | simp)) | (simp [*]; done), zD⟩
 ·have aZ5 : decide (a1.size ≤ a0.size) = false := decide_eq_false (fun h => c3 (Int.ofNat_le.mpr h))
  clear c3
  obtain rfl := Option.some.inj H
  go_enter Tryz.func163, Tryz.ntmps163
  go_wp2
  go_ret
  exact ⟨zs, zD⟩
end Go.Proofs.YtbncnjgflhoneaaGreatDoor.F
namespace Go.Proofs.YtbncnjgflhoneaaGreatDoor.F
open Go.RowKit Go.Proofs.YtbncnjgflhoneaaGreatDoor.Hand Go.Proofs.YtbncnjgflhoneaaGreatDoorW.l8 Go.Proofs.YtbncnjgflhoneaaGreatDoorW.s9 Go.Proofs.YtbncnjgflhoneaaGreatDoorW.y9
def stringslite_TrimSuffix.f (a0 : ByteArray) (a1 : ByteArray) : Option (ByteArray) := (stringslite_HasSuffix.f a0 a1).bind fun t101 => (if t101 = true then (if 0 ≤ (wrap64 ((a0.size : Int) - (a1.size : Int))) then (if (wrap64 ((a0.size : Int) - (a1.size : Int))) ≤ (a0.size : Int) then (some (a0.extract 0 ((wrap64 ((a0.size : Int) - (a1.size : Int))) : Int).toNat)) else (none)) else (none)) else (some a0))
set_option maxHeartbeats 8000000 in
set_option maxRecDepth 100000 in
theorem stringslite_TrimSuffix.calls (a0 : ByteArray) (a1 : ByteArray) (r : ByteArray) (w : World) (h : stringslite_TrimSuffix.f a0 a1 = some r) :
  Calls Tryz.prog 126 #[.string a0, .string a1] w fun e w' => e = .returned (.string r) ∧ O7 w w' := by
 have H := h
 clear h
 unfold stringslite_TrimSuffix.f at H
 replace H := S2 H; obtain ⟨t101, A3, H⟩ := H
 replace H := itb H; rcases H with ⟨rfl, H⟩ | ⟨rfl, H⟩
 ·obtain ⟨ji5, cO4⟩ : ∃ j_ : Int, (wrap64 ((a0.size : Int) - (a1.size : Int))) = j_ := ⟨_, rfl⟩
  first | rw [cO4] at H | simp only [cO4] at H
  (try rw [cO4] at A3)
  have ev9 : (IntKind.i64.wrap ((a0.size : Int) - (a1.size : Int))) = ji5 := (Z1 _).trans cO4
  replace H := Q5 H; obtain ⟨am1, aZ8, H⟩ := H
  replace H := Q5 H; obtain ⟨ak6, b77, H⟩ := H
  obtain rfl := Option.some.inj H
  go_enter Tryz.func126, Tryz.ntmps126
  go_wp2_with (first | ((with_reducible refine j6 (f := 163) rfl ?_); refine gv 7 Tryz.func163 _ (stringslite_HasSuffix.calls (w := _) (h := A3.out)) ?_; rintro w' ⟨nd, rfl⟩))
  go_ret
  exact ⟨by first | rfl | (simp; done) | (simp only [← cO4] <;> (first | rfl | simp)) | (simp [*]; done), zD⟩
 ·obtain rfl := Option.some.inj H
  go_enter Tryz.func126, Tryz.ntmps126
  go_wp2_with (first | ((with_reducible refine j6 (f := 163) rfl ?_); refine gv 7 Tryz.func163 _ (stringslite_HasSuffix.calls (w := _) (h := A3.out)) ?_; rintro w' ⟨nd, rfl⟩))
  go_ret
  exact ⟨zs, zD⟩
def strings_TrimSuffix.f (a0 : ByteArray) (a1 : ByteArray) : Option (ByteArray) := (stringslite_TrimSuffix.f a0 a1).bind fun t101 => (some t101)
set_option maxHeartbeats 8000000 in
set_option maxRecDepth 100000 in
theorem strings_TrimSuffix.calls (a0 : ByteArray) (a1 : ByteArray) (r : ByteArray) (w : World) (h : strings_TrimSuffix.f a0 a1 = some r) :
  Calls Tryz.prog 81 #[.string a0, .string a1] w fun e w' => e = .returned (.string r) ∧ O7 w w' := by
 have H := h
 clear h
 unfold strings_TrimSuffix.f at H
 replace H := S2 H; obtain ⟨t101, A3, H⟩ := H
 obtain rfl := Option.some.inj H
 go_enter Tryz.func81, Tryz.ntmps81
 go_wp2_with (first | ((with_reducible refine j6 (f := 126) rfl ?_); refine gv 7 Tryz.func126 _ (stringslite_TrimSuffix.calls (w := _) (h := A3.out)) ?_; rintro w' ⟨nd, rfl⟩))
 go_ret
 exact ⟨zs, zD⟩
end Go.Proofs.YtbncnjgflhoneaaGreatDoor.F
namespace Go.Proofs.YtbncnjgflhoneaaGreatDoor.F
open Go.RowKit Go.Proofs.YtbncnjgflhoneaaGreatDoor.Hand Go.Proofs.YtbncnjgflhoneaaGreatDoorW.l8 Go.Proofs.YtbncnjgflhoneaaGreatDoorW.s9 Go.Proofs.YtbncnjgflhoneaaGreatDoorW.y9
def S8.f (k : Nat) (a0 : ByteArray) : Option (ByteArray × ByteArray × Bool) := (strings_CutPrefix.f a0 (⟨#[60]⟩ : ByteArray)).bind fun D9 => ((strings_TrimSuffix.f D9.1 (⟨#[62]⟩ : ByteArray)).bind fun t104 => ((strings_Cut.f t104 (⟨#[64]⟩ : ByteArray)).bind fun am7 => (if D9.2 = true then ((M7.f k am7.1 am7.2.1).bind fun t109 => (if t109 = true then ((Q2.f am7.1 am7.2.1).bind fun t110 => (if t110.toList = a0.toList then (some (am7.1, am7.2.1, true)) else (some ((⟨#[]⟩ : ByteArray), (⟨#[]⟩ : ByteArray), false)))) else (some ((⟨#[]⟩ : ByteArray), (⟨#[]⟩ : ByteArray), false)))) else (some ((⟨#[]⟩ : ByteArray), (⟨#[]⟩ : ByteArray), false)))))
set_option maxHeartbeats 8000000 in
set_option maxRecDepth 100000 in
theorem S8.calls (k : Nat) (a0 : ByteArray) (r1 : ByteArray) (r2 : ByteArray) (r3 : Bool) (w : World) (hG : Laid w) (h : S8.f k a0 = some (r1, r2, r3)) :
  Calls Tryz.prog 43 #[.string a0] w fun e w' => e = .returned (.tuple #[.agg #[.string r1, .string r2], .bool r3]) ∧ Below w.heap.size w w' := by
 have as2 := Tryz.underlying32
 have HG := j4.mk hG
 clear hG
 have HB := j4.mk (Below.refl w.heap.size w)
 have H := h
 clear h
 unfold S8.f at H
 replace H := S2 H; obtain ⟨⟨t102, t103⟩, A2, H⟩ := H
 dsimp only at H
 replace H := S2 H; obtain ⟨t104, A3, H⟩ := H
 replace H := S2 H; obtain ⟨⟨t105, t106, t107⟩, A4, H⟩ := H
 dsimp only at H
 replace H := itb H; rcases H with ⟨rfl, H⟩ | ⟨rfl, H⟩
 ·replace H := S2 H; obtain ⟨t109, A6, H⟩ := H
  replace H := itb H; rcases H with ⟨rfl, H⟩ | ⟨rfl, H⟩
  ·replace H := S2 H; obtain ⟨t110, A8, H⟩ := H
   replace H := F6 H; rcases H with ⟨aF9, bs6, H⟩ | ⟨aF9, bs6, H⟩
   ·simp only [Option.some.injEq, Prod.mk.injEq] at H
    obtain ⟨rfl, rfl, rfl⟩ := H
    go_enter Tryz.func43, Tryz.ntmps43
    go_wp2_with (first | ((with_reducible refine l9 (N := 2) rfl ?_); refine bx (cs := #[.string ⟨#[]⟩, .string ⟨#[]⟩]) (t := 32) ?_; intro j8 hg w10 o8 hb; have j5 := j4.mk (o8); have L8 := gS hg; have J7 := gS hg; replace HB := bS hb; clear hb o8 hg) | ((with_reducible refine j6 (f := 80) rfl ?_); refine gv 12 Tryz.func80 _ (strings_CutPrefix.calls (w := _) (h := A2.out)) ?_; rintro w' ⟨nd, rfl⟩; (try (rw [X9 w10]; generalize hq_ : World.drewN w10 _ = w10; have P5 : j4 (w10.heap[j8]? = some (.cells #[.string ⟨#[]⟩, .string ⟨#[]⟩] 32 (0, 0))) := ⟨by rw [← hq_]; exact (kQ j5)⟩; have P6 : j4 (Below w.heap.size w w10) := ⟨by rw [← hq_]; exact zB⟩; clear j5 HB hq_; have j5 := P5; have HB := P6; clear P5 P6))) | ((with_reducible refine j6 (f := 81) rfl ?_); refine gv 17 Tryz.func81 _ (strings_TrimSuffix.calls (w := _) (h := A3.out)) ?_; rintro w' ⟨nd, rfl⟩; (try (rw [X9 w10]; generalize hq_ : World.drewN w10 _ = w10; have P5 : j4 (w10.heap[j8]? = some (.cells #[.string ⟨#[]⟩, .string ⟨#[]⟩] 32 (0, 0))) := ⟨by rw [← hq_]; exact (kQ j5)⟩; have P6 : j4 (Below w.heap.size w w10) := ⟨by rw [← hq_]; exact zB⟩; clear j5 HB hq_; have j5 := P5; have HB := P6; clear P5 P6))) | ((with_reducible refine j6 (f := 39) rfl ?_); refine gv 18 Tryz.func39 _ (strings_Cut.calls (w := _) (hG := gB) (h := A4.out)) ?_; rintro w' ⟨nd, rfl⟩; (try (rw [X9 w10]; generalize hq_ : World.drewN w10 _ = w10; have P5 : j4 (w10.heap[j8]? = some (.cells #[.string ⟨#[]⟩, .string ⟨#[]⟩] 32 (0, 0))) := ⟨by rw [← hq_]; exact (kQ j5)⟩; have P6 : j4 (Below w.heap.size w w10) := ⟨by rw [← hq_]; exact zB⟩; clear j5 HB hq_; have j5 := P5; have HB := P6; clear P5 P6))) | ((with_reducible refine l9 (N := 9) rfl ?_); refine bx (cs := #[.string ⟨#[]⟩, .string ⟨#[]⟩]) (t := 32) ?_; intro cO5 hg w11 o8 hb; have ai8 := j4.mk (o8); have cO6 := gS hg; have cO7 := gS hg; have aB3 := nS hg j5; have aB4 := nG hg j5; replace j5 := kS j5 hb; replace HB := bS hb; clear hb o8 hg; have dT5 := aB4.out; have dT6 := aB3.out; have bT2 := cz2 ai8.out; have bT3 := fz2 ai8.out) | (go_at_call 72; refine (M7.calls (w := _) (hG := gB) (h := A6.out)).mono ?_; rintro e w14 ⟨rfl, hb⟩; replace j5 := kS j5 hb; replace ai8 := kP (.cells #[.string t105, .string t106] 32 (0, 0)) ai8 hb; replace HB := bS hb; clear hb; have bB7 := cz2 ai8.out; have bB8 := fz2 ai8.out) | (go_at_call 29; with_reducible refine (Q2.calls (w := _) (h := A8.out)).mono ?_; rintro e w16 ⟨rfl, hb⟩; replace j5 := kS j5 hb; replace ai8 := kS ai8 hb; replace HB := bS hb; clear hb; have dl8 := cz2 ai8.out; have dl9 := fz2 ai8.out; have cO8 := cz2 j5.out; have cO9 := fz2 j5.out))
    refine bodyPost_ret (I2 rfl _ _ j8 32 #[.string t105, .string t106] (0, 0) _ rfl (kQ j5) Tryz.underlying32 rfl z2_) rfl ?_
    exact ⟨zr, zB⟩
   ·simp only [Option.some.injEq, Prod.mk.injEq] at H
    obtain ⟨rfl, rfl, rfl⟩ := H
    go_enter Tryz.func43, Tryz.ntmps43
    go_wp2_with (first | ((with_reducible refine l9 (N := 2) rfl ?_); refine bx (cs := #[.string ⟨#[]⟩, .string ⟨#[]⟩]) (t := 32) ?_; intro j8 hg w19 o8 hb; have j5 := j4.mk (o8); have L8 := gS hg; have J7 := gS hg; replace HB := bS hb; clear hb o8 hg) | ((with_reducible refine j6 (f := 80) rfl ?_); refine gv 12 Tryz.func80 _ (strings_CutPrefix.calls (w := _) (h := A2.out)) ?_; rintro w' ⟨nd, rfl⟩; (try (rw [X9 w19]; generalize hq_ : World.drewN w19 _ = w19; have P5 : j4 (w19.heap[j8]? = some (.cells #[.string ⟨#[]⟩, .string ⟨#[]⟩] 32 (0, 0))) := ⟨by rw [← hq_]; exact (kQ j5)⟩; have P6 : j4 (Below w.heap.size w w19) := ⟨by rw [← hq_]; exact zB⟩; clear j5 HB hq_; have j5 := P5; have HB := P6; clear P5 P6))) | ((with_reducible refine j6 (f := 81) rfl ?_); refine gv 17 Tryz.func81 _ (strings_TrimSuffix.calls (w := _) (h := A3.out)) ?_; rintro w' ⟨nd, rfl⟩; (try (rw [X9 w19]; generalize hq_ : World.drewN w19 _ = w19; have P5 : j4 (w19.heap[j8]? = some (.cells #[.string ⟨#[]⟩, .string ⟨#[]⟩] 32 (0, 0))) := ⟨by rw [← hq_]; exact (kQ j5)⟩; have P6 : j4 (Below w.heap.size w w19) := ⟨by rw [← hq_]; exact zB⟩; clear j5 HB hq_; have j5 := P5; have HB := P6; clear P5 P6))) | ((with_reducible refine j6 (f := 39) rfl ?_); refine gv 18 Tryz.func39 _ (strings_Cut.calls (w := _) (hG := gB) (h := A4.out)) ?_; rintro w' ⟨nd, rfl⟩; (try (rw [X9 w19]; generalize hq_ : World.drewN w19 _ = w19; have P5 : j4 (w19.heap[j8]? = some (.cells #[.string ⟨#[]⟩, .string ⟨#[]⟩] 32 (0, 0))) := ⟨by rw [← hq_]; exact (kQ j5)⟩; have P6 : j4 (Below w.heap.size w w19) := ⟨by rw [← hq_]; exact zB⟩; clear j5 HB hq_; have j5 := P5; have HB := P6; clear P5 P6))) | ((with_reducible refine l9 (N := 9) rfl ?_); refine bx (cs := #[.string ⟨#[]⟩, .string ⟨#[]⟩]) (t := 32) ?_; intro cO5 hg w20 o8 hb; have ai8 := j4.mk (o8); have cO6 := gS hg; have cO7 := gS hg; have aB3 := nS hg j5; have aB4 := nG hg j5; replace j5 := kS j5 hb; replace HB := bS hb; clear hb o8 hg; have cd2 := aB4.out; have cd3 := aB3.out; have cM3 := cz2 ai8.out; have cM4 := fz2 ai8.out) | (go_at_call 72; refine (M7.calls (w := _) (hG := gB) (h := A6.out)).mono ?_; rintro e w23 ⟨rfl, hb⟩; replace j5 := kS j5 hb; replace ai8 := kP (.cells #[.string t105, .string t106] 32 (0, 0)) ai8 hb; replace HB := bS hb; clear hb; have br0 := cz2 ai8.out; have br1 := fz2 ai8.out) | (go_at_call 29; with_reducible refine (Q2.calls (w := _) (h := A8.out)).mono ?_; rintro e w25 ⟨rfl, hb⟩; replace j5 := kS j5 hb; replace ai8 := kS ai8 hb; replace HB := bS hb; clear hb; have bR4 := cz2 j5.out; have bR5 := fz2 j5.out))
    refine bodyPost_ret (I2 rfl _ _ j8 32 #[.string (⟨#[]⟩ : ByteArray), .string (⟨#[]⟩ : ByteArray)] (0, 0) _ rfl (kQ j5) Tryz.underlying32 rfl z2_) rfl ?_
    exact ⟨zr, zB⟩
  ·simp only [Option.some.injEq, Prod.mk.injEq] at H
   obtain ⟨rfl, rfl, rfl⟩ := H
   go_enter Tryz.func43, Tryz.ntmps43
   go_wp2_with (first | ((with_reducible refine l9 (N := 2) rfl ?_); refine bx (cs := #[.string ⟨#[]⟩, .string ⟨#[]⟩]) (t := 32) ?_; intro j8 hg w27 o8 hb; have j5 := j4.mk (o8); have L8 := gS hg; have J7 := gS hg; replace HB := bS hb; clear hb o8 hg) | ((with_reducible refine j6 (f := 80) rfl ?_); refine gv 12 Tryz.func80 _ (strings_CutPrefix.calls (w := _) (h := A2.out)) ?_; rintro w' ⟨nd, rfl⟩; (try (rw [X9 w27]; generalize hq_ : World.drewN w27 _ = w27; have P5 : j4 (w27.heap[j8]? = some (.cells #[.string ⟨#[]⟩, .string ⟨#[]⟩] 32 (0, 0))) := ⟨by rw [← hq_]; exact (kQ j5)⟩; have P6 : j4 (Below w.heap.size w w27) := ⟨by rw [← hq_]; exact zB⟩; clear j5 HB hq_; have j5 := P5; have HB := P6; clear P5 P6))) | ((with_reducible refine j6 (f := 81) rfl ?_); refine gv 17 Tryz.func81 _ (strings_TrimSuffix.calls (w := _) (h := A3.out)) ?_; rintro w' ⟨nd, rfl⟩; (try (rw [X9 w27]; generalize hq_ : World.drewN w27 _ = w27; have P5 : j4 (w27.heap[j8]? = some (.cells #[.string ⟨#[]⟩, .string ⟨#[]⟩] 32 (0, 0))) := ⟨by rw [← hq_]; exact (kQ j5)⟩; have P6 : j4 (Below w.heap.size w w27) := ⟨by rw [← hq_]; exact zB⟩; clear j5 HB hq_; have j5 := P5; have HB := P6; clear P5 P6))) | ((with_reducible refine j6 (f := 39) rfl ?_); refine gv 18 Tryz.func39 _ (strings_Cut.calls (w := _) (hG := gB) (h := A4.out)) ?_; rintro w' ⟨nd, rfl⟩; (try (rw [X9 w27]; generalize hq_ : World.drewN w27 _ = w27; have P5 : j4 (w27.heap[j8]? = some (.cells #[.string ⟨#[]⟩, .string ⟨#[]⟩] 32 (0, 0))) := ⟨by rw [← hq_]; exact (kQ j5)⟩; have P6 : j4 (Below w.heap.size w w27) := ⟨by rw [← hq_]; exact zB⟩; clear j5 HB hq_; have j5 := P5; have HB := P6; clear P5 P6))) | ((with_reducible refine l9 (N := 9) rfl ?_); refine bx (cs := #[.string ⟨#[]⟩, .string ⟨#[]⟩]) (t := 32) ?_; intro cO5 hg w28 o8 hb; have ai8 := j4.mk (o8); have cO6 := gS hg; have cO7 := gS hg; have aB3 := nS hg j5; have aB4 := nG hg j5; replace j5 := kS j5 hb; replace HB := bS hb; clear hb o8 hg; have bB4 := aB4.out; have bB5 := aB3.out; have cq0 := cz2 ai8.out; have cq1 := fz2 ai8.out) | (go_at_call 72; refine (M7.calls (w := _) (hG := gB) (h := A6.out)).mono ?_; rintro e w31 ⟨rfl, hb⟩; replace j5 := kS j5 hb; replace ai8 := kP (.cells #[.string t105, .string t106] 32 (0, 0)) ai8 hb; replace HB := bS hb; clear hb; have bD2 := cz2 j5.out; have bD3 := fz2 j5.out))
   refine bodyPost_ret (I2 rfl _ _ j8 32 #[.string (⟨#[]⟩ : ByteArray), .string (⟨#[]⟩ : ByteArray)] (0, 0) _ rfl (kQ j5) Tryz.underlying32 rfl z2_) rfl ?_
   exact ⟨zr, zB⟩
 ·simp only [Option.some.injEq, Prod.mk.injEq] at H
  obtain ⟨rfl, rfl, rfl⟩ := H
  go_enter Tryz.func43, Tryz.ntmps43
  go_wp2_with (first | ((with_reducible refine l9 (N := 2) rfl ?_); refine bx (cs := #[.string ⟨#[]⟩, .string ⟨#[]⟩]) (t := 32) ?_; intro j8 hg w33 o8 hb; have j5 := j4.mk (o8); have L8 := gS hg; have J7 := gS hg; replace HB := bS hb; clear hb o8 hg) | ((with_reducible refine j6 (f := 80) rfl ?_); refine gv 12 Tryz.func80 _ (strings_CutPrefix.calls (w := _) (h := A2.out)) ?_; rintro w' ⟨nd, rfl⟩; (try (rw [X9 w33]; generalize hq_ : World.drewN w33 _ = w33; have P5 : j4 (w33.heap[j8]? = some (.cells #[.string ⟨#[]⟩, .string ⟨#[]⟩] 32 (0, 0))) := ⟨by rw [← hq_]; exact (kQ j5)⟩; have P6 : j4 (Below w.heap.size w w33) := ⟨by rw [← hq_]; exact zB⟩; clear j5 HB hq_; have j5 := P5; have HB := P6; clear P5 P6))) | ((with_reducible refine j6 (f := 81) rfl ?_); refine gv 17 Tryz.func81 _ (strings_TrimSuffix.calls (w := _) (h := A3.out)) ?_; rintro w' ⟨nd, rfl⟩; (try (rw [X9 w33]; generalize hq_ : World.drewN w33 _ = w33; have P5 : j4 (w33.heap[j8]? = some (.cells #[.string ⟨#[]⟩, .string ⟨#[]⟩] 32 (0, 0))) := ⟨by rw [← hq_]; exact (kQ j5)⟩; have P6 : j4 (Below w.heap.size w w33) := ⟨by rw [← hq_]; exact zB⟩; clear j5 HB hq_; have j5 := P5; have HB := P6; clear P5 P6))) | ((with_reducible refine j6 (f := 39) rfl ?_); refine gv 18 Tryz.func39 _ (strings_Cut.calls (w := _) (hG := gB) (h := A4.out)) ?_; rintro w' ⟨nd, rfl⟩; (try (rw [X9 w33]; generalize hq_ : World.drewN w33 _ = w33; have P5 : j4 (w33.heap[j8]? = some (.cells #[.string ⟨#[]⟩, .string ⟨#[]⟩] 32 (0, 0))) := ⟨by rw [← hq_]; exact (kQ j5)⟩; have P6 : j4 (Below w.heap.size w w33) := ⟨by rw [← hq_]; exact zB⟩; clear j5 HB hq_; have j5 := P5; have HB := P6; clear P5 P6))) | ((with_reducible refine l9 (N := 9) rfl ?_); refine bx (cs := #[.string ⟨#[]⟩, .string ⟨#[]⟩]) (t := 32) ?_; intro cO5 hg w34 o8 hb; have ai8 := j4.mk (o8); have cO6 := gS hg; have cO7 := gS hg; have aB3 := nS hg j5; have aB4 := nG hg j5; replace j5 := kS j5 hb; replace HB := bS hb; clear hb o8 hg; have dT7 := aB4.out; have dT8 := aB3.out; have cP0 := cz2 ai8.out; have cP1 := fz2 ai8.out; have bB9 := cz2 j5.out; have bC0 := fz2 j5.out))
  refine bodyPost_ret (I2 rfl _ _ j8 32 #[.string (⟨#[]⟩ : ByteArray), .string (⟨#[]⟩ : ByteArray)] (0, 0) _ rfl (kQ j5) Tryz.underlying32 rfl z2_) rfl ?_
  exact ⟨zr, zB⟩
def D0.j0 : Nat → ByteArray → Bool → Option (ByteArray × ByteArray × Bool)
 | 0, _, _ => none
 | k + 1, x0, x24 => if x24 = true then (some ((⟨#[]⟩ : ByteArray), (⟨#[]⟩ : ByteArray), false)) else (if 1 ≤ (wrap64 ((x0.size : Int) - 1)) then (if (wrap64 ((x0.size : Int) - 1)) ≤ (x0.size : Int) then ((G5.f k (x0.extract 1 ((wrap64 ((x0.size : Int) - 1)) : Int).toNat) 64 2).bind fun t102 => (if (t102.length : Int) = 2 then (if 0 < (t102.length : Int) then (if 1 < (t102.length : Int) then ((D4.f k (H9 ByteArray.empty t102 0) (H9 ByteArray.empty t102 1)).bind fun t108 => (if t108 = true then (some (H9 ByteArray.empty t102 0, H9 ByteArray.empty t102 1, true)) else (some ((⟨#[]⟩ : ByteArray), (⟨#[]⟩ : ByteArray), false)))) else (none)) else (none)) else (some ((⟨#[]⟩ : ByteArray), (⟨#[]⟩ : ByteArray), false)))) else (none)) else (none))
def D0.f (k : Nat) (a0 : ByteArray) : Option (ByteArray × ByteArray × Bool) := if a0.toList = ([60, 62] : List UInt8) then (some ((⟨#[]⟩ : ByteArray), (⟨#[]⟩ : ByteArray), true)) else (if (a0.size : Int) < 2 then (D0.j0 k a0 true) else (if 0 < (a0.size : Int) then (if (bt a0 0) = 60 then (if 0 ≤ (wrap64 ((a0.size : Int) - 1)) then (if (wrap64 ((a0.size : Int) - 1)) < (a0.size : Int) then (D0.j0 k a0 ((bt a0 (wrap64 ((a0.size : Int) - 1))) != 62)) else (none)) else (none)) else (D0.j0 k a0 true)) else (none)))
def D0.T8 : Bool × List (List Nat × List Nat) := (true, [([], []), ([0], [0]), ([1], [1]), ([], []), ([3], [3]), ([4], [4]), ([2, 5], [2, 5]), ([], []), ([7, 6, 0, 1, 2, 3, 4, 5, 6, 7], [6, 7])])
def D0.B8 : List Nat := [0, 1, 3, 0, 8, 24, 63, 0, 255]
theorem D0.dT9 : aq1 .any (opsOf Tryz.f87 8) = D0.T8 := by kernel_rfl
theorem D0.dn2 : af3 D0.T8.2 D0.B8 = true := by kernel_rfl
set_option maxHeartbeats 8000000 in
set_option maxRecDepth 100000 in
theorem D0.calls (k : Nat) (a0 : ByteArray) (r1 : ByteArray) (r2 : ByteArray) (r3 : Bool) (w : World) (h : D0.f k a0 = some (r1, r2, r3)) :
  Calls Tryz.prog 87 #[.string a0] w fun e w' => e = .returned (.tuple #[.agg #[.string r1, .string r2], .bool r3]) ∧ Below w.heap.size w w' := by
 have as2 := Tryz.underlying32
 have HB := j4.mk (Below.refl w.heap.size w)
 have H := h
 clear h
 unfold D0.f at H
 replace H := F6 H; rcases H with ⟨ak5, aJ6, H⟩ | ⟨ak5, aJ6, H⟩
 ·simp only [Option.some.injEq, Prod.mk.injEq] at H
  obtain ⟨rfl, rfl, rfl⟩ := H
  go_enter Tryz.func87, Tryz.ntmps87
  go_wp2_with (first | ((with_reducible refine l9 (N := 2) rfl ?_); (try (refine Q4 (by rfl) ?_; dsimp only)); refine bx (cs := #[.string ⟨#[]⟩, .string ⟨#[]⟩]) (t := 32) ?_; intro j8 hg w3 o8 hb; have j5 := j4.mk (o8); have L8 := gS hg; have J7 := gS hg; replace HB := bS hb; clear hb o8 hg; have bY8 := cz2 j5.out; have bY9 := fz2 j5.out))
  refine bodyPost_ret (I2 rfl _ _ j8 32 #[.string (⟨#[]⟩ : ByteArray), .string (⟨#[]⟩ : ByteArray)] (0, 0) _ rfl (kQ j5) Tryz.underlying32 rfl z2_) rfl ?_
  exact ⟨zr, zB⟩
 ·have HC5 := j4.mk H
  clear H
  go_enter Tryz.func87, Tryz.ntmps87
  go_upto_region 3 with (first | ((with_reducible refine l9 (N := 2) rfl ?_); (try (refine Q4 (by rfl) ?_; dsimp only)); refine bx (cs := #[.string ⟨#[]⟩, .string ⟨#[]⟩]) (t := 32) ?_; intro j8 hg w6 o8 hb; have j5 := j4.mk (o8); have L8 := gS hg; have J7 := gS hg; replace HB := bS hb; clear hb o8 hg))
  (try simp only [Act.put, List.setIfInBounds_toArray, List.set_cons_zero, List.set_cons_succ])
  go_cut [24] (fun v24 wc => ∃ (kq : Nat) (cP2 : Bool), v24 = .bool cP2 ∧ j4 (D0.j0 kq a0 cP2 = some (r1, r2, r3)) ∧ j4 (kq ≤ k) ∧ j4 (wc.heap[j8]? = some (.cells #[.string (⟨#[]⟩ : ByteArray), .string (⟨#[]⟩ : ByteArray)] 32 (0, 0))) ∧ j4 (Below w.heap.size w wc))
  case first =>
   have H := HC5.out
   clear HC5
   replace H := a29 H; rcases H with ⟨c7, ak6, H⟩ | ⟨c7, ak6, H⟩
   ·have b77 : decide (a0.size < 2) = true := decide_eq_true (by omega)
    clear c7
    (first | rw [ak6] | (simp only [Z1, aa5]; rw [ak6]) | skip)
    have H' := j4.mk H
    clear H
    go_wp2
    go_meet
    case rel => exact ⟨_, (true), zs, H', ⟨by first | omega | exact Nat.le_refl _⟩, ⟨kQ j5⟩, ⟨zB⟩⟩
   ·have b77 : decide (a0.size < 2) = false := decide_eq_false (by omega)
    clear c7
    (first | rw [ak6] | (simp only [Z1, aa5]; rw [ak6]) | skip)
    replace H := ak4 H; obtain ⟨c8, aN6, H⟩ := H
    have bQ9 : decide (0 < a0.size) = true := decide_eq_true (by omega)
    clear c8
    replace H := F6 H; rcases H with ⟨aF1, b92, H⟩ | ⟨aF1, b92, H⟩
    ·obtain ⟨bt2, aU0⟩ : ∃ j_ : Int, (wrap64 ((a0.size : Int) - 1)) = j_ := ⟨_, rfl⟩
     first | rw [aU0] at H | simp only [aU0] at H
     have dy7 : (IntKind.i64.wrap ((a0.size : Int) - 1)) = bt2 := (Z1 _).trans aU0
     replace H := S1 H; obtain ⟨ax7, H⟩ := H
     replace H := S1 H; obtain ⟨al5, H⟩ := H
     have H' := j4.mk H
     clear H
     have p9 : 0 ≤ (0 : Int) := (by omega)
     have q9 : 0 < a0.size := (by have : (0 : Int) < (a0.size : Int) := of_decide_eq_true za; omega)
     have hx9 : ∀ h : 0 < a0.size, ((a0[0]'h).toNat : Int) = bt a0 0 := V4 a0 0
     clear p9
     have qi9 : (0 < (a0.size : Int)) = True := eq_true (of_decide_eq_true za)
     replace q9 := eq_true q9
     have p14 : 0 ≤ ((bt2) : Int) := of_decide_eq_true za
     have q14 : (bt2) < (a0.size : Int) := of_decide_eq_true za
     have dF5 := V4 a0 (bt2)
     replace p14 := eq_true p14
     replace q14 := eq_true q14
     go_wp2
     go_meet
     case rel => exact ⟨_, (((bt a0 (bt2)) != 62)), (by first | rfl | (simp; done) | (simp only [← aU0] <;> (first | rfl | simp)) | (simp [*]; done)), H', ⟨by first | omega | exact Nat.le_refl _⟩, ⟨kQ j5⟩, ⟨zB⟩⟩
    ·have H' := j4.mk H
     clear H
     have p9 : 0 ≤ (0 : Int) := (by omega)
     have q9 : 0 < a0.size := (by have : (0 : Int) < (a0.size : Int) := of_decide_eq_true za; omega)
     have hx9 : ∀ h : 0 < a0.size, ((a0[0]'h).toNat : Int) = bt a0 0 := V4 a0 0
     clear p9
     have qi9 : (0 < (a0.size : Int)) = True := eq_true (of_decide_eq_true za)
     replace q9 := eq_true q9
     go_wp2
     go_meet
     case rel => exact ⟨_, (true), zs, H', ⟨by first | omega | exact Nat.le_refl _⟩, ⟨kQ j5⟩, ⟨zB⟩⟩
  case rest =>
   clear HC5
   obtain ⟨kq, cP2, rfl, HA, HJ4, j5, HB⟩ := hcut
   cases kq with
   | zero => exact absurd HA.out (by simp [D0.j0])
   | succ kj4 =>
    have H := HA.out
    clear HA
    simp only [D0.j0] at H
    replace H := itb H; rcases H with ⟨rfl, H⟩ | ⟨rfl, H⟩
    ·simp only [Option.some.injEq, Prod.mk.injEq] at H
     obtain ⟨rfl, rfl, rfl⟩ := H
     have br3 := cz2 j5.out
     have br4 := fz2 j5.out
     go_wp2
     refine bodyPost_ret (I2 rfl _ _ j8 32 #[.string (⟨#[]⟩ : ByteArray), .string (⟨#[]⟩ : ByteArray)] (0, 0) _ rfl (kQ j5) Tryz.underlying32 rfl z2_) rfl ?_
     exact ⟨zr, zB⟩
    ·replace H := Q5 H; obtain ⟨cg6, cg7, H⟩ := H
     replace H := Q5 H; obtain ⟨be7, bs7, H⟩ := H
     replace H := S2 H; obtain ⟨t102, A19, H⟩ := H
     replace H := F6 H; rcases H with ⟨aL3, b22, H⟩ | ⟨aL3, b22, H⟩
     ·replace H := ak4 H; obtain ⟨c21, bf1, H⟩ := H
      have bB2 : decide (0 < t102.length) = true := decide_eq_true (by omega)
      clear c21
      replace H := ak4 H; obtain ⟨c22, aT9, H⟩ := H
      have bs8 : decide (1 < t102.length) = true := decide_eq_true (by omega)
      clear c22
      replace H := S2 H; obtain ⟨t108, A23, H⟩ := H
      replace H := itb H; rcases H with ⟨rfl, H⟩ | ⟨rfl, H⟩
      ·simp only [Option.some.injEq, Prod.mk.injEq] at H
       obtain ⟨rfl, rfl, rfl⟩ := H
       try go_wp2_with (first | ((with_reducible refine j6 (f := 84) rfl ?_); refine gl 31 Tryz.func84 _ ((G5.calls (w := _) (h := A19.out)).mono ?_); rintro e w25 ⟨bH6, rfl, ho0, hb⟩; refine ⟨_, rfl, ?_⟩; have U8 := lS ho0; replace j5 := kS j5 hb; replace HB := bS hb; clear hb ho0; obtain ⟨eh7, eh8, dy8⟩ := Kd.s7 U8.out; subst dy8))
       replace U8 := j4.mk (Kd.O0 U8.out)
       replace j5 := j4.mk (I7 j5.out)
       replace HB := j4.mk (E9 HB.out)
       have aS4 : 0 ≤ (0 : Int) := (by omega)
       have aS5 : 0 < (t102.length : Int) := of_decide_eq_true za
       obtain ⟨ay5, bJ7, ae0⟩ := Kd.E5 (Kd.y7 U8.out).2.2 0 aS4 aS5
       cases bJ7
       have dn3 : (0 < t102.length) = True := eq_true (by omega)
       (try rw [show ((0 : Int)).toNat = 0 from rfl] at ae0)
       (try rw [Addr.add_zero'] at ae0)
       replace aS4 := eq_true aS4
       replace aS5 := eq_true aS5
       have c58 : 0 ≤ (1 : Int) := (by omega)
       have c60 : 1 < (t102.length : Int) := of_decide_eq_true za
       obtain ⟨cP3, dy9, aH1⟩ := Kd.E5 (Kd.y7 U8.out).2.2 1 c58 c60
       obtain rfl : ay5 = cP3 := (by injection dy9)
       (try simp only [show (1 : Int).toNat = 1 from rfl, Nat.reduceMul, Nat.reduceEqDiff, Go.Addr.add, ↓reduceIte] at aH1)
       have dU0 : (1 < t102.length) = True := eq_true (by omega)
       (try rw [show ((1 : Int)).toNat = 1 from rfl] at aH1)
       replace c58 := eq_true c58
       replace c60 := eq_true c60
       refine ah3 (n := 9) (S := fun w' => w'.cell? ay5 = some (.string (H9 ByteArray.empty t102 0)) ∧ w'.cell? ⟨ay5.block, ay5.off + 1, none⟩ = some (.string (H9 ByteArray.empty t102 1))) (ds := []) #[false, false, false, false, false, false, false, false, false] z2_ rfl rfl ⟨ae0, aH1⟩ (fun hHeld => ?_); refine a60 D0.dT9 D0.dn2 (fun HT_ HW_ => ?_)
       generalize w25.drew = w27 at U8 j5 HB ae0 aH1 hHeld ⊢
       refine pu 0 36 ?_
       refine pu 1 37 ?_
       refine pu 3 39 ?_
       refine pu 4 40 ?_
       refine ta 2 38 ?_
       refine ta 5 41 ?_
       refine pu 6 42 ?_
       refine on 7 (some 5) (fun K hK => ?_)
       refine aJ1 ?hg (N := 5) ?hd (cs := #[.string (⟨#[]⟩ : ByteArray), .string (⟨#[]⟩ : ByteArray)]) (t := 32) ?hr ?_; (case hd => rfl); (case hg => rfl); (case hr => first | (go_simp; done) | (go_simp; rfl))
       intro b97 hg w28 o8 hb
       have dz0 := (hb.cell (World.block_lt_of_cell? _ _ (hHeld.1))).trans (hHeld.1)
       have dz1 := (hb.cell (World.block_lt_of_cell? _ _ (hHeld.2))).trans (hHeld.2)
       replace U8 := rS U8 hb
       have as6 := j4.mk (o8)
       have dU1 := gS hg
       have dU2 := gS hg
       replace HB := bS hb
       have aO5 := nS hg j5
       have aO6 := nG hg j5
       replace j5 := kS j5 hb
       clear hb o8 hg
       refine kO 5 hK (fun hHeld => ?_) ⟨dz0, dz1⟩
       clear hK K
       refine on 8 none (fun K hK => ?_)
       have e63 := cz2 as6.out
       have e64 := fz2 as6.out
       have dU3 := aO5.out
       have dU4 := aO6.out
       refine sk ?_
       refine hK.out _ _ ⟨((cell_far (p := ⟨b97, _, none⟩) z1_ _).trans (((cell_far (p := ⟨b97, _, none⟩) z1_ _).trans (hHeld.1)))), ((cell_far (p := ⟨b97, _, none⟩) z1_ _).trans (((cell_far (p := ⟨b97, _, none⟩) z1_ _).trans (hHeld.2))))⟩ (fun hHeld => ?_)
       clear hK K
       refine au9 (ah0 HT_.out z2_) ?_
       have cd7 := aO6.out
       have cd8 := aO5.out
       have bD2 := cz2 as6.out
       have bD3 := fz2 as6.out
       try go_wp2_with (first | ((with_reducible refine j6 (f := 58) rfl ?_); refine gv 44 Tryz.func58 _ (D4.calls (w := _) (h := A23.out)) ?_; intro w33 hb; replace U8 := fS U8 as6 hb; replace j5 := kS j5 hb; replace as6 := kP (.cells #[.string (H9 ByteArray.empty t102 0), .string (H9 ByteArray.empty t102 1)] 32 (0, 0)) as6 hb; replace HB := bS hb; clear hb; have ci1 := cz2 as6.out; have ci2 := fz2 as6.out; have cM1 := cz2 j5.out; have cM2 := fz2 j5.out))
       refine bodyPost_ret (I2 rfl _ _ j8 32 #[.string (H9 ByteArray.empty t102 0), .string (H9 ByteArray.empty t102 1)] (0, 0) _ rfl (kQ j5) Tryz.underlying32 rfl z2_) rfl ?_
       exact ⟨zr, zB⟩
      ·simp only [Option.some.injEq, Prod.mk.injEq] at H
       obtain ⟨rfl, rfl, rfl⟩ := H
       try go_wp2_with (first | ((with_reducible refine j6 (f := 84) rfl ?_); refine gl 31 Tryz.func84 _ ((G5.calls (w := _) (h := A19.out)).mono ?_); rintro e w36 ⟨bH6, rfl, ho0, hb⟩; refine ⟨_, rfl, ?_⟩; have U8 := lS ho0; replace j5 := kS j5 hb; replace HB := bS hb; clear hb ho0; obtain ⟨cY0, cY1, cY2⟩ := Kd.s7 U8.out; subst cY2))
       replace U8 := j4.mk (Kd.O0 U8.out)
       replace j5 := j4.mk (I7 j5.out)
       replace HB := j4.mk (E9 HB.out)
       have aS4 : 0 ≤ (0 : Int) := (by omega)
       have aS5 : 0 < (t102.length : Int) := of_decide_eq_true za
       obtain ⟨ay5, bJ7, ae0⟩ := Kd.E5 (Kd.y7 U8.out).2.2 0 aS4 aS5
       cases bJ7
       have dn3 : (0 < t102.length) = True := eq_true (by omega)
       (try rw [show ((0 : Int)).toNat = 0 from rfl] at ae0)
       (try rw [Addr.add_zero'] at ae0)
       replace aS4 := eq_true aS4
       replace aS5 := eq_true aS5
       have c58 : 0 ≤ (1 : Int) := (by omega)
       have c60 : 1 < (t102.length : Int) := of_decide_eq_true za
       obtain ⟨cP3, dy9, aH1⟩ := Kd.E5 (Kd.y7 U8.out).2.2 1 c58 c60
       obtain rfl : ay5 = cP3 := (by injection dy9)
       (try simp only [show (1 : Int).toNat = 1 from rfl, Nat.reduceMul, Nat.reduceEqDiff, Go.Addr.add, ↓reduceIte] at aH1)
       have dU0 : (1 < t102.length) = True := eq_true (by omega)
       (try rw [show ((1 : Int)).toNat = 1 from rfl] at aH1)
       replace c58 := eq_true c58
       replace c60 := eq_true c60
       refine ah3 (n := 9) (S := fun w' => w'.cell? ay5 = some (.string (H9 ByteArray.empty t102 0)) ∧ w'.cell? ⟨ay5.block, ay5.off + 1, none⟩ = some (.string (H9 ByteArray.empty t102 1))) (ds := []) #[false, false, false, false, false, false, false, false, false] z2_ rfl rfl ⟨ae0, aH1⟩ (fun hHeld => ?_); refine a60 D0.dT9 D0.dn2 (fun HT_ HW_ => ?_)
       generalize w36.drew = w38 at U8 j5 HB ae0 aH1 hHeld ⊢
       refine pu 0 36 ?_
       refine pu 1 37 ?_
       refine pu 3 39 ?_
       refine pu 4 40 ?_
       refine ta 2 38 ?_
       refine ta 5 41 ?_
       refine pu 6 42 ?_
       refine on 7 (some 5) (fun K hK => ?_)
       refine aJ1 ?hg (N := 5) ?hd (cs := #[.string (⟨#[]⟩ : ByteArray), .string (⟨#[]⟩ : ByteArray)]) (t := 32) ?hr ?_; (case hd => rfl); (case hg => rfl); (case hr => first | (go_simp; done) | (go_simp; rfl))
       intro b97 hg w39 o8 hb
       have dz0 := (hb.cell (World.block_lt_of_cell? _ _ (hHeld.1))).trans (hHeld.1)
       have dz1 := (hb.cell (World.block_lt_of_cell? _ _ (hHeld.2))).trans (hHeld.2)
       replace U8 := rS U8 hb
       have as6 := j4.mk (o8)
       have dU1 := gS hg
       have dU2 := gS hg
       replace HB := bS hb
       have aO5 := nS hg j5
       have aO6 := nG hg j5
       replace j5 := kS j5 hb
       clear hb o8 hg
       refine kO 5 hK (fun hHeld => ?_) ⟨dz0, dz1⟩
       clear hK K
       refine on 8 none (fun K hK => ?_)
       have e65 := cz2 as6.out
       have e66 := fz2 as6.out
       have dU5 := aO5.out
       have dU6 := aO6.out
       refine sk ?_
       refine hK.out _ _ ⟨((cell_far (p := ⟨b97, _, none⟩) z1_ _).trans (((cell_far (p := ⟨b97, _, none⟩) z1_ _).trans (hHeld.1)))), ((cell_far (p := ⟨b97, _, none⟩) z1_ _).trans (((cell_far (p := ⟨b97, _, none⟩) z1_ _).trans (hHeld.2))))⟩ (fun hHeld => ?_)
       clear hK K
       refine au9 (ah0 HT_.out z2_) ?_
       have bP3 := aO6.out
       have bP4 := aO5.out
       have bQ1 := cz2 as6.out
       have bQ2 := fz2 as6.out
       try go_wp2_with (first | ((with_reducible refine j6 (f := 58) rfl ?_); refine gv 44 Tryz.func58 _ (D4.calls (w := _) (h := A23.out)) ?_; intro w44 hb; replace U8 := fS U8 as6 hb; replace j5 := kS j5 hb; replace as6 := kP (.cells #[.string (H9 ByteArray.empty t102 0), .string (H9 ByteArray.empty t102 1)] 32 (0, 0)) as6 hb; replace HB := bS hb; clear hb; have ce4 := cz2 j5.out; have ce5 := fz2 j5.out))
       refine bodyPost_ret (I2 rfl _ _ j8 32 #[.string (⟨#[]⟩ : ByteArray), .string (⟨#[]⟩ : ByteArray)] (0, 0) _ rfl (kQ j5) Tryz.underlying32 rfl z2_) rfl ?_
       exact ⟨zr, zB⟩
     ·simp only [Option.some.injEq, Prod.mk.injEq] at H
      obtain ⟨rfl, rfl, rfl⟩ := H
      go_wp2_with (first | ((with_reducible refine j6 (f := 84) rfl ?_); refine gl 31 Tryz.func84 _ ((G5.calls (w := _) (h := A19.out)).mono ?_); rintro e w46 ⟨bH6, rfl, ho0, hb⟩; refine ⟨_, rfl, ?_⟩; have U8 := lS ho0; replace j5 := kS j5 hb; replace HB := bS hb; clear hb ho0; obtain ⟨eJ5, eJ6, eh9⟩ := Kd.s7 U8.out; subst eh9; have ew0 := cz2 j5.out; have ew1 := fz2 j5.out))
      refine bodyPost_ret (I2 rfl _ _ j8 32 #[.string (⟨#[]⟩ : ByteArray), .string (⟨#[]⟩ : ByteArray)] (0, 0) _ rfl (kQ j5) Tryz.underlying32 rfl z2_) rfl ?_
      exact ⟨zr, zB⟩
end Go.Proofs.YtbncnjgflhoneaaGreatDoor.F
namespace Go.Proofs.YtbncnjgflhoneaaGreatDoor.F
open Go.RowKit Go.Proofs.YtbncnjgflhoneaaGreatDoor.Hand Go.Proofs.YtbncnjgflhoneaaGreatDoorW.l8 Go.Proofs.YtbncnjgflhoneaaGreatDoorW.s9 Go.Proofs.YtbncnjgflhoneaaGreatDoorW.y9
def Y0.l0 : Nat → ByteArray → List ByteArray → Option (List ByteArray × ByteArray)
 | 0, _, _ => none
 | k + 1, x0, x4 => (strings_Cut.f x0 (⟨#[13, 10]⟩ : ByteArray)).bind fun Y6 => (if Y6.2.2 = true then (if x4.length < 8796093022208 then (Y0.l0 k Y6.2.1 (x4 ++ [Y6.1])) else (none)) else (some (x4, x0)))
def Y0.f (k : Nat) (a0 : ByteArray) : Option (List ByteArray × ByteArray) := Y0.l0 k a0 ([] : List ByteArray)
set_option maxHeartbeats 8000000 in
set_option maxRecDepth 100000 in
theorem Y0.calls (k : Nat) (a0 : ByteArray) (r1 : List ByteArray) (r2 : ByteArray) (w : World) (hG : Laid w) (h : Y0.f k a0 = some (r1, r2)) :
  Calls Tryz.prog 158 #[.string a0] w fun e w' => ∃ v0_ : Value, e = .returned (.tuple #[v0_, .string r2]) ∧ Kd.R Kd.string 9 w' w.heap.size (fun _ => True) v0_ r1 ∧ Below w.heap.size w w' := by
 have HG := j4.mk hG
 clear hG
 have HB := j4.mk (Below.refl w.heap.size w)
 have H := h
 clear h
 unfold Y0.f at H
 have H' := j4.mk H
 clear H
 go_enter Tryz.func158, Tryz.ntmps158
 go_wp2
 go_loopg [0, 4] k (fun kq v0 v4 w' => ∃ (dz2 : ByteArray) (I3 : List ByteArray), v0 = .string dz2 ∧ j4 (Y0.l0 kq dz2 I3 = some (r1, r2)) ∧ j4 (kq ≤ k) ∧ j4 (Kd.R Kd.string 9 w' w.heap.size (fun _ => True) v4 I3) ∧ j4 (Below w.heap.size w w'))
 case atStart => exact ⟨(a0), (([] : List ByteArray)), zs, H', ⟨Nat.le_refl _⟩, ⟨zn⟩, ⟨zB⟩⟩
 case round =>
  clear H'
  obtain ⟨dz2, I3, rfl, HA, HK1, L9, HB⟩ := hrel
  cases gk with
  | zero => exact absurd HA.out (by simp [Y0.l0])
  | succ k1 =>
   have H := HA.out
   clear HA
   simp only [Y0.l0] at H
   replace H := S2 H; obtain ⟨⟨t101, t102, t103⟩, A2, H⟩ := H
   dsimp only at H
   replace H := itb H; rcases H with ⟨rfl, H⟩ | ⟨rfl, H⟩
   ·replace H := aj5 H; obtain ⟨cF7, H⟩ := H
    first | (with_reducible replace H := bns H; obtain ⟨aU4, aL4, H⟩ := H) | (generalize V5 : (I3 ++ [t101] : List ByteArray) = aU4 at H; have aL4 := j4.mk V5.symm; clear V5)
    have H' := j4.mk H
    clear H
    go_wp2_with (first | ((with_reducible refine j6 (f := 39) rfl ?_); refine gv 10 Tryz.func39 _ (strings_Cut.calls (w := _) (hG := gB) (h := A2.out)) ?_; rintro w' ⟨nd, rfl⟩) | ((with_reducible refine N8 (b := .append) (xs := #[.tmp 18, .tmp 20]) rfl ?_); at_builtin; refine Kd.a89 Kd.string (w0 := w) w.heap.size rfl (.tmp 18) (.tmp 20) 25 9 (.string ⟨#[]⟩) 16 rfl Tryz.underlying25 aF0 rfl I1 (by omega) u4 I3 t101 [.string t101] (fun _ => True) (fun _ => False) rfl rfl ?aP (fun _ hk => hk.elim) ?aF ?aO ?aB ?aS ?aL ?_; (case aP => exact rfl); (case aB => exact zB); (case aF => exact (fun _ _ => trivial)); (case aO => exact (rO L9)); (case aS => exact (bZ)); (case aL => have := cF7.out; omega); intro v105 w5 ho hb hg hat; rw [← aL4.out] at ho; have P5 := j4.mk (hb); have P6 := j4.mk (ho); clear HB L9; have HB := P5; have N0 := P6; clear P5 P6 ho hb hg hat))
    go_roundg k1
    case measure => have := HK1.out; omega
    case rel => exact ⟨(t102), (aU4), zs, H', ⟨by have := HK1.out; omega⟩, ⟨rO N0⟩, ⟨zB⟩⟩
   ·simp only [Option.some.injEq, Prod.mk.injEq] at H
    obtain ⟨rfl, rfl⟩ := H
    go_wp2_with (first | ((with_reducible refine j6 (f := 39) rfl ?_); refine gv 10 Tryz.func39 _ (strings_Cut.calls (w := _) (hG := gB) (h := A2.out)) ?_; rintro w' ⟨nd, rfl⟩))
    go_ret2
    exact ⟨_, zr, rO L9, zB⟩
def L3.l0 : Nat → ByteArray → List ByteArray → Int → Int → Option (List ByteArray × ByteArray)
 | 0, _, _, _, _ => none
 | k + 1, x0, x4, x5, x6 => if (wrap64 (x6 + 1)) < (x0.size : Int) then (if 0 ≤ x6 then (if x6 < (x0.size : Int) then (if (bt x0 x6) = 13 then (if 0 ≤ (wrap64 (x6 + 1)) then (if (bt x0 (wrap64 (x6 + 1))) = 10 then (if 0 ≤ x5 then (if x5 ≤ x6 then (if x6 ≤ (x0.size : Int) then (if x4.length < 8796093022208 then (L3.l0 k x0 (x4 ++ [x0.extract (x5 : Int).toNat (x6 : Int).toNat]) (wrap64 ((wrap64 (x6 + 1)) + 1)) (wrap64 ((wrap64 (x6 + 1)) + 1))) else (none)) else (none)) else (none)) else (none)) else (L3.l0 k x0 x4 x5 (wrap64 (x6 + 1)))) else (none)) else (L3.l0 k x0 x4 x5 (wrap64 (x6 + 1)))) else (none)) else (none)) else (if 0 ≤ x5 then (if x5 ≤ (x0.size : Int) then (some (x4, x0.extract (x5 : Int).toNat x0.size)) else (none)) else (none))
def L3.f (k : Nat) (a0 : ByteArray) : Option (List ByteArray × ByteArray) := L3.l0 k a0 (([] : List ByteArray)) 0 0
set_option maxHeartbeats 8000000 in
set_option maxRecDepth 100000 in
theorem L3.calls (k : Nat) (a0 : ByteArray) (r1 : List ByteArray) (r2 : ByteArray) (w : World) (h : L3.f k a0 = some (r1, r2)) :
  Calls Tryz.prog 164 #[.string a0] w fun e w' => ∃ v0_ : Value, e = .returned (.tuple #[v0_, .string r2]) ∧ Kd.R Kd.string 9 w' w.heap.size (fun _ => True) v0_ r1 ∧ Below w.heap.size w w' := by
 have HB := j4.mk (Below.refl w.heap.size w)
 have H := h
 clear h
 unfold L3.f at H
 first | (with_reducible replace H := bns H; obtain ⟨b69, ap3, H⟩ := H) | (generalize V5 : (([] : List ByteArray) : List ByteArray) = b69 at H; have ap3 := j4.mk V5.symm; clear V5)
 have H' := j4.mk H
 clear H
 go_enter Tryz.func164, Tryz.ntmps164
 go_wp2_with (first | ((with_reducible refine l9 (N := 7) rfl ?_); refine Kd.aI8 Kd.string _ 9 ?hg (N := 7) ?hd (xs := ([] : List ByteArray)) (inner := []) (ok := fun _ => True) (okp := fun _ => True) ?hr ?hp (fun _ hk => hk) trivial (Below.refl _ _) (Nat.le_refl _) (by simp) ?_; (case hd => rfl); (case hg => rfl); (case hr => first | (go_simp; done) | (go_simp; rfl)); (case hp => exact (M4.none _ _)); intro bH4 w2 ho3 hb hg_ X3; clear hg_ X3; (first | rw [← ap3.out] at ho3 | (simp only [Int.reduceToNat] at ho3; rw [← ap3.out] at ho3)); have af4 := lS ho3; replace HB := bS hb; clear hb ho3))
 repeat (go_quiet (first | ((with_reducible refine l9 (N := 7) rfl ?_); refine Kd.aI8 Kd.string _ 9 ?hg (N := 7) ?hd (xs := ([] : List ByteArray)) (inner := []) (ok := fun _ => True) (okp := fun _ => True) ?hr ?hp (fun _ hk => hk) trivial (Below.refl _ _) (Nat.le_refl _) (by simp) ?_; (case hd => rfl); (case hg => rfl); (case hr => first | (go_simp; done) | (go_simp; rfl)); (case hp => exact (M4.none _ _)); intro bH4 w2 ho3 hb hg_ X3; clear hg_ X3; (first | rw [← ap3.out] at ho3 | (simp only [Int.reduceToNat] at ho3; rw [← ap3.out] at ho3)); have af4 := lS ho3; replace HB := bS hb; clear hb ho3)); try go_wp2_with (first | ((with_reducible refine l9 (N := 7) rfl ?_); refine Kd.aI8 Kd.string _ 9 ?hg (N := 7) ?hd (xs := ([] : List ByteArray)) (inner := []) (ok := fun _ => True) (okp := fun _ => True) ?hr ?hp (fun _ hk => hk) trivial (Below.refl _ _) (Nat.le_refl _) (by simp) ?_; (case hd => rfl); (case hg => rfl); (case hr => first | (go_simp; done) | (go_simp; rfl)); (case hp => exact (M4.none _ _)); intro bH4 w2 ho3 hb hg_ X3; clear hg_ X3; (first | rw [← ap3.out] at ho3 | (simp only [Int.reduceToNat] at ho3; rw [← ap3.out] at ho3)); have P5 := lS ho3; have P6 := bS hb; clear HB; have af4 := P5; have HB := P6; clear P5 P6; clear hb ho3)))
 go_loopg [4, 5, 6] k (fun kq v4 v5 v6 w' => ∃ (I3 : List ByteArray) (Z3 : Int) (a02 : Int), v5 = .int .i64 Z3 ∧ v6 = .int .i64 a02 ∧ j4 (L3.l0 kq a0 I3 Z3 a02 = some (r1, r2)) ∧ j4 (kq ≤ k) ∧ j4 (Kd.R Kd.string 9 w' w.heap.size (fun _ => True) v4 I3) ∧ j4 (Below w.heap.size w w'))
 case atStart => exact ⟨(b69), (0), (0), zs, zs, H', ⟨Nat.le_refl _⟩, ⟨rO af4⟩, ⟨zB⟩⟩
 case round =>
  clear H'
  obtain ⟨I3, Z3, a02, rfl, rfl, HA, HK1, L9, HB⟩ := hrel
  cases gk with
  | zero => exact absurd HA.out (by simp [L3.l0])
  | succ k1 =>
   have H := HA.out
   clear HA
   simp only [L3.l0] at H
   replace H := K2 H; rcases H with ⟨aD2, H⟩ | ⟨aD2, H⟩
   ·replace H := S1 H; obtain ⟨ap1, H⟩ := H
    replace H := S1 H; obtain ⟨am1, H⟩ := H
    replace H := F6 H; rcases H with ⟨aN6, bQ9, H⟩ | ⟨aN6, bQ9, H⟩
    ·obtain ⟨ji9, bb4⟩ : ∃ j_ : Int, (wrap64 (a02 + 1)) = j_ := ⟨_, rfl⟩
     first | rw [bb4] at H | simp only [bb4] at H
     (try rw [bb4] at aD2)
     have dF9 : (IntKind.i64.wrap (a02 + 1)) = ji9 := (Z1 _).trans bb4
     replace H := S1 H; obtain ⟨aF1, H⟩ := H
     replace H := F6 H; rcases H with ⟨ax7, b78, H⟩ | ⟨ax7, b78, H⟩
     ·replace H := Q5 H; obtain ⟨al5, aV3, H⟩ := H
      replace H := Q5 H; obtain ⟨aL5, b24, H⟩ := H
      replace H := Q5 H; obtain ⟨aN7, b79, H⟩ := H
      replace H := aj5 H; obtain ⟨bf2, H⟩ := H
      first | (with_reducible replace H := bns H; obtain ⟨aU4, aL4, H⟩ := H) | (generalize V5 : (I3 ++ [a0.extract (Z3 : Int).toNat (a02 : Int).toNat] : List ByteArray) = aU4 at H; have aL4 := j4.mk V5.symm; clear V5)
      have H' := j4.mk H
      clear H
      have p7 : 0 ≤ (a02 : Int) := of_decide_eq_true za
      have q7 : a02 < (a0.size : Int) := of_decide_eq_true za
      have hx7 := V4 a0 a02
      replace p7 := eq_true p7
      replace q7 := eq_true q7
      have p11 : 0 ≤ ((ji9) : Int) := of_decide_eq_true za
      have q11 : (ji9) < (a0.size : Int) := of_decide_eq_true za
      have ei0 := V4 a0 (ji9)
      replace p11 := eq_true p11
      replace q11 := eq_true q11
      go_wp2_with (first | ((with_reducible refine N8 (b := .append) (xs := #[.tmp 26, .tmp 31]) rfl ?_); at_builtin; refine Kd.a89 Kd.string (w0 := w) w.heap.size rfl (.tmp 26) (.tmp 31) 25 9 (.string ⟨#[]⟩) 16 rfl Tryz.underlying25 aF0 rfl I1 (by omega) u4 I3 (a0.extract (Z3 : Int).toNat (a02 : Int).toNat) [.string (a0.extract (Z3 : Int).toNat (a02 : Int).toNat)] (fun _ => True) (fun _ => False) rfl rfl ?aP (fun _ hk => hk.elim) ?aF ?aO ?aB ?aS ?aL ?_; (case aP => exact rfl); (case aB => exact zB); (case aF => exact (fun _ _ => trivial)); (case aO => exact (rO L9)); (case aS => exact (bZ)); (case aL => have := bf2.out; omega); intro v105 w17 ho hb hg hat; rw [← aL4.out] at ho; have P5 := j4.mk (hb); have P6 := j4.mk (ho); clear HB L9; have HB := P5; have N0 := P6; clear P5 P6 ho hb hg hat))
      repeat (go_quiet (first | ((with_reducible refine N8 (b := .append) (xs := #[.tmp 26, .tmp 31]) rfl ?_); at_builtin; refine Kd.a89 Kd.string (w0 := w) w.heap.size rfl (.tmp 26) (.tmp 31) 25 9 (.string ⟨#[]⟩) 16 rfl Tryz.underlying25 aF0 rfl I1 (by omega) u4 I3 (a0.extract (Z3 : Int).toNat (a02 : Int).toNat) [.string (a0.extract (Z3 : Int).toNat (a02 : Int).toNat)] (fun _ => True) (fun _ => False) rfl rfl ?aP (fun _ hk => hk.elim) ?aF ?aO ?aB ?aS ?aL ?_; (case aP => exact rfl); (case aB => exact zB); (case aF => exact (fun _ _ => trivial)); (case aO => exact (rO L9)); (case aS => exact (bZ)); (case aL => have := bf2.out; omega); intro v105 w17 ho hb hg hat; rw [← aL4.out] at ho; have P5 := j4.mk (hb); have P6 := j4.mk (ho); clear HB L9; have HB := P5; have N0 := P6; clear P5 P6 ho hb hg hat)); try go_wp2_with (first | ((with_reducible refine N8 (b := .append) (xs := #[.tmp 26, .tmp 31]) rfl ?_); at_builtin; refine Kd.a89 Kd.string (w0 := w) w.heap.size rfl (.tmp 26) (.tmp 31) 25 9 (.string ⟨#[]⟩) 16 rfl Tryz.underlying25 aF0 rfl I1 (by omega) u4 I3 (a0.extract (Z3 : Int).toNat (a02 : Int).toNat) [.string (a0.extract (Z3 : Int).toNat (a02 : Int).toNat)] (fun _ => True) (fun _ => False) rfl rfl ?aP (fun _ hk => hk.elim) ?aF ?aO ?aB ?aS ?aL ?_; (case aP => exact rfl); (case aB => exact zB); (case aF => exact (fun _ _ => trivial)); (case aO => exact (rO L9)); (case aS => exact (bZ)); (case aL => have := bf2.out; omega); intro v105 w17 ho hb hg hat; rw [← aL4.out] at ho; have P5 := j4.mk (hb); have P6 := j4.mk (ho); clear HB; clear L9; have HB := P5; have N0 := P6; clear P5 P6; clear ho hb hg hat)))
      go_roundg k1
      case measure => have := HK1.out; omega
      case rel => exact ⟨(aU4), (wrap64 ((ji9) + 1)), (wrap64 ((ji9) + 1)), (by first | rfl | (simp; done) | (simp only [← bb4] <;> (first | rfl | simp)) | (simp [*]; done)), (by first | rfl | (simp; done) | (simp only [← bb4] <;> (first | rfl | simp)) | (simp [*]; done)), H', ⟨by have := HK1.out; omega⟩, ⟨rO N0⟩, ⟨zB⟩⟩
     ·have H' := j4.mk H
      clear H
      have p7 : 0 ≤ (a02 : Int) := of_decide_eq_true za
      have q7 : a02 < (a0.size : Int) := of_decide_eq_true za
      have hx7 := V4 a0 a02
      replace p7 := eq_true p7
      replace q7 := eq_true q7
      have p11 : 0 ≤ ((ji9) : Int) := of_decide_eq_true za
      have q11 : (ji9) < (a0.size : Int) := of_decide_eq_true za
      have ei0 := V4 a0 (ji9)
      replace p11 := eq_true p11
      replace q11 := eq_true q11
      go_wp2
      repeat (go_quiet (fail); try go_wp2)
      go_roundg k1
      case measure => have := HK1.out; omega
      case rel => exact ⟨(I3), (Z3), (ji9), zs, (by first | rfl | (simp; done) | (simp only [← bb4] <;> (first | rfl | simp)) | (simp [*]; done)), H', ⟨by have := HK1.out; omega⟩, ⟨rO L9⟩, ⟨zB⟩⟩
    ·have H' := j4.mk H
     clear H
     have p7 : 0 ≤ (a02 : Int) := of_decide_eq_true za
     have q7 : a02 < (a0.size : Int) := of_decide_eq_true za
     have hx7 := V4 a0 a02
     replace p7 := eq_true p7
     replace q7 := eq_true q7
     go_wp2
     repeat (go_quiet (fail); try go_wp2)
     go_roundg k1
     case measure => have := HK1.out; omega
     case rel => exact ⟨(I3), (Z3), (wrap64 (a02 + 1)), zs, zs, H', ⟨by have := HK1.out; omega⟩, ⟨rO L9⟩, ⟨zB⟩⟩
   ·replace H := Q5 H; obtain ⟨be7, bs7, H⟩ := H
    replace H := Q5 H; obtain ⟨aD4, bf3, H⟩ := H
    simp only [Option.some.injEq, Prod.mk.injEq] at H
    obtain ⟨rfl, rfl⟩ := H
    go_wp2
    repeat (go_quiet (fail); try go_wp2)
    go_ret2
    exact ⟨_, zr, rO L9, zB⟩
end Go.Proofs.YtbncnjgflhoneaaGreatDoor.F
namespace Go.Proofs.YtbncnjgflhoneaaGreatDoor.F
open Go.RowKit Go.Proofs.YtbncnjgflhoneaaGreatDoor.Hand Go.Proofs.YtbncnjgflhoneaaGreatDoorW.l8 Go.Proofs.YtbncnjgflhoneaaGreatDoorW.s9 Go.Proofs.YtbncnjgflhoneaaGreatDoorW.y9
def stringslite_TrimPrefix.f (a0 : ByteArray) (a1 : ByteArray) : Option (ByteArray) := (stringslite_HasPrefix.f a0 a1).bind fun t101 => (if t101 = true then (if 0 ≤ (a1.size : Int) then (if (a1.size : Int) ≤ (a0.size : Int) then (some (a0.extract ((a1.size : Int) : Int).toNat a0.size)) else (none)) else (none)) else (some a0))
set_option maxHeartbeats 8000000 in
set_option maxRecDepth 100000 in
theorem stringslite_TrimPrefix.calls (a0 : ByteArray) (a1 : ByteArray) (r : ByteArray) (w : World) (h : stringslite_TrimPrefix.f a0 a1 = some r) :
  Calls Tryz.prog 159 #[.string a0, .string a1] w fun e w' => e = .returned (.string r) ∧ O7 w w' := by
 have H := h
 clear h
 unfold stringslite_TrimPrefix.f at H
 replace H := S2 H; obtain ⟨t101, A3, H⟩ := H
 replace H := itb H; rcases H with ⟨rfl, H⟩ | ⟨rfl, H⟩
 ·replace H := Q5 H; obtain ⟨ap1, bc3, H⟩ := H
  replace H := Q5 H; obtain ⟨am1, aZ8, H⟩ := H
  obtain rfl := Option.some.inj H
  go_enter Tryz.func159, Tryz.ntmps159
  go_wp2_with (first | ((with_reducible refine j6 (f := 139) rfl ?_); refine gv 7 Tryz.func139 _ (stringslite_HasPrefix.calls (w := _) (h := A3.out)) ?_; rintro w' ⟨nd, rfl⟩))
  go_ret
  exact ⟨zs, zD⟩
 ·obtain rfl := Option.some.inj H
  go_enter Tryz.func159, Tryz.ntmps159
  go_wp2_with (first | ((with_reducible refine j6 (f := 139) rfl ?_); refine gv 7 Tryz.func139 _ (stringslite_HasPrefix.calls (w := _) (h := A3.out)) ?_; rintro w' ⟨nd, rfl⟩))
  go_ret
  exact ⟨zs, zD⟩
def strings_TrimPrefix.f (a0 : ByteArray) (a1 : ByteArray) : Option (ByteArray) := (stringslite_TrimPrefix.f a0 a1).bind fun t101 => (some t101)
set_option maxHeartbeats 8000000 in
set_option maxRecDepth 100000 in
theorem strings_TrimPrefix.calls (a0 : ByteArray) (a1 : ByteArray) (r : ByteArray) (w : World) (h : strings_TrimPrefix.f a0 a1 = some r) :
  Calls Tryz.prog 120 #[.string a0, .string a1] w fun e w' => e = .returned (.string r) ∧ O7 w w' := by
 have H := h
 clear h
 unfold strings_TrimPrefix.f at H
 replace H := S2 H; obtain ⟨t101, A3, H⟩ := H
 obtain rfl := Option.some.inj H
 go_enter Tryz.func120, Tryz.ntmps120
 go_wp2_with (first | ((with_reducible refine j6 (f := 159) rfl ?_); refine gv 7 Tryz.func159 _ (stringslite_TrimPrefix.calls (w := _) (h := A3.out)) ?_; rintro w' ⟨nd, rfl⟩))
 go_ret
 exact ⟨zs, zD⟩
end Go.Proofs.YtbncnjgflhoneaaGreatDoor.F
