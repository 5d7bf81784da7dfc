/- Of this claim, merged by program: Q4, F139, F125, F80, F163, F126, F81, F43, F87, F158, F164, F159, F120, Q6, Q7, F119, F121. -/
import Derived.Test.YtbncnjgflhoneaaGreatDoorM02
import Derived.Test.YtbncnjgflhoneaaGreatDoorM03
import Derived.Test.YtbncnjgflhoneaaGreatDoorM05
import Derived.Test.YtbncnjgflhoneaaGreatDoorM12
import Derived.Test.YtbncnjgflhoneaaGreatDoorM13
import Derived.Test.YtbncnjgflhoneaaGreatDoorM14
namespace Go.Proofs.YtbncnjgflhoneaaGreatDoor.Hand
open Go.RowKit Go.Proofs.YtbncnjgflhoneaaGreatDoor.F Go.Proofs.YtbncnjgflhoneaaGreatDoorW.PrintWords Go.Proofs.YtbncnjgflhoneaaGreatDoorW.PrintLast Go.Proofs.YtbncnjgflhoneaaGreatDoorW.PrintMore
theorem app_data (x y : ByteArray) : (x ++ y).data.toList = x.data.toList ++ y.data.toList := by simp
theorem lit_data (l : List UInt8) : (⟨l.toArray⟩ : ByteArray).data.toList = l := by simp
theorem lit_size (l : List UInt8) : (⟨l.toArray⟩ : ByteArray).size = l.length := by rw [← data_length, lit_data]
theorem len_size (s : ByteArray) : s.data.toList.length = s.size := data_length s
def addrT (u d : ByteArray) : List UInt8 := if nullB u d = true then [60, 62] else 60 :: (u.data.toList ++ 64 :: (d.data.toList ++ [62]))
theorem addrT_le (u d : ByteArray) : (addrT u d).length ≤ u.size + d.size + 3 := by
 unfold addrT
 split
 ·simp
 ·simp
  omega
theorem ptext_tells (u d : ByteArray) (hu : u.size ≤ 1073741824) (hd : d.size ≤ 1073741824) : impl_Addr_text.f u d = some (B (addrT u d)) := by
 unfold impl_Addr_text.f impl_Addr_null.f addrT
 rw [Option.bind_some]
 show (if nullB u d = true then _ else _) = _
 by_cases h : nullB u d = true
 ·rw [if_pos h, if_pos h]; rfl
 ·rw [if_neg h, if_neg h]
  rw [if_pos (by omega), if_pos (by simp only [ByteArray.size_append, lit_size, List.length_cons, List.length_nil]; omega), if_pos (by simp only [ByteArray.size_append, lit_size, List.length_cons, List.length_nil]; omega), if_pos (by simp only [ByteArray.size_append, lit_size, List.length_cons, List.length_nil]; omega)]
  exact congrArg some (eq_B (by simp only [app_data]; simp))
theorem stext_tells (u d : ByteArray) (hu : u.size ≤ 1073741824) (hd : d.size ≤ 1073741824) : spec_l1Put.f u d = some (B (addrT u d)) := by
 unfold spec_l1Put.f addrT
 rw [snull_tells, Option.bind_some]
 by_cases h : nullB u d = true
 ·rw [if_pos h, if_pos h]; rfl
 ·rw [if_neg h, if_neg h]
  rw [if_pos (by omega), if_pos (by simp only [ByteArray.size_append, lit_size, List.length_cons, List.length_nil]; omega), if_pos (by simp only [ByteArray.size_append, lit_size, List.length_cons, List.length_nil]; omega), if_pos (by simp only [ByteArray.size_append, lit_size, List.length_cons, List.length_nil]; omega)]
  exact congrArg some (eq_B (by simp only [app_data]; simp))
theorem dec_le (n : Nat) : (Lib.decDigits n).length ≤ n + 1 := by
 induction n using Nat.strongRecOn with
 | _ n ih =>
  rw [Lib.decDigits]
  split
  ·simp
  ·have := ih (n / 10) (by omega)
   simp
   omega
theorem one_digit (c : Int) (h0 : 0 ≤ c) (h9 : c ≤ 9) : strOfNums [(wrap64 (48 + c)) % 256] = B [UInt8.ofNat (48 + c.toNat)] := by
 rw [wrapIn (by omega) (by omega), show (48 + c) % 256 = 48 + c by omega]
 refine eq_B ?_
 rw [strOfNums_data]
 show [UInt8.ofNat (48 + c).toNat] = [UInt8.ofNat (48 + c.toNat)]
 rw [show (48 + c).toNat = 48 + c.toNat by omega]
theorem dec_tells (n : Nat) (hn : n ≤ 1099511627776) : Ev (fun k => spec_l1Dec.f k (n : Int)) (B (Lib.decDigits n)) := by
 induction n using Nat.strongRecOn with
 | _ n ih =>
  by_cases h : n < 10
  ·refine Ev.step (f := fun _ => some (B (Lib.decDigits n))) (fun k => ?_) (Ev.now _)
   rw [spec_l1Dec.f, if_neg (by omega), if_neg (by omega), if_pos (by omega), one_digit n (by omega) (by omega), Lib.decDigits, dif_pos h]
   rfl
  ·have h2 := ih (n / 10) (by omega) (by omega)
   have hl := dec_le (n / 10)
   refine Ev.step (f := fun k => (spec_l1Dec.f k ((n / 10 : Nat) : Int)).bind fun t105 => ((some (([(wrap64 (48 + (Int.tmod (n : Int) 10))) % 256] : List Int) : List Int)).bind fun y106 => (if t105.size + (strOfNums y106).size ≤ 9223372036854775807 then (some (t105 ++ (strOfNums y106))) else (none)))) (fun k => by
    rw [spec_l1Dec.f, if_neg (by omega), if_neg (by omega), if_neg (by omega), show Int.tdiv (n : Int) 10 = ((n / 10 : Nat) : Int) from rfl, wrapIn (x := ((n / 10 : Nat) : Int)) (by omega) (by omega)]) ?_
   refine Ev.call h2 (h := fun _ => some (B (Lib.decDigits n))) (fun k => ?_) (Ev.now _)
   rw [show Int.tmod (n : Int) 10 = ((n % 10 : Nat) : Int) from rfl, Option.bind_some, one_digit _ (by omega) (by omega), if_pos (by rw [B_size, B_size]; simp; omega)]
   refine congrArg some (eq_B ?_)
   rw [app_data, B_data, B_data, Lib.decDigits.eq_def n, dif_neg h, Int.toNat_natCast]
theorem dots_step (l : List ByteArray) (i : Nat) (h : i < l.length) : (l.drop i).flatMap (fun s => dotL s.data.toList) = dotL l[i].data.toList ++ (l.drop (i + 1)).flatMap (fun s => dotL s.data.toList) := by
 rw [List.drop_eq_getElem_cons h, List.flatMap_cons]
theorem dotL_length (l : List UInt8) : l.length + 2 ≤ (dotL l).length ∧ (dotL l).length ≤ l.length + 3 := by
 unfold dotL
 split <;> simp <;> omega
theorem sdots_from (l : List ByteArray) (hl : l.length ≤ 1099511627776) : ∀ (d i : Nat) (acc : List UInt8), l.length = i + d → acc.length + ((l.drop i).flatMap fun s => dotL s.data.toList).length ≤ 1099511627776 →
  Ev (fun k => spec_l2Dots.l0 k l (B acc) (i : Int)) (B (acc ++ ((l.drop i).flatMap (fun s => dotL s.data.toList) ++ [46, 13, 10]))) := by
 intro d
 induction d with
 | zero =>
  intro i acc hi hb
  refine Ev.step (f := fun _ => some (B (acc ++ [46, 13, 10]))) (fun k => ?_) ?_
  ·rw [spec_l2Dots.l0, if_neg (by omega), if_pos (by rw [B_size]; omega)]
   exact congrArg some (eq_B (by rw [app_data, B_data, lit_data]))
  ·rw [List.drop_eq_nil_of_le (by omega), List.flatMap_nil, List.nil_append]
   exact Ev.now _
 | succ d ih =>
  intro i acc hi hb
  have hlt : i < l.length := by omega
  rw [dots_step l i hlt] at hb ⊢
  rw [List.length_append] at hb
  obtain ⟨hd1, hd2⟩ := dotL_length l[i].data.toList
  have hsz := len_size l[i]
  have hN := ih (i + 1) (acc ++ dotL l[i].data.toList) (by omega) (by rw [List.length_append]; omega)
  refine Ev.step (f := fun k => spec_l2Dots.l0 k l (B (acc ++ dotL l[i].data.toList)) ((i + 1 : Nat) : Int)) (fun k => ?_) (by simpa using hN)
  rw [spec_l2Dots.l0, if_pos (by omega), if_pos (by omega), rdOf_mem _ _ _ hlt, wrapIn (x := (i : Int) + 1) (by omega) (by omega)]
  generalize l[i] = s at *
  by_cases he : s.toList = []
  ·rw [if_pos he, if_pos (by rw [B_size]; omega), if_pos (by rw [ByteArray.size_append, B_size]; omega)]
   have e : (B acc ++ s) ++ (⟨#[13, 10]⟩ : ByteArray) = B (acc ++ dotL s.data.toList) := eq_B (by
    rw [toL] at he
    rw [app_data, app_data, B_data, lit_data, he]
    simp [dotL])
   rw [e]
   rfl
  ·rw [if_neg he]
   rw [toL] at he
   have hpos : 0 < s.data.toList.length := List.length_pos_iff.2 he
   rw [if_pos (by omega)]
   have hb0 : bt s 0 = ((s.data.toList[0]).toNat : Int) := bt_get s 0 hpos
   have hh : s.data.toList.head? = some s.data.toList[0] := by rw [List.head?_eq_getElem?, List.getElem?_eq_getElem hpos]
   by_cases h46 : bt s 0 = 46
   ·have h2 : s.data.toList.head? = some 46 := by
     rw [hh]
     exact congrArg some (UInt8.toNat_inj.1 (by show _ = 46; omega))
    have h3 : (dotL s.data.toList).length = s.size + 3 := by
     unfold dotL
     rw [if_pos h2]
     simp [hsz]
    rw [if_pos h46, if_pos (by omega), if_pos (by rw [ByteArray.size_append, B_size]; show _ + (1 + _) ≤ _; omega), if_pos (by rw [ByteArray.size_append, ByteArray.size_append, B_size]; show _ + (1 + _) + 2 ≤ _; omega)]
    have e : (B acc ++ ((⟨#[46]⟩ : ByteArray) ++ s)) ++ (⟨#[13, 10]⟩ : ByteArray) = B (acc ++ dotL s.data.toList) := eq_B (by
     rw [app_data, app_data, app_data, B_data, lit_data, lit_data]
     unfold dotL
     rw [if_pos h2]
     simp)
    rw [e]
    rfl
   ·have h2 : s.data.toList.head? ≠ some 46 := by
     rw [hh]
     intro hx
     injection hx with hx
     rw [hx] at hb0
     exact h46 hb0
    rw [if_neg h46, if_pos (by rw [B_size]; omega), if_pos (by rw [ByteArray.size_append, B_size]; omega)]
    have e : (B acc ++ s) ++ (⟨#[13, 10]⟩ : ByteArray) = B (acc ++ dotL s.data.toList) := eq_B (by
     rw [app_data, app_data, B_data, lit_data]
     unfold dotL
     rw [if_neg h2]
     simp)
    rw [e]
    rfl
theorem sdots_tells (l : List ByteArray) (hl : l.length ≤ 1099511627776) (hb : (dotsL l).length ≤ 1099511627776) : Ev (fun k => spec_l2Dots.f k l) (B (dotsL l)) := by
 have h := sdots_from l hl l.length 0 [] (by omega) (by
  unfold dotsL at hb
  rw [List.length_append] at hb
  rw [List.drop_zero, List.length_nil]
  omega)
 rw [List.drop_zero, List.nil_append] at h
 exact h
theorem flat_le {α : Type} (f : α → List UInt8) (n : Nat) : ∀ l : List α, (∀ x ∈ l, (f x).length ≤ n) → (l.flatMap f).length ≤ l.length * n
 | [], _ => by simp
 | x :: l, h => by
  have h1 := h x (by simp)
  have h2 := flat_le f n l (fun y hy => h y (by simp [hy]))
  rw [List.flatMap_cons, List.length_append, List.length_cons, Nat.add_mul]
  omega
theorem body_small {l : List ByteArray} (h : bodyB l = true) : l.length ≤ 12 ∧ (∀ s ∈ l, s.size ≤ 40) ∧ (dotsL l).length ≤ 600 := by
 unfold bodyB at h
 rw [Bool.and_eq_true] at h
 have h1 := of_decide_eq_true h.1
 have h2 : ∀ s ∈ l, s.size ≤ 40 := fun s hs => by
  have := List.all_eq_true.1 h.2 s hs
  unfold lineB at this
  rw [Bool.and_eq_true] at this
  exact of_decide_eq_true this.2
 refine ⟨h1, h2, ?_⟩
 have h3 := flat_le (fun s : ByteArray => dotL s.data.toList) 43 l (fun s hs => by
  have := (dotL_length s.data.toList).2
  have := h2 s hs
  rw [len_size] at *
  omega)
 unfold dotsL
 rw [List.length_append]
 simp only [List.length_cons, List.length_nil]
 have : l.length * 43 ≤ 12 * 43 := Nat.mul_le_mul_right _ h1
 omega
def toT (ts : List S32) : List UInt8 := ts.flatMap fun a => [116, 111, 32] ++ (addrT a.f0 a.f1 ++ [13, 10])
def mailT (u d : ByteArray) (ts : List S32) (body : List ByteArray) : List UInt8 := [102, 114, 111, 109, 32] ++ (addrT u d ++ ([13, 10] ++ (toT ts ++ ([13, 10] ++ dotsL body))))
theorem toT_step (ts : List S32) (i : Nat) (h : i < ts.length) : toT (ts.drop i) = [116, 111, 32] ++ (addrT ts[i].f0 ts[i].f1 ++ [13, 10]) ++ toT (ts.drop (i + 1)) := by
 unfold toT
 rw [List.drop_eq_getElem_cons h, List.flatMap_cons]
theorem to_le (a : S32) (h : Tiny a) : ([116, 111, 32] ++ (addrT a.f0 a.f1 ++ [13, 10])).length ≤ 4294967296 := by
 have := addrT_le a.f0 a.f1
 have := h.1
 have := h.2
 simp only [List.length_append, List.length_cons, List.length_nil]
 omega
theorem sput_from (u d : ByteArray) (ts : List S32) (body : List ByteArray) (ht : ∀ a ∈ ts, Tiny a) (h4 : ts.length ≤ 4) (hb : bodyB body = true) : ∀ (e i : Nat) (acc : List UInt8), ts.length = i + e → acc.length + e * 4294967296 ≤ 1099511627776 →
  Ev (fun k => spec_l2Put.l0 k (B acc) (i : Int) u d ts body) (B (acc ++ (toT (ts.drop i) ++ ([13, 10] ++ dotsL body)))) := by
 obtain ⟨hb1, hb2, hb3⟩ := body_small hb
 intro e
 induction e with
 | zero =>
  intro i acc hi hl
  refine Ev.step (f := fun k => (spec_l2Dots.f k body).bind fun t105 => (if (B acc ++ (⟨#[13, 10]⟩ : ByteArray)).size + t105.size ≤ 9223372036854775807 then (some ((B acc ++ (⟨#[13, 10]⟩ : ByteArray)) ++ t105)) else (none))) (fun k => by
   rw [spec_l2Put.l0, if_neg (by omega), if_pos (by rw [B_size]; omega)]) ?_
  refine Ev.call (sdots_tells body (by omega) (by omega)) (h := fun _ => some (B (acc ++ (toT (ts.drop i) ++ ([13, 10] ++ dotsL body))))) (fun k => ?_) (Ev.now _)
  rw [if_pos (by rw [ByteArray.size_append, B_size, B_size]; show _ + 2 + _ ≤ _; omega), List.drop_eq_nil_of_le (by omega)]
  exact congrArg some (eq_B (by rw [app_data, app_data, B_data, B_data, lit_data]; simp [toT]))
 | succ e ih =>
  intro i acc hi hl
  have hlt : i < ts.length := by omega
  have hT := ht _ (List.getElem_mem hlt)
  have hle := to_le _ hT
  have hal := addrT_le ts[i].f0 ts[i].f1
  rw [toT_step ts i hlt]
  have hN := ih (i + 1) (acc ++ ([116, 111, 32] ++ (addrT ts[i].f0 ts[i].f1 ++ [13, 10]))) (by omega) (by rw [List.length_append]; omega)
  refine Ev.step (f := fun k => spec_l2Put.l0 k (B (acc ++ ([116, 111, 32] ++ (addrT ts[i].f0 ts[i].f1 ++ [13, 10])))) ((i + 1 : Nat) : Int) u d ts body) (fun k => ?_) (by simpa using hN)
  have h1 := hT.1
  have h2 := hT.2
  rw [spec_l2Put.l0, if_pos (by omega), if_pos (by rw [B_size]; omega), if_pos (by omega), rd_T32_mem _ _ hlt, stext_tells _ _ h1 h2, Option.bind_some, if_pos (by rw [ByteArray.size_append, B_size, B_size]; show _ + 3 + _ ≤ _; omega), if_pos (by rw [ByteArray.size_append, ByteArray.size_append, B_size, B_size]; show _ + 3 + _ + 2 ≤ _; omega), wrapIn (x := (i : Int) + 1) (by omega) (by omega)]
  have e : ((B acc ++ (⟨#[116, 111, 32]⟩ : ByteArray)) ++ B (addrT ts[i].f0 ts[i].f1)) ++ (⟨#[13, 10]⟩ : ByteArray) = B (acc ++ ([116, 111, 32] ++ (addrT ts[i].f0 ts[i].f1 ++ [13, 10]))) := eq_B (by
   rw [app_data, app_data, app_data, B_data, B_data, lit_data, lit_data]
   simp)
  rw [e]
  rfl
theorem pput_from (u d : ByteArray) (ts : List S32) (body : List ByteArray) (ht : ∀ a ∈ ts, Tiny a) (h4 : ts.length ≤ 4) (hb : bodyB body = true) : ∀ (e i : Nat) (acc : List UInt8), ts.length = i + e → acc.length + e * 4294967296 ≤ 1099511627776 →
  Ev (fun k => impl_MailPut.l0 k (B acc) ts (ts.length : Int) (i : Int) u d ts body) (B (acc ++ (toT (ts.drop i) ++ ([13, 10] ++ dotsL body)))) := by
 obtain ⟨hb1, hb2, hb3⟩ := body_small hb
 intro e
 induction e with
 | zero =>
  intro i acc hi hl
  have hD : impl_dotted.f body = some (B (dotsL body)) := by
   unfold impl_dotted.f
   rw [if_pos (by omega)]
   rfl
  refine Ev.step (f := fun _ => some (B (acc ++ (toT (ts.drop i) ++ ([13, 10] ++ dotsL body))))) (fun k => ?_) (Ev.now _)
  rw [impl_MailPut.l0, if_neg (by omega), if_pos (by rw [B_size]; omega), hD, Option.bind_some, if_pos (by rw [ByteArray.size_append, B_size, B_size]; show _ + 2 + _ ≤ _; omega), List.drop_eq_nil_of_le (by omega)]
  exact congrArg some (eq_B (by rw [app_data, app_data, B_data, B_data, lit_data]; simp [toT]))
 | succ e ih =>
  intro i acc hi hl
  have hlt : i < ts.length := by omega
  have hT := ht _ (List.getElem_mem hlt)
  have hle := to_le _ hT
  have hal := addrT_le ts[i].f0 ts[i].f1
  rw [toT_step ts i hlt]
  have hN := ih (i + 1) (acc ++ ([116, 111, 32] ++ (addrT ts[i].f0 ts[i].f1 ++ [13, 10]))) (by omega) (by rw [List.length_append]; omega)
  refine Ev.step (f := fun k => impl_MailPut.l0 k (B (acc ++ ([116, 111, 32] ++ (addrT ts[i].f0 ts[i].f1 ++ [13, 10])))) ts (ts.length : Int) ((i + 1 : Nat) : Int) u d ts body) (fun k => ?_) (by simpa using hN)
  have h1 := hT.1
  have h2 := hT.2
  rw [impl_MailPut.l0, if_pos (by omega), if_pos (by omega), if_pos (by omega), rd_T32_mem _ _ hlt, ptext_tells _ _ h1 h2, Option.bind_some, if_pos (by rw [B_size]; omega), if_pos (by rw [ByteArray.size_append, B_size]; show 3 + _ + 2 ≤ _; omega), if_pos (by rw [ByteArray.size_append, ByteArray.size_append, B_size, B_size]; show _ + (3 + _ + 2) ≤ _; omega), wrapIn (x := (i : Int) + 1) (by omega) (by omega)]
  have e : B acc ++ (((⟨#[116, 111, 32]⟩ : ByteArray) ++ B (addrT ts[i].f0 ts[i].f1)) ++ (⟨#[13, 10]⟩ : ByteArray)) = B (acc ++ ([116, 111, 32] ++ (addrT ts[i].f0 ts[i].f1 ++ [13, 10]))) := eq_B (by
   rw [app_data, app_data, app_data, B_data, B_data, lit_data, lit_data]
   simp)
  rw [e]
  rfl
theorem mail_parts {u d : ByteArray} {ts : List S32} {body : List ByteArray} (h : mailB u d ts body = true) : (nullB u d || addrB u d) = true ∧ (1 ≤ ts.length ∧ ts.length ≤ 4) ∧ (∀ a ∈ ts, addrB a.f0 a.f1 = true) ∧ apartB ts = true ∧ bodyB body = true := by
 unfold mailB at h
 simp only [Bool.and_eq_true] at h
 obtain ⟨⟨⟨⟨h1, h2⟩, h3⟩, h4⟩, h5⟩ := h
 exact ⟨h1, of_decide_eq_true h2, fun a ha => List.all_eq_true.1 h3 a ha, h4, h5⟩
theorem sput_tells (u d : ByteArray) (ts : List S32) (body : List ByteArray) (hs : Short u d ts body) (hm : mailB u d ts body = true) : Ev (fun k => spec_l2Put.f k u d ts body) (B (mailT u d ts body)) := by
 obtain ⟨hu, hd, ht, _, _, _⟩ := hs
 obtain ⟨_, h2, _, _, h5⟩ := mail_parts hm
 have hal := addrT_le u d
 have h := sput_from u d ts body ht h2.2 h5 ts.length 0 ([102, 114, 111, 109, 32] ++ (addrT u d ++ [13, 10])) (by omega) (by
  simp only [List.length_append, List.length_cons, List.length_nil]
  omega)
 refine Ev.congr (f := fun k => spec_l2Put.l0 k (B ([102, 114, 111, 109, 32] ++ (addrT u d ++ [13, 10]))) ((0 : Nat) : Int) u d ts body) (fun k => ?_) (by
  unfold mailT
  simpa using h)
 unfold spec_l2Put.f
 rw [stext_tells u d hu hd, Option.bind_some, if_pos (by rw [B_size]; omega), if_pos (by rw [ByteArray.size_append, B_size]; show 5 + _ + 2 ≤ _; omega)]
 have e : ((⟨#[102, 114, 111, 109, 32]⟩ : ByteArray) ++ B (addrT u d)) ++ (⟨#[13, 10]⟩ : ByteArray) = B ([102, 114, 111, 109, 32] ++ (addrT u d ++ [13, 10])) := eq_B (by
  rw [app_data, app_data, B_data, lit_data, lit_data]
  simp)
 rw [e]
 rfl
theorem pput_tells (u d : ByteArray) (ts : List S32) (body : List ByteArray) (hs : Short u d ts body) (hm : mailB u d ts body = true) : Ev (fun k => impl_MailPut.f k u d ts body) (B (mailT u d ts body)) := by
 have hs' := hs
 obtain ⟨hu, hd, ht, _, _, _⟩ := hs
 obtain ⟨_, h2, _, _, h5⟩ := mail_parts hm
 have hal := addrT_le u d
 have h := pput_from u d ts body ht h2.2 h5 ts.length 0 ([102, 114, 111, 109, 32] ++ (addrT u d ++ [13, 10])) (by omega) (by
  simp only [List.length_append, List.length_cons, List.length_nil]
  omega)
 refine Ev.congr (f := fun k => impl_MailPut.l0 k (B ([102, 114, 111, 109, 32] ++ (addrT u d ++ [13, 10]))) ts (ts.length : Int) ((0 : Nat) : Int) u d ts body) (fun k => ?_) (by
  unfold mailT
  simpa using h)
 unfold impl_MailPut.f
 rw [pmail_tells u d ts body hs', hm, Option.bind_some, if_pos rfl, ptext_tells u d hu hd, Option.bind_some, if_pos (by rw [B_size]; omega), if_pos (by rw [ByteArray.size_append, B_size]; show 5 + _ + 2 ≤ _; omega)]
 have e : ((⟨#[102, 114, 111, 109, 32]⟩ : ByteArray) ++ B (addrT u d)) ++ (⟨#[13, 10]⟩ : ByteArray) = B ([102, 114, 111, 109, 32] ++ (addrT u d ++ [13, 10])) := eq_B (by
  rw [app_data, app_data, B_data, lit_data, lit_data]
  simp)
 rw [e]
 rfl
def noteT (kind id : Int) (au ad : ByteArray) (now : Int) (u d : ByteArray) (ts : List S32) (body : List ByteArray) : List UInt8 :=
 if kind = 1 then [97, 100, 100, 32] ++ (Lib.itoa now ++ ([10] ++ mailT u d ts body))
 else if kind = 2 then [100, 111, 110, 101, 32] ++ (Lib.itoa id ++ ([32] ++ addrT au ad))
 else [108, 97, 116, 101, 114, 32] ++ (Lib.itoa id ++ ([32] ++ (addrT au ad ++ ([32] ++ Lib.itoa now))))
theorem itoa_nat (n : Int) (h : 0 ≤ n) : Lib.itoa n = Lib.decDigits n.toNat := by
 unfold Lib.itoa
 rw [if_neg (by omega)]
theorem itoa_le (n : Int) (h : 0 ≤ n) (h9 : n ≤ 9999) : (Lib.itoa n).length ≤ 10000 := by
 rw [itoa_nat n h]
 have := dec_le n.toNat
 omega
theorem pitoa_tells (n : Int) (h : 0 ≤ n) (h9 : n ≤ 9999) : strconv_Itoa.f n = some (B (Lib.itoa n)) := by
 unfold strconv_Itoa.f
 rw [if_pos ⟨by omega, by omega⟩]
 rfl
theorem sitoa_tells (n : Int) (h : 0 ≤ n) (h9 : n ≤ 9999) : Ev (fun k => spec_l1Dec.f k n) (B (Lib.itoa n)) := by
 obtain ⟨n, rfl⟩ := Int.eq_ofNat_of_zero_le h
 rw [itoa_nat _ h]
 exact dec_tells n (by omega)
theorem mailT_le (u d : ByteArray) (ts : List S32) (body : List ByteArray) (hs : Short u d ts body) (hm : mailB u d ts body = true) : (mailT u d ts body).length ≤ 1099511627776 := by
 obtain ⟨hu, hd, ht, _, _, _⟩ := hs
 obtain ⟨_, h2, _, _, h5⟩ := mail_parts hm
 obtain ⟨_, _, h6⟩ := body_small h5
 have hal := addrT_le u d
 have h7 : (toT ts).length ≤ ts.length * 4294967296 := flat_le _ _ ts (fun a ha => to_le a (ht a ha))
 have h8 : ts.length * 4294967296 ≤ 4 * 4294967296 := Nat.mul_le_mul_right _ h2.2
 unfold mailT
 simp only [List.length_append, List.length_cons, List.length_nil]
 omega
theorem note_parts {kind id : Int} {au ad : ByteArray} {now : Int} {u d : ByteArray} {ts : List S32} {body : List ByteArray} (h : noteB kind id au ad now u d ts body = true) :
  (kind = 1 ∧ mailB u d ts body = true ∧ 0 ≤ now ∧ now ≤ 9999 ∧ id = 0 ∧ nullB au ad = true) ∨ (kind = 2 ∧ bareB u d ts body = true ∧ 1 ≤ id ∧ id ≤ 999 ∧ addrB au ad = true ∧ now = 0) ∨ (kind = 3 ∧ bareB u d ts body = true ∧ 1 ≤ id ∧ id ≤ 999 ∧ addrB au ad = true ∧ 0 ≤ now ∧ now ≤ 9999) := by
 unfold noteB at h
 by_cases k1 : kind = 1
 ·rw [if_pos k1] at h
  simp only [Bool.and_eq_true, decide_eq_true_eq] at h
  exact .inl ⟨k1, h.1, h.2.1.1, h.2.1.2, h.2.2.1, h.2.2.2⟩
 rw [if_neg k1] at h
 by_cases k2 : kind = 2
 ·rw [if_pos k2] at h
  simp only [Bool.and_eq_true, decide_eq_true_eq] at h
  exact .inr (.inl ⟨k2, h.1, h.2.1.1, h.2.1.2, h.2.2.1, h.2.2.2⟩)
 rw [if_neg k2] at h
 by_cases k3 : kind = 3
 ·rw [if_pos k3] at h
  simp only [Bool.and_eq_true, decide_eq_true_eq] at h
  exact .inr (.inr ⟨k3, h.1, h.2.1.1, h.2.1.2, h.2.2.1, h.2.2.2.1, h.2.2.2.2⟩)
 rw [if_neg k3] at h
 cases h
theorem sbodyT_tells (kind id : Int) (au ad : ByteArray) (now : Int) (u d : ByteArray) (ts : List S32) (body : List ByteArray) (hs : Short u d ts body) (hau : au.size ≤ 1073741824) (had : ad.size ≤ 1073741824) (hn : noteB kind id au ad now u d ts body = true) :
  Ev (fun k => spec_l6Body.f k kind id au ad now u d ts body) (B (noteT kind id au ad now u d ts body)) := by
 have hal := addrT_le au ad
 unfold noteT
 rcases note_parts hn with ⟨k1, hm, n0, n9, _, _⟩ | ⟨k2, _, i1, i9, _, _⟩ | ⟨k3, _, i1, i9, _, n0, n9⟩
 ·rw [if_pos k1]
  have hl := itoa_le now n0 n9
  have hml := mailT_le u d ts body hs hm
  refine Ev.congr (fun k => by unfold spec_l6Body.f; rw [if_pos k1]) ?_
  refine Ev.call (sitoa_tells now n0 n9) (fun k => by rw [if_pos (by rw [B_size]; omega), if_pos (by rw [ByteArray.size_append, B_size]; show 4 + _ + 1 ≤ _; omega)]) ?_
  refine Ev.call (sput_tells u d ts body hs hm) (h := fun _ => some (B ([97, 100, 100, 32] ++ (Lib.itoa now ++ ([10] ++ mailT u d ts body))))) (fun k => ?_) (Ev.now _)
  rw [if_pos (by rw [ByteArray.size_append, ByteArray.size_append, B_size, B_size]; show 4 + _ + 1 + _ ≤ _; omega)]
  exact congrArg some (eq_B (by rw [app_data, app_data, app_data, B_data, B_data, lit_data, lit_data]; simp))
 ·have hl := itoa_le id (by omega) (by omega)
  rw [if_neg (by omega), if_pos k2]
  refine Ev.congr (fun k => by unfold spec_l6Body.f; rw [if_neg (by omega), if_pos k2]) ?_
  refine Ev.call (sitoa_tells id (by omega) (by omega)) (h := fun _ => some (B ([100, 111, 110, 101, 32] ++ (Lib.itoa id ++ ([32] ++ addrT au ad))))) (fun k => ?_) (Ev.now _)
  rw [if_pos (by rw [B_size]; omega), if_pos (by rw [ByteArray.size_append, B_size]; show 5 + _ + 1 ≤ _; omega), stext_tells au ad hau had, Option.bind_some, if_pos (by rw [ByteArray.size_append, ByteArray.size_append, B_size, B_size]; show 5 + _ + 1 + _ ≤ _; omega)]
  exact congrArg some (eq_B (by rw [app_data, app_data, app_data, B_data, B_data, lit_data, lit_data]; simp))
 ·have hl := itoa_le id (by omega) (by omega)
  have hl2 := itoa_le now n0 n9
  rw [if_neg (by omega), if_neg (by omega)]
  refine Ev.congr (fun k => by unfold spec_l6Body.f; rw [if_neg (by omega), if_neg (by omega)]) ?_
  refine Ev.call (sitoa_tells id (by omega) (by omega)) (fun k => by
   rw [if_pos (by rw [B_size]; omega), if_pos (by rw [ByteArray.size_append, B_size]; show 6 + _ + 1 ≤ _; omega), stext_tells au ad hau had, Option.bind_some, if_pos (by rw [ByteArray.size_append, ByteArray.size_append, B_size, B_size]; show 6 + _ + 1 + _ ≤ _; omega), if_pos (by rw [ByteArray.size_append, ByteArray.size_append, ByteArray.size_append, B_size, B_size]; show 6 + _ + 1 + _ + 1 ≤ _; omega)]) ?_
  refine Ev.call (sitoa_tells now n0 n9) (h := fun _ => some (B ([108, 97, 116, 101, 114, 32] ++ (Lib.itoa id ++ ([32] ++ (addrT au ad ++ ([32] ++ Lib.itoa now))))))) (fun k => ?_) (Ev.now _)
  rw [if_pos (by rw [ByteArray.size_append, ByteArray.size_append, ByteArray.size_append, ByteArray.size_append, B_size, B_size, B_size]; show 6 + _ + 1 + _ + 1 + _ ≤ _; omega)]
  exact congrArg some (eq_B (by rw [app_data, app_data, app_data, app_data, app_data, B_data, B_data, B_data, lit_data, lit_data]; simp))
def putB (kind id : Int) (au ad : ByteArray) (now : Int) (u d : ByteArray) (ts : List S32) (body : List ByteArray) : ByteArray := if noteB kind id au ad now u d ts body = true then B (noteT kind id au ad now u d ts body) else (⟨#[]⟩ : ByteArray)
theorem sNotePut_tells (kind id : Int) (au ad : ByteArray) (now : Int) (u d : ByteArray) (ts : List S32) (body : List ByteArray) (hs : Short u d ts body) (hau : au.size ≤ 1073741824) (had : ad.size ≤ 1073741824) :
  Ev (fun k => spec_NotePut.f k kind id au ad now u d ts body) (putB kind id au ad now u d ts body) := by
 have h := snote_tells kind id au ad now u d ts body hs hau had
 unfold putB
 cases hn : noteB kind id au ad now u d ts body
 ·rw [hn] at h
  exact Ev.call h (h := fun _ => some (⟨#[]⟩ : ByteArray)) (fun k => if_neg (by decide)) (Ev.now _)
 ·rw [hn] at h
  refine Ev.call h (fun k => if_pos rfl) ?_
  exact Ev.call (sbodyT_tells kind id au ad now u d ts body hs hau had hn) (h := fun _ => some (B (noteT kind id au ad now u d ts body))) (fun k => rfl) (Ev.now _)
theorem pNotePut_tells (kind id : Int) (au ad : ByteArray) (now : Int) (u d : ByteArray) (ts : List S32) (body : List ByteArray) (hs : Short u d ts body) (hau : au.size ≤ 1073741824) (had : ad.size ≤ 1073741824) :
  Ev (fun k => impl_NotePut.f k kind id au ad now u d ts body) (putB kind id au ad now u d ts body) := by
 have h := pnote_tells kind id au ad now u d ts body hs had
 unfold putB
 cases hn : noteB kind id au ad now u d ts body
 ·rw [hn] at h
  exact Ev.call h (h := fun _ => some (⟨#[]⟩ : ByteArray)) (fun k => if_neg (by decide)) (Ev.now _)
 ·rw [hn] at h
  have hal := addrT_le au ad
  refine Ev.call h (fun k => if_pos rfl) ?_
  unfold noteT
  rcases note_parts hn with ⟨k1, hm, n0, n9, _, _⟩ | ⟨k2, _, i1, i9, _, hnow⟩ | ⟨k3, _, i1, i9, _, n0, n9⟩
  ·rw [if_pos rfl, if_pos k1]
   have hl := itoa_le now n0 n9
   have hml := mailT_le u d ts body hs hm
   refine Ev.congr (fun k => by rw [pitoa_tells now n0 n9, Option.bind_some, if_pos k1, if_pos (by rw [B_size]; omega), if_pos (by rw [ByteArray.size_append, B_size]; show 4 + _ + 1 ≤ _; omega)]) ?_
   refine Ev.call (pput_tells u d ts body hs hm) (h := fun _ => some (B ([97, 100, 100, 32] ++ (Lib.itoa now ++ ([10] ++ mailT u d ts body))))) (fun k => ?_) (Ev.now _)
   rw [if_pos (by rw [ByteArray.size_append, ByteArray.size_append, B_size, B_size]; show 4 + _ + 1 + _ ≤ _; omega)]
   exact congrArg some (eq_B (by rw [app_data, app_data, app_data, B_data, B_data, lit_data, lit_data]; simp))
  ·have hl := itoa_le id (by omega) (by omega)
   rw [if_pos rfl, if_neg (by omega), if_pos k2]
   refine Ev.congr (f := fun _ => some (B ([100, 111, 110, 101, 32] ++ (Lib.itoa id ++ ([32] ++ addrT au ad))))) (fun k => ?_) (Ev.now _)
   rw [pitoa_tells now (by omega) (by omega), Option.bind_some, if_neg (by omega), pitoa_tells id (by omega) (by omega), Option.bind_some, if_pos (by rw [B_size]; omega), ptext_tells au ad hau had, Option.bind_some, if_pos (by rw [ByteArray.size_append, B_size, B_size]; show _ + 1 + _ ≤ _; omega), if_pos k2, if_pos (by rw [ByteArray.size_append, ByteArray.size_append, B_size, B_size]; show 5 + (_ + 1 + _) ≤ _; omega)]
   exact congrArg some (eq_B (by rw [app_data, app_data, app_data, B_data, B_data, lit_data, lit_data]; simp))
  ·have hl := itoa_le id (by omega) (by omega)
   have hl2 := itoa_le now n0 n9
   rw [if_pos rfl, if_neg (by omega), if_neg (by omega)]
   refine Ev.congr (f := fun _ => some (B ([108, 97, 116, 101, 114, 32] ++ (Lib.itoa id ++ ([32] ++ (addrT au ad ++ ([32] ++ Lib.itoa now))))))) (fun k => ?_) (Ev.now _)
   rw [pitoa_tells now (by omega) (by omega), Option.bind_some, if_neg (by omega), pitoa_tells id (by omega) (by omega), Option.bind_some, if_pos (by rw [B_size]; omega), ptext_tells au ad hau had, Option.bind_some, if_pos (by rw [ByteArray.size_append, B_size, B_size]; show _ + 1 + _ ≤ _; omega), if_neg (by omega), if_pos (by rw [ByteArray.size_append, ByteArray.size_append, B_size, B_size]; show 6 + (_ + 1 + _) ≤ _; omega), if_pos (by rw [ByteArray.size_append, ByteArray.size_append, ByteArray.size_append, B_size, B_size]; show 6 + (_ + 1 + _) + 1 ≤ _; omega), if_pos (by rw [ByteArray.size_append, ByteArray.size_append, ByteArray.size_append, ByteArray.size_append, B_size, B_size, B_size]; show 6 + (_ + 1 + _) + 1 + _ ≤ _; omega)]
   exact congrArg some (eq_B (by rw [app_data, app_data, app_data, app_data, app_data, B_data, B_data, B_data, lit_data, lit_data]; simp))
end Go.Proofs.YtbncnjgflhoneaaGreatDoor.Hand
namespace Go.Proofs.YtbncnjgflhoneaaGreatDoor.F
open Go.RowKit Go.Proofs.YtbncnjgflhoneaaGreatDoor.Hand Go.Proofs.YtbncnjgflhoneaaGreatDoorW.PrintWords Go.Proofs.YtbncnjgflhoneaaGreatDoorW.PrintLast Go.Proofs.YtbncnjgflhoneaaGreatDoorW.PrintMore
set_option linter.unusedVariables false
set_option linter.unusedSimpArgs false
def stringslite_HasPrefix.f (a0 : ByteArray) (a1 : ByteArray) : Option (Bool) := if (a0.size : Int) ≥ (a1.size : Int) then (if 0 ≤ (a1.size : Int) then (if (a1.size : Int) ≤ (a0.size : Int) then (some ((a0.extract 0 ((a1.size : Int) : Int).toNat).toList == a1.toList)) else (none)) else (none)) else (some false)
set_option maxHeartbeats 8000000 in
set_option maxRecDepth 100000 in
theorem stringslite_HasPrefix.calls (a0 : ByteArray) (a1 : ByteArray) (r : Bool) (w : World) (h : stringslite_HasPrefix.f a0 a1 = some r) :
  Calls Tryz.prog 139 #[.string a0, .string a1] w fun e w' => e = .returned (.bool r) ∧ Drawn0 w w' := by
 have H := h
 clear h
 unfold stringslite_HasPrefix.f at H
 replace H := its_cd_cd H; rcases H with ⟨c3, c3b0, H⟩ | ⟨c3, c3b0, H⟩
 ·have c3b1 : decide (a1.size ≤ a0.size) = true := decide_eq_true (Int.ofNat_le.mp c3)
  clear c3
  replace H := itn_ed H; obtain ⟨c4b0, c4b1, H⟩ := H
  replace H := itn_ed H; obtain ⟨c5b0, c5b1, H⟩ := H
  obtain rfl := Option.some.inj H
  go_enter Tryz.func139, Tryz.ntmps139
  go_wp2
  go_ret
  exact ⟨zs, zD⟩
 ·have c3b1 : decide (a1.size ≤ a0.size) = false := decide_eq_false (fun h => c3 (Int.ofNat_le.mpr h))
  clear c3
  obtain rfl := Option.some.inj H
  go_enter Tryz.func139, Tryz.ntmps139
  go_wp2
  go_ret
  exact ⟨zs, zD⟩
def stringslite_CutPrefix.f (a0 : ByteArray) (a1 : ByteArray) : Option (ByteArray × Bool) := (stringslite_HasPrefix.f a0 a1).bind fun t101 => (if t101 = true then (if 0 ≤ (a1.size : Int) then (if (a1.size : Int) ≤ (a0.size : Int) then (some (a0.extract ((a1.size : Int) : Int).toNat a0.size, true)) else (none)) else (none)) else (some (a0, false)))
set_option maxHeartbeats 8000000 in
set_option maxRecDepth 100000 in
theorem stringslite_CutPrefix.calls (a0 : ByteArray) (a1 : ByteArray) (r1 : ByteArray) (r2 : Bool) (w : World) (h : stringslite_CutPrefix.f a0 a1 = some (r1, r2)) :
  Calls Tryz.prog 125 #[.string a0, .string a1] w fun e w' => e = .returned (.tuple #[.string r1, .bool r2]) ∧ Drawn0 w w' := by
 have H := h
 clear h
 unfold stringslite_CutPrefix.f at H
 replace H := bnd H; obtain ⟨t101, A3, H⟩ := H
 replace H := itb H; rcases H with ⟨rfl, H⟩ | ⟨rfl, H⟩
 ·replace H := itn_ed H; obtain ⟨c5b0, c5b1, H⟩ := H
  replace H := itn_ed H; obtain ⟨c6b0, c6b1, H⟩ := H
  simp only [Option.some.injEq, Prod.mk.injEq] at H
  obtain ⟨rfl, rfl⟩ := H
  go_enter Tryz.func125, Tryz.ntmps125
  go_wp2_with (first | ((with_reducible refine gate_callee (f := 139) rfl ?_); refine gv 8 Tryz.func139 _ (stringslite_HasPrefix.calls (w := _) (h := A3.out)) ?_; rintro w' ⟨nd, rfl⟩))
  go_ret2
  exact ⟨zs, zD⟩
 ·simp only [Option.some.injEq, Prod.mk.injEq] at H
  obtain ⟨rfl, rfl⟩ := H
  go_enter Tryz.func125, Tryz.ntmps125
  go_wp2_with (first | ((with_reducible refine gate_callee (f := 139) rfl ?_); refine gv 8 Tryz.func139 _ (stringslite_HasPrefix.calls (w := _) (h := A3.out)) ?_; rintro w' ⟨nd, rfl⟩))
  go_ret2
  exact ⟨zs, zD⟩
end Go.Proofs.YtbncnjgflhoneaaGreatDoor.F
namespace Go.Proofs.YtbncnjgflhoneaaGreatDoor.F
open Go.RowKit Go.Proofs.YtbncnjgflhoneaaGreatDoor.Hand Go.Proofs.YtbncnjgflhoneaaGreatDoorW.PrintWords Go.Proofs.YtbncnjgflhoneaaGreatDoorW.PrintLast Go.Proofs.YtbncnjgflhoneaaGreatDoorW.PrintMore
set_option linter.unusedVariables false
set_option linter.unusedSimpArgs false
def strings_CutPrefix.f (a0 : ByteArray) (a1 : ByteArray) : Option (ByteArray × Bool) := (stringslite_CutPrefix.f a0 a1).bind fun bt101 => (some (bt101.1, bt101.2))
set_option maxHeartbeats 8000000 in
set_option maxRecDepth 100000 in
theorem strings_CutPrefix.calls (a0 : ByteArray) (a1 : ByteArray) (r1 : ByteArray) (r2 : Bool) (w : World) (h : strings_CutPrefix.f a0 a1 = some (r1, r2)) :
  Calls Tryz.prog 80 #[.string a0, .string a1] w fun e w' => e = .returned (.tuple #[.string r1, .bool r2]) ∧ Drawn0 w w' := by
 have H := h
 clear h
 unfold strings_CutPrefix.f at H
 replace H := bnd H; obtain ⟨⟨t101, t102⟩, A3, H⟩ := H
 dsimp only at H
 simp only [Option.some.injEq, Prod.mk.injEq] at H
 obtain ⟨rfl, rfl⟩ := H
 go_enter Tryz.func80, Tryz.ntmps80
 go_wp2_with (first | ((with_reducible refine gate_callee (f := 125) rfl ?_); refine gv 8 Tryz.func125 _ (stringslite_CutPrefix.calls (w := _) (h := A3.out)) ?_; rintro w' ⟨nd, rfl⟩))
 go_ret2
 exact ⟨zs, zD⟩
def stringslite_HasSuffix.f (a0 : ByteArray) (a1 : ByteArray) : Option (Bool) := if (a0.size : Int) ≥ (a1.size : Int) then (if 0 ≤ (wrap64 ((a0.size : Int) - (a1.size : Int))) then (if (wrap64 ((a0.size : Int) - (a1.size : Int))) ≤ (a0.size : Int) then (some ((a0.extract ((wrap64 ((a0.size : Int) - (a1.size : Int))) : Int).toNat a0.size).toList == a1.toList)) else (none)) else (none)) else (some false)
set_option maxHeartbeats 8000000 in
set_option maxRecDepth 100000 in
theorem stringslite_HasSuffix.calls (a0 : ByteArray) (a1 : ByteArray) (r : Bool) (w : World) (h : stringslite_HasSuffix.f a0 a1 = some r) :
  Calls Tryz.prog 163 #[.string a0, .string a1] w fun e w' => e = .returned (.bool r) ∧ Drawn0 w w' := by
 have H := h
 clear h
 unfold stringslite_HasSuffix.f at H
 replace H := its_cd_cd H; rcases H with ⟨c3, c3b0, H⟩ | ⟨c3, c3b0, H⟩
 ·have c3b1 : decide (a1.size ≤ a0.size) = true := decide_eq_true (Int.ofNat_le.mp c3)
  clear c3
  obtain ⟨ji4, hji4⟩ : ∃ j_ : Int, (wrap64 ((a0.size : Int) - (a1.size : Int))) = j_ := ⟨_, rfl⟩
  first | rw [hji4] at H | simp only [hji4] at H
  have hji4w : (IntKind.i64.wrap ((a0.size : Int) - (a1.size : Int))) = ji4 := (i64_w _).trans hji4
  replace H := itn_ed H; obtain ⟨c5b0, c5b1, H⟩ := H
  replace H := itn_ed H; obtain ⟨c6b0, c6b1, H⟩ := H
  obtain rfl := Option.some.inj H
  go_enter Tryz.func163, Tryz.ntmps163
  go_wp2
  go_ret
  exact ⟨by first | rfl | (simp; done) | (simp only [← hji4] <;> (first | rfl | simp)) | (simp [*]; done), zD⟩
 ·have c3b1 : decide (a1.size ≤ a0.size) = false := decide_eq_false (fun h => c3 (Int.ofNat_le.mpr h))
  clear c3
  obtain rfl := Option.some.inj H
  go_enter Tryz.func163, Tryz.ntmps163
  go_wp2
  go_ret
  exact ⟨zs, zD⟩
end Go.Proofs.YtbncnjgflhoneaaGreatDoor.F
namespace Go.Proofs.YtbncnjgflhoneaaGreatDoor.F
open Go.RowKit Go.Proofs.YtbncnjgflhoneaaGreatDoor.Hand Go.Proofs.YtbncnjgflhoneaaGreatDoorW.PrintWords Go.Proofs.YtbncnjgflhoneaaGreatDoorW.PrintLast Go.Proofs.YtbncnjgflhoneaaGreatDoorW.PrintMore
set_option linter.unusedVariables false
set_option linter.unusedSimpArgs false
def stringslite_TrimSuffix.f (a0 : ByteArray) (a1 : ByteArray) : Option (ByteArray) := (stringslite_HasSuffix.f a0 a1).bind fun t101 => (if t101 = true then (if 0 ≤ (wrap64 ((a0.size : Int) - (a1.size : Int))) then (if (wrap64 ((a0.size : Int) - (a1.size : Int))) ≤ (a0.size : Int) then (some (a0.extract 0 ((wrap64 ((a0.size : Int) - (a1.size : Int))) : Int).toNat)) else (none)) else (none)) else (some a0))
set_option maxHeartbeats 8000000 in
set_option maxRecDepth 100000 in
theorem stringslite_TrimSuffix.calls (a0 : ByteArray) (a1 : ByteArray) (r : ByteArray) (w : World) (h : stringslite_TrimSuffix.f a0 a1 = some r) :
  Calls Tryz.prog 126 #[.string a0, .string a1] w fun e w' => e = .returned (.string r) ∧ Drawn0 w w' := by
 have H := h
 clear h
 unfold stringslite_TrimSuffix.f at H
 replace H := bnd H; obtain ⟨t101, A3, H⟩ := H
 replace H := itb H; rcases H with ⟨rfl, H⟩ | ⟨rfl, H⟩
 ·obtain ⟨ji5, hji5⟩ : ∃ j_ : Int, (wrap64 ((a0.size : Int) - (a1.size : Int))) = j_ := ⟨_, rfl⟩
  first | rw [hji5] at H | simp only [hji5] at H
  (try rw [hji5] at A3)
  have hji5w : (IntKind.i64.wrap ((a0.size : Int) - (a1.size : Int))) = ji5 := (i64_w _).trans hji5
  replace H := itn_ed H; obtain ⟨c6b0, c6b1, H⟩ := H
  replace H := itn_ed H; obtain ⟨c7b0, c7b1, H⟩ := H
  obtain rfl := Option.some.inj H
  go_enter Tryz.func126, Tryz.ntmps126
  go_wp2_with (first | ((with_reducible refine gate_callee (f := 163) rfl ?_); refine gv 7 Tryz.func163 _ (stringslite_HasSuffix.calls (w := _) (h := A3.out)) ?_; rintro w' ⟨nd, rfl⟩))
  go_ret
  exact ⟨by first | rfl | (simp; done) | (simp only [← hji5] <;> (first | rfl | simp)) | (simp [*]; done), zD⟩
 ·obtain rfl := Option.some.inj H
  go_enter Tryz.func126, Tryz.ntmps126
  go_wp2_with (first | ((with_reducible refine gate_callee (f := 163) rfl ?_); refine gv 7 Tryz.func163 _ (stringslite_HasSuffix.calls (w := _) (h := A3.out)) ?_; rintro w' ⟨nd, rfl⟩))
  go_ret
  exact ⟨zs, zD⟩
def strings_TrimSuffix.f (a0 : ByteArray) (a1 : ByteArray) : Option (ByteArray) := (stringslite_TrimSuffix.f a0 a1).bind fun t101 => (some t101)
set_option maxHeartbeats 8000000 in
set_option maxRecDepth 100000 in
theorem strings_TrimSuffix.calls (a0 : ByteArray) (a1 : ByteArray) (r : ByteArray) (w : World) (h : strings_TrimSuffix.f a0 a1 = some r) :
  Calls Tryz.prog 81 #[.string a0, .string a1] w fun e w' => e = .returned (.string r) ∧ Drawn0 w w' := by
 have H := h
 clear h
 unfold strings_TrimSuffix.f at H
 replace H := bnd H; obtain ⟨t101, A3, H⟩ := H
 obtain rfl := Option.some.inj H
 go_enter Tryz.func81, Tryz.ntmps81
 go_wp2_with (first | ((with_reducible refine gate_callee (f := 126) rfl ?_); refine gv 7 Tryz.func126 _ (stringslite_TrimSuffix.calls (w := _) (h := A3.out)) ?_; rintro w' ⟨nd, rfl⟩))
 go_ret
 exact ⟨zs, zD⟩
end Go.Proofs.YtbncnjgflhoneaaGreatDoor.F
namespace Go.Proofs.YtbncnjgflhoneaaGreatDoor.F
open Go.RowKit Go.Proofs.YtbncnjgflhoneaaGreatDoor.Hand Go.Proofs.YtbncnjgflhoneaaGreatDoorW.PrintWords Go.Proofs.YtbncnjgflhoneaaGreatDoorW.PrintLast Go.Proofs.YtbncnjgflhoneaaGreatDoorW.PrintMore
set_option linter.unusedVariables false
set_option linter.unusedSimpArgs false
def impl_AddrGet.f (k : Nat) (a0 : ByteArray) : Option (ByteArray × ByteArray × Bool) := (strings_CutPrefix.f a0 (⟨#[60]⟩ : ByteArray)).bind fun bt102 => ((strings_TrimSuffix.f bt102.1 (⟨#[62]⟩ : ByteArray)).bind fun t104 => ((strings_Cut.f t104 (⟨#[64]⟩ : ByteArray)).bind fun bt105 => (if bt102.2 = true then ((impl_Addr_sender.f k bt105.1 bt105.2.1).bind fun t109 => (if t109 = true then ((impl_Addr_text.f bt105.1 bt105.2.1).bind fun t110 => (if t110.toList = a0.toList then (some (bt105.1, bt105.2.1, true)) else (some ((⟨#[]⟩ : ByteArray), (⟨#[]⟩ : ByteArray), false)))) else (some ((⟨#[]⟩ : ByteArray), (⟨#[]⟩ : ByteArray), false)))) else (some ((⟨#[]⟩ : ByteArray), (⟨#[]⟩ : ByteArray), false)))))
set_option maxHeartbeats 8000000 in
set_option maxRecDepth 100000 in
theorem impl_AddrGet.calls (k : Nat) (a0 : ByteArray) (r1 : ByteArray) (r2 : ByteArray) (r3 : Bool) (w : World) (hG : Laid w) (h : impl_AddrGet.f k a0 = some (r1, r2, r3)) :
  Calls Tryz.prog 43 #[.string a0] w fun e w' => e = .returned (.tuple #[.agg #[.string r1, .string r2], .bool r3]) ∧ Below w.heap.size w w' := by
 have hu32 := Tryz.underlying32
 have HG := Aside0.mk hG
 clear hG
 have HB := Aside0.mk (Below.refl w.heap.size w)
 have H := h
 clear h
 unfold impl_AddrGet.f at H
 replace H := bnd H; obtain ⟨⟨t102, t103⟩, A2, H⟩ := H
 dsimp only at H
 replace H := bnd H; obtain ⟨t104, A3, H⟩ := H
 replace H := bnd H; obtain ⟨⟨t105, t106, t107⟩, A4, H⟩ := H
 dsimp only at H
 replace H := itb H; rcases H with ⟨rfl, H⟩ | ⟨rfl, H⟩
 ·replace H := bnd H; obtain ⟨t109, A6, H⟩ := H
  replace H := itb H; rcases H with ⟨rfl, H⟩ | ⟨rfl, H⟩
  ·replace H := bnd H; obtain ⟨t110, A8, H⟩ := H
   replace H := its_qn_qn H; rcases H with ⟨c9b0, c9b1, H⟩ | ⟨c9b0, c9b1, H⟩
   ·simp only [Option.some.injEq, Prod.mk.injEq] at H
    obtain ⟨rfl, rfl, rfl⟩ := H
    go_enter Tryz.func43, Tryz.ntmps43
    go_wp2_with (first | ((with_reducible refine gate_dst (N := 2) rfl ?_); refine bx (cs := #[.string ⟨#[]⟩, .string ⟨#[]⟩]) (t := 32) ?_; intro gb101 hg w10 hbox hb; have BK101 := Aside0.mk (hbox); have GW101 := gS hg; have GE101 := gS hg; replace HB := bS hb; clear hb hbox hg) | ((with_reducible refine gate_callee (f := 80) rfl ?_); refine gv 12 Tryz.func80 _ (strings_CutPrefix.calls (w := _) (h := A2.out)) ?_; rintro w' ⟨nd, rfl⟩; (try (rw [drewN_self w10]; generalize hq_ : World.drewN w10 _ = w10; have n0_ : Aside0 (w10.heap[gb101]? = some (.cells #[.string ⟨#[]⟩, .string ⟨#[]⟩] 32 (0, 0))) := ⟨by rw [← hq_]; exact (kQ BK101)⟩; have n1_ : Aside0 (Below w.heap.size w w10) := ⟨by rw [← hq_]; exact zB⟩; clear BK101 HB hq_; have BK101 := n0_; have HB := n1_; clear n0_ n1_))) | ((with_reducible refine gate_callee (f := 81) rfl ?_); refine gv 17 Tryz.func81 _ (strings_TrimSuffix.calls (w := _) (h := A3.out)) ?_; rintro w' ⟨nd, rfl⟩; (try (rw [drewN_self w10]; generalize hq_ : World.drewN w10 _ = w10; have n0_ : Aside0 (w10.heap[gb101]? = some (.cells #[.string ⟨#[]⟩, .string ⟨#[]⟩] 32 (0, 0))) := ⟨by rw [← hq_]; exact (kQ BK101)⟩; have n1_ : Aside0 (Below w.heap.size w w10) := ⟨by rw [← hq_]; exact zB⟩; clear BK101 HB hq_; have BK101 := n0_; have HB := n1_; clear n0_ n1_))) | ((with_reducible refine gate_callee (f := 39) rfl ?_); refine gv 18 Tryz.func39 _ (strings_Cut.calls (w := _) (hG := gB) (h := A4.out)) ?_; rintro w' ⟨nd, rfl⟩; (try (rw [drewN_self w10]; generalize hq_ : World.drewN w10 _ = w10; have n0_ : Aside0 (w10.heap[gb101]? = some (.cells #[.string ⟨#[]⟩, .string ⟨#[]⟩] 32 (0, 0))) := ⟨by rw [← hq_]; exact (kQ BK101)⟩; have n1_ : Aside0 (Below w.heap.size w w10) := ⟨by rw [← hq_]; exact zB⟩; clear BK101 HB hq_; have BK101 := n0_; have HB := n1_; clear n0_ n1_))) | ((with_reducible refine gate_dst (N := 9) rfl ?_); refine bx (cs := #[.string ⟨#[]⟩, .string ⟨#[]⟩]) (t := 32) ?_; intro gb108 hg w11 hbox hb; have BK108 := Aside0.mk (hbox); have GW108 := gS hg; have GE108 := gS hg; have NB101_108 := nS hg BK101; have NB108_101 := nG hg BK101; replace BK101 := kS BK101 hb; replace HB := bS hb; clear hb hbox hg; have hnb12 := NB108_101.out; have hnc12 := NB101_108.out; have hcz13 := cz2 BK108.out; have hfz13 := fz2 BK108.out) | (go_at_call 72; refine (impl_Addr_sender.calls (w := _) (hG := gB) (h := A6.out)).mono ?_; rintro e w14 ⟨rfl, hb⟩; replace BK101 := kS BK101 hb; replace BK108 := kP (.cells #[.string t105, .string t106] 32 (0, 0)) BK108 hb; replace HB := bS hb; clear hb; have hcz15 := cz2 BK108.out; have hfz15 := fz2 BK108.out) | (go_at_call 29; with_reducible refine (impl_Addr_text.calls (w := _) (h := A8.out)).mono ?_; rintro e w16 ⟨rfl, hb⟩; replace BK101 := kS BK101 hb; replace BK108 := kS BK108 hb; replace HB := bS hb; clear hb; have hcz17 := cz2 BK108.out; have hfz17 := fz2 BK108.out; have hcz18 := cz2 BK101.out; have hfz18 := fz2 BK101.out))
    refine bodyPost_ret (results_ct rfl _ _ gb101 32 #[.string t105, .string t106] (0, 0) _ rfl (kQ BK101) Tryz.underlying32 rfl (by kernel_rfl)) rfl ?_
    exact ⟨zr, zB⟩
   ·simp only [Option.some.injEq, Prod.mk.injEq] at H
    obtain ⟨rfl, rfl, rfl⟩ := H
    go_enter Tryz.func43, Tryz.ntmps43
    go_wp2_with (first | ((with_reducible refine gate_dst (N := 2) rfl ?_); refine bx (cs := #[.string ⟨#[]⟩, .string ⟨#[]⟩]) (t := 32) ?_; intro gb101 hg w19 hbox hb; have BK101 := Aside0.mk (hbox); have GW101 := gS hg; have GE101 := gS hg; replace HB := bS hb; clear hb hbox hg) | ((with_reducible refine gate_callee (f := 80) rfl ?_); refine gv 12 Tryz.func80 _ (strings_CutPrefix.calls (w := _) (h := A2.out)) ?_; rintro w' ⟨nd, rfl⟩; (try (rw [drewN_self w19]; generalize hq_ : World.drewN w19 _ = w19; have n0_ : Aside0 (w19.heap[gb101]? = some (.cells #[.string ⟨#[]⟩, .string ⟨#[]⟩] 32 (0, 0))) := ⟨by rw [← hq_]; exact (kQ BK101)⟩; have n1_ : Aside0 (Below w.heap.size w w19) := ⟨by rw [← hq_]; exact zB⟩; clear BK101 HB hq_; have BK101 := n0_; have HB := n1_; clear n0_ n1_))) | ((with_reducible refine gate_callee (f := 81) rfl ?_); refine gv 17 Tryz.func81 _ (strings_TrimSuffix.calls (w := _) (h := A3.out)) ?_; rintro w' ⟨nd, rfl⟩; (try (rw [drewN_self w19]; generalize hq_ : World.drewN w19 _ = w19; have n0_ : Aside0 (w19.heap[gb101]? = some (.cells #[.string ⟨#[]⟩, .string ⟨#[]⟩] 32 (0, 0))) := ⟨by rw [← hq_]; exact (kQ BK101)⟩; have n1_ : Aside0 (Below w.heap.size w w19) := ⟨by rw [← hq_]; exact zB⟩; clear BK101 HB hq_; have BK101 := n0_; have HB := n1_; clear n0_ n1_))) | ((with_reducible refine gate_callee (f := 39) rfl ?_); refine gv 18 Tryz.func39 _ (strings_Cut.calls (w := _) (hG := gB) (h := A4.out)) ?_; rintro w' ⟨nd, rfl⟩; (try (rw [drewN_self w19]; generalize hq_ : World.drewN w19 _ = w19; have n0_ : Aside0 (w19.heap[gb101]? = some (.cells #[.string ⟨#[]⟩, .string ⟨#[]⟩] 32 (0, 0))) := ⟨by rw [← hq_]; exact (kQ BK101)⟩; have n1_ : Aside0 (Below w.heap.size w w19) := ⟨by rw [← hq_]; exact zB⟩; clear BK101 HB hq_; have BK101 := n0_; have HB := n1_; clear n0_ n1_))) | ((with_reducible refine gate_dst (N := 9) rfl ?_); refine bx (cs := #[.string ⟨#[]⟩, .string ⟨#[]⟩]) (t := 32) ?_; intro gb108 hg w20 hbox hb; have BK108 := Aside0.mk (hbox); have GW108 := gS hg; have GE108 := gS hg; have NB101_108 := nS hg BK101; have NB108_101 := nG hg BK101; replace BK101 := kS BK101 hb; replace HB := bS hb; clear hb hbox hg; have hnb21 := NB108_101.out; have hnc21 := NB101_108.out; have hcz22 := cz2 BK108.out; have hfz22 := fz2 BK108.out) | (go_at_call 72; refine (impl_Addr_sender.calls (w := _) (hG := gB) (h := A6.out)).mono ?_; rintro e w23 ⟨rfl, hb⟩; replace BK101 := kS BK101 hb; replace BK108 := kP (.cells #[.string t105, .string t106] 32 (0, 0)) BK108 hb; replace HB := bS hb; clear hb; have hcz24 := cz2 BK108.out; have hfz24 := fz2 BK108.out) | (go_at_call 29; with_reducible refine (impl_Addr_text.calls (w := _) (h := A8.out)).mono ?_; rintro e w25 ⟨rfl, hb⟩; replace BK101 := kS BK101 hb; replace BK108 := kS BK108 hb; replace HB := bS hb; clear hb; have hcz26 := cz2 BK101.out; have hfz26 := fz2 BK101.out))
    refine bodyPost_ret (results_ct rfl _ _ gb101 32 #[.string (⟨#[]⟩ : ByteArray), .string (⟨#[]⟩ : ByteArray)] (0, 0) _ rfl (kQ BK101) Tryz.underlying32 rfl (by kernel_rfl)) rfl ?_
    exact ⟨zr, zB⟩
  ·simp only [Option.some.injEq, Prod.mk.injEq] at H
   obtain ⟨rfl, rfl, rfl⟩ := H
   go_enter Tryz.func43, Tryz.ntmps43
   go_wp2_with (first | ((with_reducible refine gate_dst (N := 2) rfl ?_); refine bx (cs := #[.string ⟨#[]⟩, .string ⟨#[]⟩]) (t := 32) ?_; intro gb101 hg w27 hbox hb; have BK101 := Aside0.mk (hbox); have GW101 := gS hg; have GE101 := gS hg; replace HB := bS hb; clear hb hbox hg) | ((with_reducible refine gate_callee (f := 80) rfl ?_); refine gv 12 Tryz.func80 _ (strings_CutPrefix.calls (w := _) (h := A2.out)) ?_; rintro w' ⟨nd, rfl⟩; (try (rw [drewN_self w27]; generalize hq_ : World.drewN w27 _ = w27; have n0_ : Aside0 (w27.heap[gb101]? = some (.cells #[.string ⟨#[]⟩, .string ⟨#[]⟩] 32 (0, 0))) := ⟨by rw [← hq_]; exact (kQ BK101)⟩; have n1_ : Aside0 (Below w.heap.size w w27) := ⟨by rw [← hq_]; exact zB⟩; clear BK101 HB hq_; have BK101 := n0_; have HB := n1_; clear n0_ n1_))) | ((with_reducible refine gate_callee (f := 81) rfl ?_); refine gv 17 Tryz.func81 _ (strings_TrimSuffix.calls (w := _) (h := A3.out)) ?_; rintro w' ⟨nd, rfl⟩; (try (rw [drewN_self w27]; generalize hq_ : World.drewN w27 _ = w27; have n0_ : Aside0 (w27.heap[gb101]? = some (.cells #[.string ⟨#[]⟩, .string ⟨#[]⟩] 32 (0, 0))) := ⟨by rw [← hq_]; exact (kQ BK101)⟩; have n1_ : Aside0 (Below w.heap.size w w27) := ⟨by rw [← hq_]; exact zB⟩; clear BK101 HB hq_; have BK101 := n0_; have HB := n1_; clear n0_ n1_))) | ((with_reducible refine gate_callee (f := 39) rfl ?_); refine gv 18 Tryz.func39 _ (strings_Cut.calls (w := _) (hG := gB) (h := A4.out)) ?_; rintro w' ⟨nd, rfl⟩; (try (rw [drewN_self w27]; generalize hq_ : World.drewN w27 _ = w27; have n0_ : Aside0 (w27.heap[gb101]? = some (.cells #[.string ⟨#[]⟩, .string ⟨#[]⟩] 32 (0, 0))) := ⟨by rw [← hq_]; exact (kQ BK101)⟩; have n1_ : Aside0 (Below w.heap.size w w27) := ⟨by rw [← hq_]; exact zB⟩; clear BK101 HB hq_; have BK101 := n0_; have HB := n1_; clear n0_ n1_))) | ((with_reducible refine gate_dst (N := 9) rfl ?_); refine bx (cs := #[.string ⟨#[]⟩, .string ⟨#[]⟩]) (t := 32) ?_; intro gb108 hg w28 hbox hb; have BK108 := Aside0.mk (hbox); have GW108 := gS hg; have GE108 := gS hg; have NB101_108 := nS hg BK101; have NB108_101 := nG hg BK101; replace BK101 := kS BK101 hb; replace HB := bS hb; clear hb hbox hg; have hnb29 := NB108_101.out; have hnc29 := NB101_108.out; have hcz30 := cz2 BK108.out; have hfz30 := fz2 BK108.out) | (go_at_call 72; refine (impl_Addr_sender.calls (w := _) (hG := gB) (h := A6.out)).mono ?_; rintro e w31 ⟨rfl, hb⟩; replace BK101 := kS BK101 hb; replace BK108 := kP (.cells #[.string t105, .string t106] 32 (0, 0)) BK108 hb; replace HB := bS hb; clear hb; have hcz32 := cz2 BK101.out; have hfz32 := fz2 BK101.out))
   refine bodyPost_ret (results_ct rfl _ _ gb101 32 #[.string (⟨#[]⟩ : ByteArray), .string (⟨#[]⟩ : ByteArray)] (0, 0) _ rfl (kQ BK101) Tryz.underlying32 rfl (by kernel_rfl)) rfl ?_
   exact ⟨zr, zB⟩
 ·simp only [Option.some.injEq, Prod.mk.injEq] at H
  obtain ⟨rfl, rfl, rfl⟩ := H
  go_enter Tryz.func43, Tryz.ntmps43
  go_wp2_with (first | ((with_reducible refine gate_dst (N := 2) rfl ?_); refine bx (cs := #[.string ⟨#[]⟩, .string ⟨#[]⟩]) (t := 32) ?_; intro gb101 hg w33 hbox hb; have BK101 := Aside0.mk (hbox); have GW101 := gS hg; have GE101 := gS hg; replace HB := bS hb; clear hb hbox hg) | ((with_reducible refine gate_callee (f := 80) rfl ?_); refine gv 12 Tryz.func80 _ (strings_CutPrefix.calls (w := _) (h := A2.out)) ?_; rintro w' ⟨nd, rfl⟩; (try (rw [drewN_self w33]; generalize hq_ : World.drewN w33 _ = w33; have n0_ : Aside0 (w33.heap[gb101]? = some (.cells #[.string ⟨#[]⟩, .string ⟨#[]⟩] 32 (0, 0))) := ⟨by rw [← hq_]; exact (kQ BK101)⟩; have n1_ : Aside0 (Below w.heap.size w w33) := ⟨by rw [← hq_]; exact zB⟩; clear BK101 HB hq_; have BK101 := n0_; have HB := n1_; clear n0_ n1_))) | ((with_reducible refine gate_callee (f := 81) rfl ?_); refine gv 17 Tryz.func81 _ (strings_TrimSuffix.calls (w := _) (h := A3.out)) ?_; rintro w' ⟨nd, rfl⟩; (try (rw [drewN_self w33]; generalize hq_ : World.drewN w33 _ = w33; have n0_ : Aside0 (w33.heap[gb101]? = some (.cells #[.string ⟨#[]⟩, .string ⟨#[]⟩] 32 (0, 0))) := ⟨by rw [← hq_]; exact (kQ BK101)⟩; have n1_ : Aside0 (Below w.heap.size w w33) := ⟨by rw [← hq_]; exact zB⟩; clear BK101 HB hq_; have BK101 := n0_; have HB := n1_; clear n0_ n1_))) | ((with_reducible refine gate_callee (f := 39) rfl ?_); refine gv 18 Tryz.func39 _ (strings_Cut.calls (w := _) (hG := gB) (h := A4.out)) ?_; rintro w' ⟨nd, rfl⟩; (try (rw [drewN_self w33]; generalize hq_ : World.drewN w33 _ = w33; have n0_ : Aside0 (w33.heap[gb101]? = some (.cells #[.string ⟨#[]⟩, .string ⟨#[]⟩] 32 (0, 0))) := ⟨by rw [← hq_]; exact (kQ BK101)⟩; have n1_ : Aside0 (Below w.heap.size w w33) := ⟨by rw [← hq_]; exact zB⟩; clear BK101 HB hq_; have BK101 := n0_; have HB := n1_; clear n0_ n1_))) | ((with_reducible refine gate_dst (N := 9) rfl ?_); refine bx (cs := #[.string ⟨#[]⟩, .string ⟨#[]⟩]) (t := 32) ?_; intro gb108 hg w34 hbox hb; have BK108 := Aside0.mk (hbox); have GW108 := gS hg; have GE108 := gS hg; have NB101_108 := nS hg BK101; have NB108_101 := nG hg BK101; replace BK101 := kS BK101 hb; replace HB := bS hb; clear hb hbox hg; have hnb35 := NB108_101.out; have hnc35 := NB101_108.out; have hcz36 := cz2 BK108.out; have hfz36 := fz2 BK108.out; have hcz37 := cz2 BK101.out; have hfz37 := fz2 BK101.out))
  refine bodyPost_ret (results_ct rfl _ _ gb101 32 #[.string (⟨#[]⟩ : ByteArray), .string (⟨#[]⟩ : ByteArray)] (0, 0) _ rfl (kQ BK101) Tryz.underlying32 rfl (by kernel_rfl)) rfl ?_
  exact ⟨zr, zB⟩
end Go.Proofs.YtbncnjgflhoneaaGreatDoor.F
namespace Go.Proofs.YtbncnjgflhoneaaGreatDoor.F
open Go.RowKit Go.Proofs.YtbncnjgflhoneaaGreatDoor.Hand Go.Proofs.YtbncnjgflhoneaaGreatDoorW.PrintWords Go.Proofs.YtbncnjgflhoneaaGreatDoorW.PrintLast Go.Proofs.YtbncnjgflhoneaaGreatDoorW.PrintMore
set_option linter.unusedVariables false
set_option linter.unusedSimpArgs false
def impl_split.l0 : Nat → ByteArray → List ByteArray → Option (List ByteArray × ByteArray)
 | 0, _, _ => none
 | k + 1, x0, x4 => (strings_Cut.f x0 (⟨#[13, 10]⟩ : ByteArray)).bind fun bt101 => (if bt101.2.2 = true then (if x4.length < 8796093022208 then (impl_split.l0 k bt101.2.1 (x4 ++ [bt101.1])) else (none)) else (some (x4, x0)))
def impl_split.f (k : Nat) (a0 : ByteArray) : Option (List ByteArray × ByteArray) := impl_split.l0 k a0 ([] : List ByteArray)
set_option maxHeartbeats 8000000 in
set_option maxRecDepth 100000 in
theorem impl_split.calls (k : Nat) (a0 : ByteArray) (r1 : List ByteArray) (r2 : ByteArray) (w : World) (hG : Laid w) (h : impl_split.f k a0 = some (r1, r2)) :
  Calls Tryz.prog 158 #[.string a0] w fun e w' => ∃ v0_ : Value, e = .returned (.tuple #[v0_, .string r2]) ∧ Kd.R Kd.string 9 w' w.heap.size (fun _ => True) v0_ r1 ∧ Below w.heap.size w w' := by
 have HG := Aside0.mk hG
 clear hG
 have HB := Aside0.mk (Below.refl w.heap.size w)
 have H := h
 clear h
 unfold impl_split.f at H
 have H' := Aside0.mk H
 clear H
 go_enter Tryz.func158, Tryz.ntmps158
 go_wp2
 go_loopg [0, 4] k (fun kq v0 v4 w' => ∃ (x0_1 : ByteArray) (x4_1 : List ByteArray), v0 = .string x0_1 ∧ Aside0 (impl_split.l0 kq x0_1 x4_1 = some (r1, r2)) ∧ Aside0 (kq ≤ k) ∧ Aside0 (Kd.R Kd.string 9 w' w.heap.size (fun _ => True) v4 x4_1) ∧ Aside0 (Below w.heap.size w w'))
 case atStart => exact ⟨(a0), (([] : List ByteArray)), zs, H', ⟨Nat.le_refl _⟩, ⟨zn⟩, ⟨zB⟩⟩
 case round =>
  clear H'
  obtain ⟨x0_1, x4_1, rfl, HA, HK1, HO_4, HB⟩ := hrel
  cases gk with
  | zero => exact absurd HA.out (by simp [impl_split.l0])
  | succ k1 =>
   have H := HA.out
   clear HA
   simp only [impl_split.l0] at H
   replace H := bnd H; obtain ⟨⟨t101, t102, t103⟩, A2, H⟩ := H
   dsimp only at H
   replace H := itb H; rcases H with ⟨rfl, H⟩ | ⟨rfl, H⟩
   ·replace H := itn_L H; obtain ⟨LMc4, H⟩ := H
    first | (with_reducible replace H := bns H; obtain ⟨y104, Ny104, H⟩ := H) | (generalize hy_ : (x4_1 ++ [t101] : List ByteArray) = y104 at H; have Ny104 := Aside0.mk hy_.symm; clear hy_)
    have H' := Aside0.mk H
    clear H
    go_wp2_with (first | ((with_reducible refine gate_callee (f := 39) rfl ?_); refine gv 10 Tryz.func39 _ (strings_Cut.calls (w := _) (hG := gB) (h := A2.out)) ?_; rintro w' ⟨nd, rfl⟩) | ((with_reducible refine gate_builtin (b := .append) (xs := #[.tmp 18, .tmp 20]) rfl ?_); at_builtin; refine Kd.R_append Kd.string (w0 := w) w.heap.size rfl (.tmp 18) (.tmp 20) 25 9 (.string ⟨#[]⟩) 16 rfl Tryz.underlying25 info9 rfl z0_ (by omega) u4 x4_1 t101 [.string t101] (fun _ => True) (fun _ => False) rfl rfl ?aP (fun _ hk => hk.elim) ?aF ?aO ?aB ?aS ?aL ?_; (case aP => exact rfl); (case aB => exact zB); (case aF => exact (fun _ _ => trivial)); (case aO => exact (rO HO_4)); (case aS => exact (bZ)); (case aL => have := LMc4.out; omega); intro v105 w5 ho hb hg hat; rw [← Ny104.out] at ho; have n0_ := Aside0.mk (hb); have n1_ := Aside0.mk (ho); clear HB HO_4; have HB := n0_; have HO106 := n1_; clear n0_ n1_ ho hb hg hat))
    go_roundg k1
    case measure => have := HK1.out; omega
    case rel => exact ⟨(t102), (y104), zs, H', ⟨by have := HK1.out; omega⟩, ⟨rO HO106⟩, ⟨zB⟩⟩
   ·simp only [Option.some.injEq, Prod.mk.injEq] at H
    obtain ⟨rfl, rfl⟩ := H
    go_wp2_with (first | ((with_reducible refine gate_callee (f := 39) rfl ?_); refine gv 10 Tryz.func39 _ (strings_Cut.calls (w := _) (hG := gB) (h := A2.out)) ?_; rintro w' ⟨nd, rfl⟩))
    go_ret2
    exact ⟨_, zr, rO HO_4, zB⟩
end Go.Proofs.YtbncnjgflhoneaaGreatDoor.F
namespace Go.Proofs.YtbncnjgflhoneaaGreatDoor.F
open Go.RowKit Go.Proofs.YtbncnjgflhoneaaGreatDoor.Hand Go.Proofs.YtbncnjgflhoneaaGreatDoorW.PrintWords Go.Proofs.YtbncnjgflhoneaaGreatDoorW.PrintLast Go.Proofs.YtbncnjgflhoneaaGreatDoorW.PrintMore
set_option linter.unusedVariables false
set_option linter.unusedSimpArgs false
def stringslite_TrimPrefix.f (a0 : ByteArray) (a1 : ByteArray) : Option (ByteArray) := (stringslite_HasPrefix.f a0 a1).bind fun t101 => (if t101 = true then (if 0 ≤ (a1.size : Int) then (if (a1.size : Int) ≤ (a0.size : Int) then (some (a0.extract ((a1.size : Int) : Int).toNat a0.size)) else (none)) else (none)) else (some a0))
set_option maxHeartbeats 8000000 in
set_option maxRecDepth 100000 in
theorem stringslite_TrimPrefix.calls (a0 : ByteArray) (a1 : ByteArray) (r : ByteArray) (w : World) (h : stringslite_TrimPrefix.f a0 a1 = some r) :
  Calls Tryz.prog 159 #[.string a0, .string a1] w fun e w' => e = .returned (.string r) ∧ Drawn0 w w' := by
 have H := h
 clear h
 unfold stringslite_TrimPrefix.f at H
 replace H := bnd H; obtain ⟨t101, A3, H⟩ := H
 replace H := itb H; rcases H with ⟨rfl, H⟩ | ⟨rfl, H⟩
 ·replace H := itn_ed H; obtain ⟨c5b0, c5b1, H⟩ := H
  replace H := itn_ed H; obtain ⟨c6b0, c6b1, H⟩ := H
  obtain rfl := Option.some.inj H
  go_enter Tryz.func159, Tryz.ntmps159
  go_wp2_with (first | ((with_reducible refine gate_callee (f := 139) rfl ?_); refine gv 7 Tryz.func139 _ (stringslite_HasPrefix.calls (w := _) (h := A3.out)) ?_; rintro w' ⟨nd, rfl⟩))
  go_ret
  exact ⟨zs, zD⟩
 ·obtain rfl := Option.some.inj H
  go_enter Tryz.func159, Tryz.ntmps159
  go_wp2_with (first | ((with_reducible refine gate_callee (f := 139) rfl ?_); refine gv 7 Tryz.func139 _ (stringslite_HasPrefix.calls (w := _) (h := A3.out)) ?_; rintro w' ⟨nd, rfl⟩))
  go_ret
  exact ⟨zs, zD⟩
def strings_TrimPrefix.f (a0 : ByteArray) (a1 : ByteArray) : Option (ByteArray) := (stringslite_TrimPrefix.f a0 a1).bind fun t101 => (some t101)
set_option maxHeartbeats 8000000 in
set_option maxRecDepth 100000 in
theorem strings_TrimPrefix.calls (a0 : ByteArray) (a1 : ByteArray) (r : ByteArray) (w : World) (h : strings_TrimPrefix.f a0 a1 = some r) :
  Calls Tryz.prog 120 #[.string a0, .string a1] w fun e w' => e = .returned (.string r) ∧ Drawn0 w w' := by
 have H := h
 clear h
 unfold strings_TrimPrefix.f at H
 replace H := bnd H; obtain ⟨t101, A3, H⟩ := H
 obtain rfl := Option.some.inj H
 go_enter Tryz.func120, Tryz.ntmps120
 go_wp2_with (first | ((with_reducible refine gate_callee (f := 159) rfl ?_); refine gv 7 Tryz.func159 _ (stringslite_TrimPrefix.calls (w := _) (h := A3.out)) ?_; rintro w' ⟨nd, rfl⟩))
 go_ret
 exact ⟨zs, zD⟩
end Go.Proofs.YtbncnjgflhoneaaGreatDoor.F
namespace Go.Proofs.YtbncnjgflhoneaaGreatDoor.Hand
open Go.RowKit Go.Proofs.YtbncnjgflhoneaaGreatDoor.F Go.Proofs.YtbncnjgflhoneaaGreatDoorW.PrintWords Go.Proofs.YtbncnjgflhoneaaGreatDoorW.PrintLast Go.Proofs.YtbncnjgflhoneaaGreatDoorW.PrintMore
theorem cut_nil (a : UInt8) (t : List UInt8) : Lib.cut [] (a :: t) = ([], [], false) := rfl
theorem cut_cons (b : UInt8) (l sep : List UInt8) : Lib.cut (b :: l) sep =
  if sep.isPrefixOf (b :: l) = true then ([], (b :: l).drop sep.length, true) else if (Lib.cut l sep).2.2 = true then (b :: (Lib.cut l sep).1, (Lib.cut l sep).2.1, true) else (b :: l, [], false) := by
 have hge := Lib.index_ge l sep
 by_cases hp : sep.isPrefixOf (b :: l) = true
 ·have e : Lib.index (b :: l) sep = 0 := by rw [Lib.index, if_pos hp]
  rw [if_pos hp]
  unfold Lib.cut
  rw [e, if_pos (by decide)]
  simp
 ·rw [if_neg hp]
  by_cases hm : Lib.index l sep = -1
  ·have e : Lib.index (b :: l) sep = -1 := by rw [Lib.index, if_neg hp, hm]; rfl
   unfold Lib.cut
   rw [e, hm]
   simp
  ·have e : Lib.index (b :: l) sep = Lib.index l sep + 1 := by rw [Lib.index, if_neg hp, if_neg (fun e => hm (beq_iff_eq.1 e))]
   obtain ⟨i, hi⟩ := Int.eq_ofNat_of_zero_le (a := Lib.index l sep) (by omega)
   unfold Lib.cut
   rw [e, hi, if_pos (show (0 : Int) ≤ (i : Int) + 1 by omega), if_pos (show (0 : Int) ≤ (i : Int) by omega), show ((i : Int) + 1).toNat = i + 1 by omega, Int.toNat_natCast, show i + 1 + sep.length = (i + sep.length) + 1 by omega]
   simp
theorem cut_one (c : UInt8) (b : List UInt8) : ∀ a : List UInt8, c ∉ a → Lib.cut (a ++ c :: b) [c] = (a, b, true)
 | [], _ => by
  rw [List.nil_append, cut_cons, if_pos (by simp)]
  simp
 | x :: a, h => by
  rw [List.mem_cons, not_or] at h
  rw [List.cons_append, cut_cons, if_neg (by simp; exact h.1), cut_one c b a h.2, if_pos rfl]
theorem cut_le (sep : List UInt8) : ∀ s : List UInt8, (Lib.cut s sep).1.length ≤ s.length ∧ (Lib.cut s sep).2.1.length ≤ s.length := fun s => by
 unfold Lib.cut
 split
 ·constructor
  ·rw [List.length_take]; omega
  ·rw [List.length_drop]; omega
 ·exact ⟨Nat.le_refl _, Nat.zero_le _⟩
theorem pcut_tells (s sep : ByteArray) (hs : s.size ≤ 1073741824) : strings_Cut.f s sep = some (B (Lib.cut s.data.toList sep.data.toList).1, B (Lib.cut s.data.toList sep.data.toList).2.1, (Lib.cut s.data.toList sep.data.toList).2.2) := by
 unfold strings_Cut.f
 rw [if_pos (by omega)]
 rfl
def frontP (p : List UInt8) : List (List UInt8) × List UInt8 → List (List UInt8) × List UInt8
 | ([], t) => ([], p ++ t)
 | (x :: ls, t) => ((p ++ x) :: ls, t)
def crlf : List UInt8 → List (List UInt8) × List UInt8
 | [] => ([], [])
 | [a] => ([], [a])
 | a :: b :: l => if a = 13 ∧ b = 10 then ([] :: (crlf l).1, (crlf l).2) else frontP [a] (crlf (b :: l))
theorem crlf_cut : ∀ s : List UInt8, crlf s = if (Lib.cut s [13, 10]).2.2 = true then ((Lib.cut s [13, 10]).1 :: (crlf (Lib.cut s [13, 10]).2.1).1, (crlf (Lib.cut s [13, 10]).2.1).2) else ([], s)
 | [] => rfl
 | [a] => by
  have e : Lib.cut [a] [13, 10] = ([a], [], false) := by rw [cut_cons, if_neg (by simp [List.isPrefixOf])]; rfl
  rw [e]
  rfl
 | a :: b :: l => by
  rw [crlf]
  by_cases h : a = 13 ∧ b = 10
  ·obtain ⟨rfl, rfl⟩ := h
   have e : Lib.cut (13 :: 10 :: l) [13, 10] = ([], l, true) := by rw [cut_cons, if_pos (by simp)]; rfl
   rw [if_pos ⟨rfl, rfl⟩, e]
   rfl
  ·have e := cut_cons a (b :: l) [13, 10]
   rw [if_neg (by simp only [List.isPrefixOf]; simp; exact fun e1 e2 => h ⟨e1.symm, e2.symm⟩)] at e
   rw [if_neg h, e, crlf_cut (b :: l)]
   obtain ⟨p, q, t⟩ := Lib.cut (b :: l) [13, 10]
   cases t <;> rfl
theorem cut_less (s : List UInt8) (h : (Lib.cut s [13, 10]).2.2 = true) : (Lib.cut s [13, 10]).2.1.length + 2 ≤ s.length := by
 have hr := Lib.index_room s [13, 10]
 unfold Lib.cut at h ⊢
 split at h
 ·rename_i hi
  rw [if_pos hi]
  have := hr hi
  simp only [List.length_cons, List.length_nil] at this
  show (s.drop _).length + 2 ≤ _
  rw [List.length_drop]
  simp only [List.length_cons, List.length_nil]
  omega
 ·cases h
theorem isplit_from : ∀ (n : Nat) (s : ByteArray) (acc : List ByteArray), s.size ≤ n → n ≤ 1073741824 → acc.length + n ≤ 2147483648 →
  Ev (fun k => impl_split.l0 k s acc) (acc ++ (crlf s.data.toList).1.map B, B (crlf s.data.toList).2) := by
 intro n
 induction n with
 | zero =>
  intro s acc hs _ _
  have hd : s.data.toList = [] := List.eq_nil_of_length_eq_zero (by rw [data_length]; omega)
  refine Ev.step (f := fun _ => some (acc, s)) (fun k => ?_) ?_
  ·rw [impl_split.l0, pcut_tells s _ (by omega), Option.bind_some, hd]
   exact if_neg (by decide)
  ·rw [hd]
   have : s = B [] := eq_B hd
   rw [this]
   simpa [crlf] using Ev.now (acc, B [])
 | succ n ih =>
  intro s acc hs hn ha
  rw [crlf_cut]
  have hle := cut_le [13, 10] s.data.toList
  rw [len_size] at hle
  by_cases hf : (Lib.cut s.data.toList [13, 10]).2.2 = true
  ·have hlt := cut_less _ hf
   rw [len_size] at hlt
   refine Ev.step (f := fun k => impl_split.l0 k (B (Lib.cut s.data.toList [13, 10]).2.1) (acc ++ [B (Lib.cut s.data.toList [13, 10]).1])) (fun k => ?_) ?_
   ·rw [impl_split.l0, pcut_tells s _ (by omega), Option.bind_some]
    exact (if_pos hf).trans (if_pos (by omega))
   ·have h := ih (B (Lib.cut s.data.toList [13, 10]).2.1) (acc ++ [B (Lib.cut s.data.toList [13, 10]).1]) (by rw [B_size]; omega) (by omega) (by rw [List.length_append, List.length_singleton]; omega)
    rw [B_data] at h
    rw [if_pos hf, List.map_cons]
    simpa using h
  ·refine Ev.step (f := fun _ => some (acc, s)) (fun k => ?_) ?_
   ·rw [impl_split.l0, pcut_tells s _ (by omega), Option.bind_some]
    exact if_neg hf
   ·rw [if_neg hf, List.map_nil, List.append_nil, B_of]
    exact Ev.now _
theorem isplit_tells (s : ByteArray) (hs : s.size ≤ 1073741824) : Ev (fun k => impl_split.f k s) ((crlf s.data.toList).1.map B, B (crlf s.data.toList).2) := by
 have h := isplit_from s.size s [] (Nat.le_refl _) hs (by simp; omega)
 rw [List.nil_append] at h
 exact h
theorem crlf_line : ∀ (a s : List UInt8), 13 ∉ a → crlf (a ++ 13 :: 10 :: s) = (a :: (crlf s).1, (crlf s).2)
 | [], s, _ => by rw [List.nil_append, crlf, if_pos ⟨rfl, rfl⟩]
 | [x], s, h => by
  have hx : ¬ x = 13 := fun e => h (by simp [e])
  show crlf (x :: 13 :: 10 :: s) = _
  rw [crlf, if_neg (fun e => hx e.1), crlf, if_pos ⟨rfl, rfl⟩]
  rfl
 | x :: y :: a, s, h => by
  have hx : ¬ x = 13 := fun e => h (by simp [e])
  have ih := crlf_line (y :: a) s (fun e => h (List.mem_cons_of_mem _ e))
  show crlf (x :: y :: (a ++ 13 :: 10 :: s)) = _
  rw [crlf, if_neg (fun e => hx e.1)]
  have ih' : crlf (y :: (a ++ 13 :: 10 :: s)) = ((y :: a) :: (crlf s).1, (crlf s).2) := ih
  rw [ih']
  rfl
theorem frontP_le (p : List UInt8) (x : List (List UInt8) × List UInt8) (n : Nat) (h : x.1.length ≤ n ∧ (∀ l ∈ x.1, l.length ≤ n) ∧ x.2.length ≤ n) : (frontP p x).1.length ≤ n ∧ (∀ l ∈ (frontP p x).1, l.length ≤ n + p.length) ∧ (frontP p x).2.length ≤ n + p.length := by
 obtain ⟨l, t⟩ := x
 obtain ⟨h1, h2, h3⟩ := h
 cases l with
 | nil =>
  refine ⟨h1, ?_, ?_⟩
  ·intro l hl
   cases hl
  ·simp only [frontP, List.length_append]
   have h3 : t.length ≤ n := h3
   omega
 | cons y l =>
  refine ⟨h1, fun z hz => ?_, by
   have h3 : t.length ≤ n := h3
   show t.length ≤ _
   omega⟩
  simp only [frontP, List.mem_cons] at hz
  rcases hz with rfl | hz
  ·have := h2 y (by simp)
   rw [List.length_append]
   omega
  ·have := h2 z (by simp [hz])
   omega
theorem crlf_le : ∀ s : List UInt8, (crlf s).1.length ≤ s.length ∧ (∀ l ∈ (crlf s).1, l.length ≤ s.length) ∧ (crlf s).2.length ≤ s.length
 | [] => ⟨Nat.le_refl _, fun l hl => absurd (show l ∈ ([] : List (List UInt8)) from hl) (by simp), Nat.le_refl _⟩
 | [a] => ⟨Nat.zero_le _, fun l hl => absurd (show l ∈ ([] : List (List UInt8)) from hl) (by simp), Nat.le_refl _⟩
 | a :: b :: l => by
  rw [crlf]
  by_cases h : a = 13 ∧ b = 10
  ·rw [if_pos h]
   obtain ⟨h1, h2, h3⟩ := crlf_le l
   refine ⟨by simp only [List.length_cons]; omega, fun x hx => ?_, by simp only [List.length_cons]; omega⟩
   simp only [List.mem_cons] at hx
   rcases hx with rfl | hx
   ·exact Nat.zero_le _
   ·have := h2 x hx
    simp only [List.length_cons]
    omega
  ·rw [if_neg h]
   have ih := crlf_le (b :: l)
   obtain ⟨h1, h2, h3⟩ := frontP_le [a] (crlf (b :: l)) _ ih
   refine ⟨by simp only [List.length_cons] at h1 ⊢; omega, fun x hx => ?_, ?_⟩
   ·have := h2 x hx
    simp only [List.length_cons, List.length_nil] at this ⊢
    omega
   ·simp only [List.length_cons, List.length_nil] at h3 ⊢
    omega
end Go.Proofs.YtbncnjgflhoneaaGreatDoor.Hand
namespace Go.Proofs.YtbncnjgflhoneaaGreatDoor.Hand
open Go.RowKit Go.Proofs.YtbncnjgflhoneaaGreatDoor.F Go.Proofs.YtbncnjgflhoneaaGreatDoorW.PrintWords Go.Proofs.YtbncnjgflhoneaaGreatDoorW.PrintLast Go.Proofs.YtbncnjgflhoneaaGreatDoorW.PrintMore
theorem hasPrefix_one (s : ByteArray) (c : UInt8) : stringslite_HasPrefix.f s (⟨#[c]⟩ : ByteArray) = some (decide (s.data.toList.head? = some c)) := by
 have hl := data_length s
 have h1 : ((⟨#[c]⟩ : ByteArray).size : Int) = 1 := rfl
 have h2 : (⟨#[c]⟩ : ByteArray).toList = [c] := toL _
 unfold stringslite_HasPrefix.f
 rw [h1, h2]
 cases hd : s.data.toList with
 | nil =>
  rw [hd] at hl
  rw [if_neg (by simp at hl; omega)]
  rfl
 | cons x r =>
  rw [hd, List.length_cons] at hl
  rw [if_pos (by omega), if_pos (by decide), if_pos (by omega)]
  have e : (s.extract 0 (1 : Int).toNat).toList = [x] := by
   rw [toL, extract_data', hd]
   rfl
  rw [e]
  refine congrArg some ?_
  by_cases hx : x = c
  ·subst hx; simp
  ·rw [show ([x] == [c]) = false by simp [hx]]; simp [hx]
theorem tail_of (s : ByteArray) : s.extract 1 s.size = B s.data.toList.tail := by
 refine eq_B ?_
 rw [extract_data', List.take_of_length_le (by rw [data_length]; exact Nat.le_refl _), List.drop_one]
theorem cutPrefix_one (s : ByteArray) (c : UInt8) : strings_CutPrefix.f s (⟨#[c]⟩ : ByteArray) = some (if s.data.toList.head? = some c then (B s.data.toList.tail, true) else (s, false)) := by
 have hl := data_length s
 have h1 : ((⟨#[c]⟩ : ByteArray).size : Int) = 1 := rfl
 unfold strings_CutPrefix.f stringslite_CutPrefix.f
 rw [hasPrefix_one, Option.bind_some, h1]
 by_cases h : s.data.toList.head? = some c
 ·have hs : 1 ≤ s.size := by
   cases hd : s.data.toList with
   | nil => rw [hd] at h; cases h
   | cons x r => rw [hd, List.length_cons] at hl; omega
  rw [if_pos (decide_eq_true h), if_pos (by decide), if_pos (by omega), if_pos h, show (1 : Int).toNat = 1 from rfl, tail_of]
  rfl
 ·rw [if_neg (by simpa using h), if_neg h]
  rfl
theorem trimPrefix_one (s : ByteArray) (c : UInt8) : strings_TrimPrefix.f s (⟨#[c]⟩ : ByteArray) = some (B (if s.data.toList.head? = some c then s.data.toList.tail else s.data.toList)) := by
 have hl := data_length s
 have h1 : ((⟨#[c]⟩ : ByteArray).size : Int) = 1 := rfl
 unfold strings_TrimPrefix.f stringslite_TrimPrefix.f
 rw [hasPrefix_one, Option.bind_some, h1]
 by_cases h : s.data.toList.head? = some c
 ·have hs : 1 ≤ s.size := by
   cases hd : s.data.toList with
   | nil => rw [hd] at h; cases h
   | cons x r => rw [hd, List.length_cons] at hl; omega
  rw [if_pos (decide_eq_true h), if_pos (by decide), if_pos (by omega), if_pos h, show (1 : Int).toNat = 1 from rfl, tail_of]
  rfl
 ·rw [if_neg (by simpa using h), if_neg h, B_of]
  rfl
def chop (c : UInt8) (l : List UInt8) : List UInt8 := if l.getLast? = some c then l.dropLast else l
theorem chop_le (c : UInt8) (l : List UInt8) : (chop c l).length ≤ l.length := by
 unfold chop
 split
 ·rw [List.length_dropLast]; omega
 ·exact Nat.le_refl _
theorem trimSuffix_one (s : ByteArray) (hs : s.size ≤ 1073741824) (c : UInt8) : strings_TrimSuffix.f s (⟨#[c]⟩ : ByteArray) = some (B (chop c s.data.toList)) := by
 have hl := data_length s
 have h1 : ((⟨#[c]⟩ : ByteArray).size : Int) = 1 := rfl
 have h2 : (⟨#[c]⟩ : ByteArray).toList = [c] := toL _
 unfold strings_TrimSuffix.f stringslite_TrimSuffix.f stringslite_HasSuffix.f chop
 rw [h1, h2]
 by_cases h0 : s.size = 0
 ·have hd : s.data.toList = [] := List.eq_nil_of_length_eq_zero (by omega)
  rw [if_neg (by omega), hd]
  have : s = B [] := eq_B hd
  rw [this]
  rfl
 ·rw [if_pos (by omega), wrapIn (x := (s.size : Int) - 1) (by omega) (by omega), if_pos (by omega), if_pos (by omega), show ((s.size : Int) - 1).toNat = s.size - 1 by omega]
  have hne : s.data.toList ≠ [] := fun e => h0 (by rw [e] at hl; simpa using hl.symm)
  have e : (s.extract (s.size - 1) s.size).toList = [s.data.toList.getLast hne] := by
   have e' : s.data.toList = s.data.toList.dropLast ++ [s.data.toList.getLast hne] := (List.dropLast_concat_getLast hne).symm
   rw [toL, extract_data', List.take_of_length_le (by omega)]
   exact (congrArg (List.drop (s.size - 1)) e').trans (List.drop_left' (by rw [List.length_dropLast]; omega))
  rw [e, List.getLast?_eq_some_getLast hne]
  by_cases hx : s.data.toList.getLast hne = c
  ·rw [hx, Option.bind_some, if_pos (by simp), if_pos rfl]
   have e2 : s.extract 0 (s.size - 1) = B s.data.toList.dropLast := by
    refine eq_B ?_
    rw [extract_data', List.drop_zero, List.dropLast_eq_take, hl]
   rw [e2, if_pos (show 0 ≤ (s.size : Int) - 1 by omega), if_pos (show (s.size : Int) - 1 ≤ (s.size : Int) by omega)]
   rfl
  ·rw [show ([s.data.toList.getLast hne] == [c]) = false from beq_eq_false_iff_ne.2 (fun e => hx (List.cons.inj e).1), Option.bind_some, if_neg (by decide), if_neg (fun e => hx (Option.some.inj e)), B_of]
   rfl
theorem cutAt_mem (c x : UInt8) : ∀ l : List UInt8, x ∈ l → x = c ∨ ∃ p ∈ cutAt c l, x ∈ p
 | [], h => by cases h
 | a :: l, h => by
  rw [cutAt]
  by_cases e : a = c
  ·rw [if_pos e]
   rcases List.mem_cons.1 h with rfl | h
   ·exact .inl e
   ·rcases cutAt_mem c x l h with h | ⟨p, hp, hx⟩
    ·exact .inl h
    ·exact .inr ⟨p, List.mem_cons_of_mem _ hp, hx⟩
  ·rw [if_neg e]
   cases hq : cutAt c l with
   | nil => exact absurd hq (cutAt_ne c l)
   | cons y r =>
    rcases List.mem_cons.1 h with rfl | h
    ·exact .inr ⟨x :: y, by simp [front], by simp⟩
    ·rcases cutAt_mem c x l h with h | ⟨p, hp, hx⟩
     ·exact .inl h
     ·rw [hq] at hp
      rcases List.mem_cons.1 hp with rfl | hp
      ·exact .inr ⟨a :: p, by simp [front], by simp [hx]⟩
      ·exact .inr ⟨p, by simp [front, hp], hx⟩
def plainB (c : UInt8) : Bool := letterB c || c == 46 || c == 60 || c == 62 || c == 64
theorem label_signs {s : ByteArray} (h : labelB s = true) : ∀ x ∈ s.data.toList, letterB x = true := by
 unfold labelB at h
 rw [Bool.and_eq_true] at h
 exact fun x hx => List.all_eq_true.1 h.2 x hx
theorem labels_data (d : ByteArray) : (labelsOf d).map (·.data.toList) = cutAt 46 d.data.toList := split_one 46 d.size d (Nat.le_refl _)
theorem domain_signs {d : ByteArray} (h : domainB d = true) : ∀ x ∈ d.data.toList, letterB x = true ∨ x = 46 := by
 unfold domainB at h
 rw [Bool.and_eq_true] at h
 intro x hx
 rcases cutAt_mem 46 x _ hx with h1 | ⟨p, hp, hxp⟩
 ·exact .inr h1
 ·rw [← labels_data] at hp
  obtain ⟨s, hs, rfl⟩ := List.mem_map.1 hp
  exact .inl (label_signs (List.all_eq_true.1 h.1 s hs) x hxp)
theorem null_empty {u d : ByteArray} (h : nullB u d = true) : u = B [] ∧ d = B [] := by
 unfold nullB at h
 rw [Bool.and_eq_true] at h
 have h1 := eq_of_beq h.1
 have h2 := eq_of_beq h.2
 rw [toL] at h1 h2
 exact ⟨eq_B h1, eq_B h2⟩
theorem addr_signs {u d : ByteArray} (h : (nullB u d || addrB u d) = true) : ∀ x ∈ addrT u d, plainB x = true := by
 unfold addrT
 by_cases hn : nullB u d = true
 ·rw [if_pos hn]
  intro x hx
  simp at hx
  rcases hx with rfl | rfl <;> decide
 ·rw [if_neg hn]
  rw [Bool.eq_false_iff.2 hn, Bool.false_or] at h
  unfold addrB at h
  rw [Bool.and_eq_true] at h
  intro x hx
  simp only [List.mem_cons, List.mem_append, List.not_mem_nil, or_false] at hx
  unfold plainB
  rcases hx with rfl | hx | rfl | hx | rfl
  ·decide
  ·simp [label_signs h.1 x hx]
  ·decide
  ·rcases domain_signs h.2 x hx with e | e
   ·simp [e]
   ·simp [e]
  ·decide
theorem addr_parts {u d : ByteArray} (h : addrB u d = true) : nullB u d = false ∧ (64 : UInt8) ∉ u.data.toList ∧ (64 : UInt8) ∉ d.data.toList := by
 unfold addrB at h
 rw [Bool.and_eq_true] at h
 refine ⟨?_, fun hx => ?_, fun hx => ?_⟩
 ·rw [Bool.eq_false_iff]
  intro hn
  rw [(null_empty hn).1] at h
  exact absurd h.1 (by decide)
 ·exact absurd (label_signs h.1 _ hx) (by decide)
 ·rcases domain_signs h.2 _ hx with e | e
  ·exact absurd e (by decide)
  ·exact absurd e (by decide)
def innerI (l : List UInt8) : List UInt8 := chop 62 (if l.head? = some 60 then l.tail else l)
theorem innerI_le (l : List UInt8) : (innerI l).length ≤ l.length := by
 unfold innerI
 refine Nat.le_trans (chop_le _ _) ?_
 split
 ·rw [List.length_tail]; omega
 ·exact Nat.le_refl _
def addrI (l : List UInt8) : ByteArray × ByteArray × Bool :=
 if (decide (l.head? = some 60) && ((nullB (B (Lib.cut (innerI l) [64]).1) (B (Lib.cut (innerI l) [64]).2.1) || addrB (B (Lib.cut (innerI l) [64]).1) (B (Lib.cut (innerI l) [64]).2.1)) && decide (addrT (B (Lib.cut (innerI l) [64]).1) (B (Lib.cut (innerI l) [64]).2.1) = l))) = true
 then (B (Lib.cut (innerI l) [64]).1, B (Lib.cut (innerI l) [64]).2.1, true) else (B [], B [], false)
theorem iaddr_tells (s : ByteArray) (hs : s.size ≤ 536870912) : Ev (fun k => impl_AddrGet.f k s) (addrI s.data.toList) := by
 have hl := data_length s
 have hin := innerI_le s.data.toList
 have hc := cut_le [64] (innerI s.data.toList)
 unfold addrI
 generalize hu : B (Lib.cut (innerI s.data.toList) [64]).1 = u
 generalize hd : B (Lib.cut (innerI s.data.toList) [64]).2.1 = d
 have hus : u.size ≤ 1073741824 := by rw [← hu, B_size]; omega
 have hds : d.size ≤ 1073741824 := by rw [← hd, B_size]; omega
 have step : ∀ k, impl_AddrGet.f k s = (if decide (s.data.toList.head? = some 60) = true then ((impl_Addr_sender.f k u d).bind fun t109 => (if t109 = true then ((impl_Addr_text.f u d).bind fun t110 => (if t110.toList = s.toList then (some (u, d, true)) else (some ((⟨#[]⟩ : ByteArray), (⟨#[]⟩ : ByteArray), false)))) else (some ((⟨#[]⟩ : ByteArray), (⟨#[]⟩ : ByteArray), false)))) else (some ((⟨#[]⟩ : ByteArray), (⟨#[]⟩ : ByteArray), false))) := fun k => by
  unfold impl_AddrGet.f
  rw [cutPrefix_one, Option.bind_some]
  have e : (if s.data.toList.head? = some 60 then (B s.data.toList.tail, true) else (s, false)) = (B (if s.data.toList.head? = some 60 then s.data.toList.tail else s.data.toList), decide (s.data.toList.head? = some 60)) := by
   by_cases h : s.data.toList.head? = some 60
   ·rw [if_pos h, if_pos h, decide_eq_true h]
   ·rw [if_neg h, if_neg h, B_of, decide_eq_false h]
  rw [e]
  have hsz : (B (if s.data.toList.head? = some 60 then s.data.toList.tail else s.data.toList)).size ≤ 1073741824 := by
   rw [B_size]
   split
   ·rw [List.length_tail]; omega
   ·omega
  rw [trimSuffix_one _ hsz, Option.bind_some, B_data]
  have hq : chop 62 (if s.data.toList.head? = some 60 then s.data.toList.tail else s.data.toList) = innerI s.data.toList := rfl
  rw [hq, pcut_tells _ _ (by rw [B_size]; omega), Option.bind_some, B_data]
  show (if decide _ = true then ((impl_Addr_sender.f k (B (Lib.cut (innerI s.data.toList) [64]).1) (B (Lib.cut (innerI s.data.toList) [64]).2.1)).bind _) else _) = _
  rw [hu, hd]
 refine Ev.congr step ?_
 by_cases h60 : s.data.toList.head? = some 60
 ·rw [decide_eq_true h60, Bool.true_and]
  refine Ev.congr (fun k => if_pos rfl) ?_
  refine Ev.call (a := (nullB u d || addrB u d)) (Ev.exact (d.size + 2) fun k hk => sender_tells u d hds k hk) (h := fun _ => some (if ((nullB u d || addrB u d) && decide (addrT u d = s.data.toList)) = true then (u, d, true) else (B [], B [], false))) (fun k => ?_) (Ev.now _)
  cases hg : (nullB u d || addrB u d)
  ·rfl
  ·rw [if_pos rfl, ptext_tells u d hus hds, Option.bind_some, B_toList, toL, Bool.true_and]
   by_cases ht : addrT u d = s.data.toList
   ·rw [if_pos ht, if_pos (decide_eq_true ht)]
   ·rw [if_neg ht, if_neg (by simpa using ht)]
    rfl
 ·rw [decide_eq_false h60, Bool.false_and]
  exact Ev.congr (fun k => if_neg (by decide)) (Ev.now _)
theorem addrI_le (l : List UInt8) : (addrI l).1.size ≤ l.length ∧ (addrI l).2.1.size ≤ l.length := by
 have hin := innerI_le l
 have hc := cut_le [64] (innerI l)
 unfold addrI
 split
 ·exact ⟨by rw [B_size]; omega, by rw [B_size]; omega⟩
 ·exact ⟨Nat.zero_le _, Nat.zero_le _⟩
theorem addrI_text {u d : ByteArray} (h : (nullB u d || addrB u d) = true) : addrI (addrT u d) = (u, d, true) := by
 have key : Lib.cut (innerI (addrT u d)) [64] = (u.data.toList, d.data.toList, (Lib.cut (innerI (addrT u d)) [64]).2.2) ∧ (addrT u d).head? = some 60 := by
  cases hn : nullB u d
  ·rw [hn, Bool.false_or] at h
   obtain ⟨_, h1, _⟩ := addr_parts h
   have e : addrT u d = 60 :: (u.data.toList ++ 64 :: (d.data.toList ++ [62])) := by unfold addrT; rw [if_neg (by rw [hn]; decide)]
   have e2 : innerI (addrT u d) = u.data.toList ++ 64 :: d.data.toList := by
    rw [e]
    unfold innerI
    rw [if_pos (by rfl), List.tail_cons, show u.data.toList ++ 64 :: (d.data.toList ++ [62]) = (u.data.toList ++ 64 :: d.data.toList) ++ [62] by simp]
    unfold chop
    rw [List.getLast?_concat, if_pos rfl, List.dropLast_concat]
   rw [e2, cut_one 64 _ _ h1, e]
   exact ⟨rfl, rfl⟩
  ·obtain ⟨rfl, rfl⟩ := null_empty hn
   have e : addrT (B []) (B []) = [60, 62] := if_pos hn
   rw [e]
   exact ⟨rfl, rfl⟩
 unfold addrI
 rw [key.1, key.2]
 show (if (decide (some (60 : UInt8) = some 60) && ((nullB (B u.data.toList) (B d.data.toList) || addrB (B u.data.toList) (B d.data.toList)) && decide (addrT (B u.data.toList) (B d.data.toList) = addrT u d))) = true then (B u.data.toList, B d.data.toList, true) else _) = _
 rw [B_of, B_of, h, if_pos (by simp)]
theorem cutAt_no (c : UInt8) : ∀ l : List UInt8, c ∉ l → cutAt c l = [l]
 | [], _ => rfl
 | a :: l, h => by
  rw [List.mem_cons, not_or] at h
  rw [cutAt, if_neg (fun e => h.1 e.symm), cutAt_no c l h.2]
  rfl
theorem cutAt_one (c : UInt8) (b : List UInt8) : ∀ a : List UInt8, c ∉ a → cutAt c (a ++ c :: b) = a :: cutAt c b
 | [], _ => by rw [List.nil_append, cutAt, if_pos rfl]
 | x :: a, h => by
  rw [List.mem_cons, not_or] at h
  rw [List.cons_append, cutAt, if_neg (fun e => h.1 e.symm), cutAt_one c b a h.2]
  rfl
theorem front_le (p : List UInt8) (L : List (List UInt8)) (n : Nat) (h : ∀ x ∈ L, x.length ≤ n) : ∀ x ∈ front p L, x.length ≤ n + p.length := by
 cases L with
 | nil => intro x hx; simp only [front, List.mem_singleton] at hx; subst hx; omega
 | cons y r =>
  intro x hx
  simp only [front, List.mem_cons] at hx
  rcases hx with rfl | hx
  ·have := h y (by simp)
   rw [List.length_append]; omega
  ·have := h x (by simp [hx])
   omega
end Go.Proofs.YtbncnjgflhoneaaGreatDoor.Hand
namespace Go.Proofs.YtbncnjgflhoneaaGreatDoor.F
open Go.RowKit Go.Proofs.YtbncnjgflhoneaaGreatDoor.Hand Go.Proofs.YtbncnjgflhoneaaGreatDoorW.PrintWords Go.Proofs.YtbncnjgflhoneaaGreatDoorW.PrintLast Go.Proofs.YtbncnjgflhoneaaGreatDoorW.PrintMore
set_option linter.unusedVariables false
set_option linter.unusedSimpArgs false
def impl_LinesOf.f (k : Nat) (a0 : ByteArray) : Option (List ByteArray × ByteArray) := if (a0.size : Int) > 800 then (some (([] : List ByteArray), (⟨#[]⟩ : ByteArray))) else ((impl_split.f k a0).bind fun bt101 => (some (bt101.1, bt101.2)))
set_option maxHeartbeats 8000000 in
set_option maxRecDepth 100000 in
theorem impl_LinesOf.calls (k : Nat) (a0 : ByteArray) (r1 : List ByteArray) (r2 : ByteArray) (w : World) (hG : Laid w) (h : impl_LinesOf.f k a0 = some (r1, r2)) :
  Calls Tryz.prog 119 #[.string a0] w fun e w' => ∃ v0_ : Value, e = .returned (.tuple #[v0_, .string r2]) ∧ Kd.R Kd.string 9 w' w.heap.size (fun _ => True) v0_ r1 ∧ Below w.heap.size w w' := by
 have HG := Aside0.mk hG
 clear hG
 have HB := Aside0.mk (Below.refl w.heap.size w)
 have H := h
 clear h
 unfold impl_LinesOf.f at H
 replace H := its_cd_cd H; rcases H with ⟨c2, c2b0, H⟩ | ⟨c2, c2b0, H⟩
 ·have c2b1 : decide (800 < a0.size) = true := decide_eq_true (by omega)
  clear c2
  simp only [Option.some.injEq, Prod.mk.injEq] at H
  obtain ⟨rfl, rfl⟩ := H
  go_enter Tryz.func119, Tryz.ntmps119
  go_wp2
  go_ret2
  exact ⟨_, zr, zn, zB⟩
 ·have c2b1 : decide (800 < a0.size) = false := decide_eq_false (by omega)
  clear c2
  replace H := bnd H; obtain ⟨⟨t101, t102⟩, A3, H⟩ := H
  dsimp only at H
  simp only [Option.some.injEq, Prod.mk.injEq] at H
  obtain ⟨rfl, rfl⟩ := H
  go_enter Tryz.func119, Tryz.ntmps119
  go_wp2_with (first | ((with_reducible refine gate_callee (f := 158) rfl ?_); refine gl 8 Tryz.func158 _ ((impl_split.calls (w := _) (hG := gB) (h := A3.out)).mono ?_); rintro e w4 ⟨v103, rfl, ho0, hb⟩; refine ⟨_, rfl, ?_⟩; have HO104 := lS ho0; replace HB := bS hb; clear hb ho0))
  go_ret2
  exact ⟨_, zr, rO HO104, zB⟩
def impl_DotPut.f (l0 : List ByteArray) : Option (ByteArray) := (impl_isBody.f l0).bind fun t101 => (if t101 = true then ((impl_dotted.f l0).bind fun t102 => (some t102)) else (some (⟨#[]⟩ : ByteArray)))
set_option maxHeartbeats 8000000 in
set_option maxRecDepth 100000 in
theorem impl_DotPut.calls (A0 : Option Addr) (c0 : Nat) (l0 : List ByteArray) (r : ByteArray) (w : World) (hr0 : Kd.C Kd.string w A0 l0.length l0) (hc0 : l0.length ≤ c0) (h : impl_DotPut.f l0 = some r) :
  Calls Tryz.prog 121 #[.slice A0 l0.length c0] w fun e w' => e = .returned (.string r) ∧ Below w.heap.size w w' := by
 have HR0 := Aside0.mk hr0
 have HC0 := Aside0.mk hc0
 clear hr0 hc0
 have HB := Aside0.mk (Below.refl w.heap.size w)
 have H := h
 clear h
 unfold impl_DotPut.f at H
 replace H := bnd H; obtain ⟨t101, A2, H⟩ := H
 replace H := itb H; rcases H with ⟨rfl, H⟩ | ⟨rfl, H⟩
 ·replace H := bnd H; obtain ⟨t102, A4, H⟩ := H
  obtain rfl := Option.some.inj H
  go_enter Tryz.func121, Tryz.ntmps121
  go_wp2_with (first | ((with_reducible refine gate_callee (f := 75) rfl ?_); refine gv 4 Tryz.func75 #[.slice A0 l0.length c0] (impl_isBody.calls (w := _) (hr0 := by repeat (first | exact HR0.out | (with_reducible refine Kd.C_alloc ?_ _) | (with_reducible refine Kd.C_drewN ?_ _) | (with_reducible refine Kd.C_drew ?_))) (_hc0 := HC0.out) (h := A2.out)) ?_; rintro w' ⟨nd, rfl⟩) | ((with_reducible refine gate_callee (f := 65) rfl ?_); refine gv 7 Tryz.func65 #[.slice A0 l0.length c0] (impl_dotted.calls (w := _) (hr0 := by repeat (first | exact HR0.out | (with_reducible refine Kd.C_alloc ?_ _) | (with_reducible refine Kd.C_drewN ?_ _) | (with_reducible refine Kd.C_drew ?_))) (_hc0 := HC0.out) (h := A4.out)) ?_; intro w5 hb; replace HB := bS hb; clear hb))
  go_ret
  exact ⟨zr, zB⟩
 ·obtain rfl := Option.some.inj H
  go_enter Tryz.func121, Tryz.ntmps121
  go_wp2_with (first | ((with_reducible refine gate_callee (f := 75) rfl ?_); refine gv 4 Tryz.func75 #[.slice A0 l0.length c0] (impl_isBody.calls (w := _) (hr0 := by repeat (first | exact HR0.out | (with_reducible refine Kd.C_alloc ?_ _) | (with_reducible refine Kd.C_drewN ?_ _) | (with_reducible refine Kd.C_drew ?_))) (_hc0 := HC0.out) (h := A2.out)) ?_; rintro w' ⟨nd, rfl⟩))
  go_ret
  exact ⟨zr, zB⟩
end Go.Proofs.YtbncnjgflhoneaaGreatDoor.F
