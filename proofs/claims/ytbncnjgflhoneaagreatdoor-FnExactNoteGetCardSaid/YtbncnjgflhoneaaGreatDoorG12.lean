/- Of this claim, merged by program: Q4. -/
import Derived.Test.YtbncnjgflhoneaaGreatDoorG02
import Derived.Test.YtbncnjgflhoneaaGreatDoorG07
import Derived.Test.YtbncnjgflhoneaaGreatDoorG10
import Derived.Test.YtbncnjgflhoneaaGreatDoorG11
namespace Go.Proofs.YtbncnjgflhoneaaGreatDoor.Hand
open Go.RowKit Go.Proofs.YtbncnjgflhoneaaGreatDoor.F Go.Proofs.YtbncnjgflhoneaaGreatDoorW.PrintWords Go.Proofs.YtbncnjgflhoneaaGreatDoorW.PrintLast Go.Proofs.YtbncnjgflhoneaaGreatDoorW.PrintMore
theorem app_data (x y : ByteArray) : (x ++ y).data.toList = x.data.toList ++ y.data.toList := by simp
theorem lit_data (l : List UInt8) : (⟨l.toArray⟩ : ByteArray).data.toList = l := by simp
theorem lit_size (l : List UInt8) : (⟨l.toArray⟩ : ByteArray).size = l.length := by rw [← data_length, lit_data]
theorem len_size (s : ByteArray) : s.data.toList.length = s.size := data_length s
def addrT (u d : ByteArray) : List UInt8 := if nullB u d = true then [60, 62] else 60 :: (u.data.toList ++ 64 :: (d.data.toList ++ [62]))
theorem addrT_le (u d : ByteArray) : (addrT u d).length ≤ u.size + d.size + 3 := by
  unfold addrT
  split
  · simp
  · simp
    omega
theorem ptext_tells (u d : ByteArray) (hu : u.size ≤ 1073741824) (hd : d.size ≤ 1073741824) : impl_Addr_text.f u d = some (B (addrT u d)) := by
  unfold impl_Addr_text.f impl_Addr_null.f addrT
  rw [Option.bind_some]
  show (if nullB u d = true then _ else _) = _
  by_cases h : nullB u d = true
  · rw [if_pos h, if_pos h]; rfl
  · rw [if_neg h, if_neg h]
    rw [if_pos (by omega), if_pos (by simp only [ByteArray.size_append, lit_size, List.length_cons, List.length_nil]; omega), if_pos (by simp only [ByteArray.size_append, lit_size, List.length_cons, List.length_nil]; omega), if_pos (by simp only [ByteArray.size_append, lit_size, List.length_cons, List.length_nil]; omega)]
    exact congrArg some (eq_B (by simp only [app_data]; simp))
theorem stext_tells (u d : ByteArray) (hu : u.size ≤ 1073741824) (hd : d.size ≤ 1073741824) : spec_l1Put.f u d = some (B (addrT u d)) := by
  unfold spec_l1Put.f addrT
  rw [snull_tells, Option.bind_some]
  by_cases h : nullB u d = true
  · rw [if_pos h, if_pos h]; rfl
  · rw [if_neg h, if_neg h]
    rw [if_pos (by omega), if_pos (by simp only [ByteArray.size_append, lit_size, List.length_cons, List.length_nil]; omega), if_pos (by simp only [ByteArray.size_append, lit_size, List.length_cons, List.length_nil]; omega), if_pos (by simp only [ByteArray.size_append, lit_size, List.length_cons, List.length_nil]; omega)]
    exact congrArg some (eq_B (by simp only [app_data]; simp))
theorem dec_le (n : Nat) : (Lib.decDigits n).length ≤ n + 1 := by
  induction n using Nat.strongRecOn with
  | _ n ih =>
    rw [Lib.decDigits]
    split
    · simp
    · have := ih (n / 10) (by omega)
      simp
      omega
theorem one_digit (c : Int) (h0 : 0 ≤ c) (h9 : c ≤ 9) : strOfNums [(wrap64 (48 + c)) % 256] = B [UInt8.ofNat (48 + c.toNat)] := by
  rw [wrapIn (by omega) (by omega), show (48 + c) % 256 = 48 + c by omega]
  refine eq_B ?_
  rw [strOfNums_data]
  show [UInt8.ofNat (48 + c).toNat] = [UInt8.ofNat (48 + c.toNat)]
  rw [show (48 + c).toNat = 48 + c.toNat by omega]
theorem dec_tells (n : Nat) (hn : n ≤ 1099511627776) : Ev (fun k => spec_l1Dec.f k (n : Int)) (B (Lib.decDigits n)) := by
  induction n using Nat.strongRecOn with
  | _ n ih =>
    by_cases h : n < 10
    · refine Ev.step (f := fun _ => some (B (Lib.decDigits n))) (fun k => ?_) (Ev.now _)
      rw [spec_l1Dec.f, if_neg (by omega), if_neg (by omega), if_pos (by omega), one_digit n (by omega) (by omega), Lib.decDigits, dif_pos h]
      rfl
    · have h2 := ih (n / 10) (by omega) (by omega)
      have hl := dec_le (n / 10)
      refine Ev.step (f := fun k => (spec_l1Dec.f k ((n / 10 : Nat) : Int)).bind fun t105 => ((some (([(wrap64 (48 + (Int.tmod (n : Int) 10))) % 256] : List Int) : List Int)).bind fun y106 => (if t105.size + (strOfNums y106).size ≤ 9223372036854775807 then (some (t105 ++ (strOfNums y106))) else (none)))) (fun k => by
        rw [spec_l1Dec.f, if_neg (by omega), if_neg (by omega), if_neg (by omega), show Int.tdiv (n : Int) 10 = ((n / 10 : Nat) : Int) from rfl, wrapIn (x := ((n / 10 : Nat) : Int)) (by omega) (by omega)]) ?_
      refine Ev.call h2 (h := fun _ => some (B (Lib.decDigits n))) (fun k => ?_) (Ev.now _)
      rw [show Int.tmod (n : Int) 10 = ((n % 10 : Nat) : Int) from rfl, Option.bind_some, one_digit _ (by omega) (by omega), if_pos (by rw [B_size, B_size]; simp; omega)]
      refine congrArg some (eq_B ?_)
      rw [app_data, B_data, B_data, Lib.decDigits.eq_def n, dif_neg h, Int.toNat_natCast]
theorem dots_step (l : List ByteArray) (i : Nat) (h : i < l.length) : (l.drop i).flatMap (fun s => dotL s.data.toList) = dotL l[i].data.toList ++ (l.drop (i + 1)).flatMap (fun s => dotL s.data.toList) := by
  rw [List.drop_eq_getElem_cons h, List.flatMap_cons]
theorem dotL_length (l : List UInt8) : l.length + 2 ≤ (dotL l).length ∧ (dotL l).length ≤ l.length + 3 := by
  unfold dotL
  split <;> simp <;> omega
theorem sdots_from (l : List ByteArray) (hl : l.length ≤ 1099511627776) : ∀ (d i : Nat) (acc : List UInt8), l.length = i + d → acc.length + ((l.drop i).flatMap fun s => dotL s.data.toList).length ≤ 1099511627776 →
    Ev (fun k => spec_l2Dots.l0 k l (B acc) (i : Int)) (B (acc ++ ((l.drop i).flatMap (fun s => dotL s.data.toList) ++ [46, 13, 10]))) := by
  intro d
  induction d with
  | zero =>
    intro i acc hi hb
    refine Ev.step (f := fun _ => some (B (acc ++ [46, 13, 10]))) (fun k => ?_) ?_
    · rw [spec_l2Dots.l0, if_neg (by omega), if_pos (by rw [B_size]; omega)]
      exact congrArg some (eq_B (by rw [app_data, B_data, lit_data]))
    · rw [List.drop_eq_nil_of_le (by omega), List.flatMap_nil, List.nil_append]
      exact Ev.now _
  | succ d ih =>
    intro i acc hi hb
    have hlt : i < l.length := by omega
    rw [dots_step l i hlt] at hb ⊢
    rw [List.length_append] at hb
    obtain ⟨hd1, hd2⟩ := dotL_length l[i].data.toList
    have hsz := len_size l[i]
    have hN := ih (i + 1) (acc ++ dotL l[i].data.toList) (by omega) (by rw [List.length_append]; omega)
    refine Ev.step (f := fun k => spec_l2Dots.l0 k l (B (acc ++ dotL l[i].data.toList)) ((i + 1 : Nat) : Int)) (fun k => ?_) (by simpa using hN)
    rw [spec_l2Dots.l0, if_pos (by omega), if_pos (by omega), rdOf_mem _ _ _ hlt, wrapIn (x := (i : Int) + 1) (by omega) (by omega)]
    generalize l[i] = s at *
    by_cases he : s.toList = []
    · rw [if_pos he, if_pos (by rw [B_size]; omega), if_pos (by rw [ByteArray.size_append, B_size]; omega)]
      have e : (B acc ++ s) ++ (⟨#[13, 10]⟩ : ByteArray) = B (acc ++ dotL s.data.toList) := eq_B (by
        rw [toL] at he
        rw [app_data, app_data, B_data, lit_data, he]
        simp [dotL])
      rw [e]
      rfl
    · rw [if_neg he]
      rw [toL] at he
      have hpos : 0 < s.data.toList.length := List.length_pos_iff.2 he
      rw [if_pos (by omega)]
      have hb0 : bt s 0 = ((s.data.toList[0]).toNat : Int) := bt_get s 0 hpos
      have hh : s.data.toList.head? = some s.data.toList[0] := by rw [List.head?_eq_getElem?, List.getElem?_eq_getElem hpos]
      by_cases h46 : bt s 0 = 46
      · have h2 : s.data.toList.head? = some 46 := by
          rw [hh]
          exact congrArg some (UInt8.toNat_inj.1 (by show _ = 46; omega))
        have h3 : (dotL s.data.toList).length = s.size + 3 := by
          unfold dotL
          rw [if_pos h2]
          simp [hsz]
        rw [if_pos h46, if_pos (by omega), if_pos (by rw [ByteArray.size_append, B_size]; show _ + (1 + _) ≤ _; omega), if_pos (by rw [ByteArray.size_append, ByteArray.size_append, B_size]; show _ + (1 + _) + 2 ≤ _; omega)]
        have e : (B acc ++ ((⟨#[46]⟩ : ByteArray) ++ s)) ++ (⟨#[13, 10]⟩ : ByteArray) = B (acc ++ dotL s.data.toList) := eq_B (by
          rw [app_data, app_data, app_data, B_data, lit_data, lit_data]
          unfold dotL
          rw [if_pos h2]
          simp)
        rw [e]
        rfl
      · have h2 : s.data.toList.head? ≠ some 46 := by
          rw [hh]
          intro hx
          injection hx with hx
          rw [hx] at hb0
          exact h46 hb0
        rw [if_neg h46, if_pos (by rw [B_size]; omega), if_pos (by rw [ByteArray.size_append, B_size]; omega)]
        have e : (B acc ++ s) ++ (⟨#[13, 10]⟩ : ByteArray) = B (acc ++ dotL s.data.toList) := eq_B (by
          rw [app_data, app_data, B_data, lit_data]
          unfold dotL
          rw [if_neg h2]
          simp)
        rw [e]
        rfl
theorem sdots_tells (l : List ByteArray) (hl : l.length ≤ 1099511627776) (hb : (dotsL l).length ≤ 1099511627776) : Ev (fun k => spec_l2Dots.f k l) (B (dotsL l)) := by
  have h := sdots_from l hl l.length 0 [] (by omega) (by
    unfold dotsL at hb
    rw [List.length_append] at hb
    rw [List.drop_zero, List.length_nil]
    omega)
  rw [List.drop_zero, List.nil_append] at h
  exact h
theorem flat_le {α : Type} (f : α → List UInt8) (n : Nat) : ∀ l : List α, (∀ x ∈ l, (f x).length ≤ n) → (l.flatMap f).length ≤ l.length * n
  | [], _ => by simp
  | x :: l, h => by
    have h1 := h x (by simp)
    have h2 := flat_le f n l (fun y hy => h y (by simp [hy]))
    rw [List.flatMap_cons, List.length_append, List.length_cons, Nat.add_mul]
    omega
theorem body_small {l : List ByteArray} (h : bodyB l = true) : l.length ≤ 12 ∧ (∀ s ∈ l, s.size ≤ 40) ∧ (dotsL l).length ≤ 600 := by
  unfold bodyB at h
  rw [Bool.and_eq_true] at h
  have h1 := of_decide_eq_true h.1
  have h2 : ∀ s ∈ l, s.size ≤ 40 := fun s hs => by
    have := List.all_eq_true.1 h.2 s hs
    unfold lineB at this
    rw [Bool.and_eq_true] at this
    exact of_decide_eq_true this.2
  refine ⟨h1, h2, ?_⟩
  have h3 := flat_le (fun s : ByteArray => dotL s.data.toList) 43 l (fun s hs => by
    have := (dotL_length s.data.toList).2
    have := h2 s hs
    rw [len_size] at *
    omega)
  unfold dotsL
  rw [List.length_append]
  simp only [List.length_cons, List.length_nil]
  have : l.length * 43 ≤ 12 * 43 := Nat.mul_le_mul_right _ h1
  omega
def toT (ts : List S32) : List UInt8 := ts.flatMap fun a => [116, 111, 32] ++ (addrT a.f0 a.f1 ++ [13, 10])
def mailT (u d : ByteArray) (ts : List S32) (body : List ByteArray) : List UInt8 := [102, 114, 111, 109, 32] ++ (addrT u d ++ ([13, 10] ++ (toT ts ++ ([13, 10] ++ dotsL body))))
theorem toT_step (ts : List S32) (i : Nat) (h : i < ts.length) : toT (ts.drop i) = [116, 111, 32] ++ (addrT ts[i].f0 ts[i].f1 ++ [13, 10]) ++ toT (ts.drop (i + 1)) := by
  unfold toT
  rw [List.drop_eq_getElem_cons h, List.flatMap_cons]
theorem to_le (a : S32) (h : Tiny a) : ([116, 111, 32] ++ (addrT a.f0 a.f1 ++ [13, 10])).length ≤ 4294967296 := by
  have := addrT_le a.f0 a.f1
  have := h.1
  have := h.2
  simp only [List.length_append, List.length_cons, List.length_nil]
  omega
theorem sput_from (u d : ByteArray) (ts : List S32) (body : List ByteArray) (ht : ∀ a ∈ ts, Tiny a) (h4 : ts.length ≤ 4) (hb : bodyB body = true) : ∀ (e i : Nat) (acc : List UInt8), ts.length = i + e → acc.length + e * 4294967296 ≤ 1099511627776 →
    Ev (fun k => spec_l2Put.l0 k (B acc) (i : Int) u d ts body) (B (acc ++ (toT (ts.drop i) ++ ([13, 10] ++ dotsL body)))) := by
  obtain ⟨hb1, hb2, hb3⟩ := body_small hb
  intro e
  induction e with
  | zero =>
    intro i acc hi hl
    refine Ev.step (f := fun k => (spec_l2Dots.f k body).bind fun t105 => (if (B acc ++ (⟨#[13, 10]⟩ : ByteArray)).size + t105.size ≤ 9223372036854775807 then (some ((B acc ++ (⟨#[13, 10]⟩ : ByteArray)) ++ t105)) else (none))) (fun k => by
      rw [spec_l2Put.l0, if_neg (by omega), if_pos (by rw [B_size]; omega)]) ?_
    refine Ev.call (sdots_tells body (by omega) (by omega)) (h := fun _ => some (B (acc ++ (toT (ts.drop i) ++ ([13, 10] ++ dotsL body))))) (fun k => ?_) (Ev.now _)
    rw [if_pos (by rw [ByteArray.size_append, B_size, B_size]; show _ + 2 + _ ≤ _; omega), List.drop_eq_nil_of_le (by omega)]
    exact congrArg some (eq_B (by rw [app_data, app_data, B_data, B_data, lit_data]; simp [toT]))
  | succ e ih =>
    intro i acc hi hl
    have hlt : i < ts.length := by omega
    have hT := ht _ (List.getElem_mem hlt)
    have hle := to_le _ hT
    have hal := addrT_le ts[i].f0 ts[i].f1
    rw [toT_step ts i hlt]
    have hN := ih (i + 1) (acc ++ ([116, 111, 32] ++ (addrT ts[i].f0 ts[i].f1 ++ [13, 10]))) (by omega) (by rw [List.length_append]; omega)
    refine Ev.step (f := fun k => spec_l2Put.l0 k (B (acc ++ ([116, 111, 32] ++ (addrT ts[i].f0 ts[i].f1 ++ [13, 10])))) ((i + 1 : Nat) : Int) u d ts body) (fun k => ?_) (by simpa using hN)
    have h1 := hT.1
    have h2 := hT.2
    rw [spec_l2Put.l0, if_pos (by omega), if_pos (by rw [B_size]; omega), if_pos (by omega), rd_T32_mem _ _ hlt, stext_tells _ _ h1 h2, Option.bind_some, if_pos (by rw [ByteArray.size_append, B_size, B_size]; show _ + 3 + _ ≤ _; omega), if_pos (by rw [ByteArray.size_append, ByteArray.size_append, B_size, B_size]; show _ + 3 + _ + 2 ≤ _; omega), wrapIn (x := (i : Int) + 1) (by omega) (by omega)]
    have e : ((B acc ++ (⟨#[116, 111, 32]⟩ : ByteArray)) ++ B (addrT ts[i].f0 ts[i].f1)) ++ (⟨#[13, 10]⟩ : ByteArray) = B (acc ++ ([116, 111, 32] ++ (addrT ts[i].f0 ts[i].f1 ++ [13, 10]))) := eq_B (by
      rw [app_data, app_data, app_data, B_data, B_data, lit_data, lit_data]
      simp)
    rw [e]
    rfl
theorem pput_from (u d : ByteArray) (ts : List S32) (body : List ByteArray) (ht : ∀ a ∈ ts, Tiny a) (h4 : ts.length ≤ 4) (hb : bodyB body = true) : ∀ (e i : Nat) (acc : List UInt8), ts.length = i + e → acc.length + e * 4294967296 ≤ 1099511627776 →
    Ev (fun k => impl_MailPut.l0 k (B acc) ts (ts.length : Int) (i : Int) u d ts body) (B (acc ++ (toT (ts.drop i) ++ ([13, 10] ++ dotsL body)))) := by
  obtain ⟨hb1, hb2, hb3⟩ := body_small hb
  intro e
  induction e with
  | zero =>
    intro i acc hi hl
    have hD : impl_dotted.f body = some (B (dotsL body)) := by
      unfold impl_dotted.f
      rw [if_pos (by omega)]
      rfl
    refine Ev.step (f := fun _ => some (B (acc ++ (toT (ts.drop i) ++ ([13, 10] ++ dotsL body))))) (fun k => ?_) (Ev.now _)
    rw [impl_MailPut.l0, if_neg (by omega), if_pos (by rw [B_size]; omega), hD, Option.bind_some, if_pos (by rw [ByteArray.size_append, B_size, B_size]; show _ + 2 + _ ≤ _; omega), List.drop_eq_nil_of_le (by omega)]
    exact congrArg some (eq_B (by rw [app_data, app_data, B_data, B_data, lit_data]; simp [toT]))
  | succ e ih =>
    intro i acc hi hl
    have hlt : i < ts.length := by omega
    have hT := ht _ (List.getElem_mem hlt)
    have hle := to_le _ hT
    have hal := addrT_le ts[i].f0 ts[i].f1
    rw [toT_step ts i hlt]
    have hN := ih (i + 1) (acc ++ ([116, 111, 32] ++ (addrT ts[i].f0 ts[i].f1 ++ [13, 10]))) (by omega) (by rw [List.length_append]; omega)
    refine Ev.step (f := fun k => impl_MailPut.l0 k (B (acc ++ ([116, 111, 32] ++ (addrT ts[i].f0 ts[i].f1 ++ [13, 10])))) ts (ts.length : Int) ((i + 1 : Nat) : Int) u d ts body) (fun k => ?_) (by simpa using hN)
    have h1 := hT.1
    have h2 := hT.2
    rw [impl_MailPut.l0, if_pos (by omega), if_pos (by omega), if_pos (by omega), rd_T32_mem _ _ hlt, ptext_tells _ _ h1 h2, Option.bind_some, if_pos (by rw [B_size]; omega), if_pos (by rw [ByteArray.size_append, B_size]; show 3 + _ + 2 ≤ _; omega), if_pos (by rw [ByteArray.size_append, ByteArray.size_append, B_size, B_size]; show _ + (3 + _ + 2) ≤ _; omega), wrapIn (x := (i : Int) + 1) (by omega) (by omega)]
    have e : B acc ++ (((⟨#[116, 111, 32]⟩ : ByteArray) ++ B (addrT ts[i].f0 ts[i].f1)) ++ (⟨#[13, 10]⟩ : ByteArray)) = B (acc ++ ([116, 111, 32] ++ (addrT ts[i].f0 ts[i].f1 ++ [13, 10]))) := eq_B (by
      rw [app_data, app_data, app_data, B_data, B_data, lit_data, lit_data]
      simp)
    rw [e]
    rfl
theorem mail_parts {u d : ByteArray} {ts : List S32} {body : List ByteArray} (h : mailB u d ts body = true) : (nullB u d || addrB u d) = true ∧ (1 ≤ ts.length ∧ ts.length ≤ 4) ∧ (∀ a ∈ ts, addrB a.f0 a.f1 = true) ∧ apartB ts = true ∧ bodyB body = true := by
  unfold mailB at h
  simp only [Bool.and_eq_true] at h
  obtain ⟨⟨⟨⟨h1, h2⟩, h3⟩, h4⟩, h5⟩ := h
  exact ⟨h1, of_decide_eq_true h2, fun a ha => List.all_eq_true.1 h3 a ha, h4, h5⟩
theorem sput_tells (u d : ByteArray) (ts : List S32) (body : List ByteArray) (hs : Short u d ts body) (hm : mailB u d ts body = true) : Ev (fun k => spec_l2Put.f k u d ts body) (B (mailT u d ts body)) := by
  obtain ⟨hu, hd, ht, _, _, _⟩ := hs
  obtain ⟨_, h2, _, _, h5⟩ := mail_parts hm
  have hal := addrT_le u d
  have h := sput_from u d ts body ht h2.2 h5 ts.length 0 ([102, 114, 111, 109, 32] ++ (addrT u d ++ [13, 10])) (by omega) (by
    simp only [List.length_append, List.length_cons, List.length_nil]
    omega)
  refine Ev.congr (f := fun k => spec_l2Put.l0 k (B ([102, 114, 111, 109, 32] ++ (addrT u d ++ [13, 10]))) ((0 : Nat) : Int) u d ts body) (fun k => ?_) (by
    unfold mailT
    simpa using h)
  unfold spec_l2Put.f
  rw [stext_tells u d hu hd, Option.bind_some, if_pos (by rw [B_size]; omega), if_pos (by rw [ByteArray.size_append, B_size]; show 5 + _ + 2 ≤ _; omega)]
  have e : ((⟨#[102, 114, 111, 109, 32]⟩ : ByteArray) ++ B (addrT u d)) ++ (⟨#[13, 10]⟩ : ByteArray) = B ([102, 114, 111, 109, 32] ++ (addrT u d ++ [13, 10])) := eq_B (by
    rw [app_data, app_data, B_data, lit_data, lit_data]
    simp)
  rw [e]
  rfl
theorem pput_tells (u d : ByteArray) (ts : List S32) (body : List ByteArray) (hs : Short u d ts body) (hm : mailB u d ts body = true) : Ev (fun k => impl_MailPut.f k u d ts body) (B (mailT u d ts body)) := by
  have hs' := hs
  obtain ⟨hu, hd, ht, _, _, _⟩ := hs
  obtain ⟨_, h2, _, _, h5⟩ := mail_parts hm
  have hal := addrT_le u d
  have h := pput_from u d ts body ht h2.2 h5 ts.length 0 ([102, 114, 111, 109, 32] ++ (addrT u d ++ [13, 10])) (by omega) (by
    simp only [List.length_append, List.length_cons, List.length_nil]
    omega)
  refine Ev.congr (f := fun k => impl_MailPut.l0 k (B ([102, 114, 111, 109, 32] ++ (addrT u d ++ [13, 10]))) ts (ts.length : Int) ((0 : Nat) : Int) u d ts body) (fun k => ?_) (by
    unfold mailT
    simpa using h)
  unfold impl_MailPut.f
  rw [pmail_tells u d ts body hs', hm, Option.bind_some, if_pos rfl, ptext_tells u d hu hd, Option.bind_some, if_pos (by rw [B_size]; omega), if_pos (by rw [ByteArray.size_append, B_size]; show 5 + _ + 2 ≤ _; omega)]
  have e : ((⟨#[102, 114, 111, 109, 32]⟩ : ByteArray) ++ B (addrT u d)) ++ (⟨#[13, 10]⟩ : ByteArray) = B ([102, 114, 111, 109, 32] ++ (addrT u d ++ [13, 10])) := eq_B (by
    rw [app_data, app_data, B_data, lit_data, lit_data]
    simp)
  rw [e]
  rfl
def noteT (kind id : Int) (au ad : ByteArray) (now : Int) (u d : ByteArray) (ts : List S32) (body : List ByteArray) : List UInt8 :=
  if kind = 1 then [97, 100, 100, 32] ++ (Lib.itoa now ++ ([10] ++ mailT u d ts body))
  else if kind = 2 then [100, 111, 110, 101, 32] ++ (Lib.itoa id ++ ([32] ++ addrT au ad))
  else [108, 97, 116, 101, 114, 32] ++ (Lib.itoa id ++ ([32] ++ (addrT au ad ++ ([32] ++ Lib.itoa now))))
theorem itoa_nat (n : Int) (h : 0 ≤ n) : Lib.itoa n = Lib.decDigits n.toNat := by
  unfold Lib.itoa
  rw [if_neg (by omega)]
theorem itoa_le (n : Int) (h : 0 ≤ n) (h9 : n ≤ 9999) : (Lib.itoa n).length ≤ 10000 := by
  rw [itoa_nat n h]
  have := dec_le n.toNat
  omega
theorem pitoa_tells (n : Int) (h : 0 ≤ n) (h9 : n ≤ 9999) : strconv_Itoa.f n = some (B (Lib.itoa n)) := by
  unfold strconv_Itoa.f
  rw [if_pos ⟨by omega, by omega⟩]
  rfl
theorem sitoa_tells (n : Int) (h : 0 ≤ n) (h9 : n ≤ 9999) : Ev (fun k => spec_l1Dec.f k n) (B (Lib.itoa n)) := by
  obtain ⟨n, rfl⟩ := Int.eq_ofNat_of_zero_le h
  rw [itoa_nat _ h]
  exact dec_tells n (by omega)
theorem mailT_le (u d : ByteArray) (ts : List S32) (body : List ByteArray) (hs : Short u d ts body) (hm : mailB u d ts body = true) : (mailT u d ts body).length ≤ 1099511627776 := by
  obtain ⟨hu, hd, ht, _, _, _⟩ := hs
  obtain ⟨_, h2, _, _, h5⟩ := mail_parts hm
  obtain ⟨_, _, h6⟩ := body_small h5
  have hal := addrT_le u d
  have h7 : (toT ts).length ≤ ts.length * 4294967296 := flat_le _ _ ts (fun a ha => to_le a (ht a ha))
  have h8 : ts.length * 4294967296 ≤ 4 * 4294967296 := Nat.mul_le_mul_right _ h2.2
  unfold mailT
  simp only [List.length_append, List.length_cons, List.length_nil]
  omega
theorem note_parts {kind id : Int} {au ad : ByteArray} {now : Int} {u d : ByteArray} {ts : List S32} {body : List ByteArray} (h : noteB kind id au ad now u d ts body = true) :
    (kind = 1 ∧ mailB u d ts body = true ∧ 0 ≤ now ∧ now ≤ 9999 ∧ id = 0 ∧ nullB au ad = true) ∨ (kind = 2 ∧ bareB u d ts body = true ∧ 1 ≤ id ∧ id ≤ 999 ∧ addrB au ad = true ∧ now = 0) ∨ (kind = 3 ∧ bareB u d ts body = true ∧ 1 ≤ id ∧ id ≤ 999 ∧ addrB au ad = true ∧ 0 ≤ now ∧ now ≤ 9999) := by
  unfold noteB at h
  by_cases k1 : kind = 1
  · rw [if_pos k1] at h
    simp only [Bool.and_eq_true, decide_eq_true_eq] at h
    exact .inl ⟨k1, h.1, h.2.1.1, h.2.1.2, h.2.2.1, h.2.2.2⟩
  rw [if_neg k1] at h
  by_cases k2 : kind = 2
  · rw [if_pos k2] at h
    simp only [Bool.and_eq_true, decide_eq_true_eq] at h
    exact .inr (.inl ⟨k2, h.1, h.2.1.1, h.2.1.2, h.2.2.1, h.2.2.2⟩)
  rw [if_neg k2] at h
  by_cases k3 : kind = 3
  · rw [if_pos k3] at h
    simp only [Bool.and_eq_true, decide_eq_true_eq] at h
    exact .inr (.inr ⟨k3, h.1, h.2.1.1, h.2.1.2, h.2.2.1, h.2.2.2.1, h.2.2.2.2⟩)
  rw [if_neg k3] at h
  cases h
theorem sbodyT_tells (kind id : Int) (au ad : ByteArray) (now : Int) (u d : ByteArray) (ts : List S32) (body : List ByteArray) (hs : Short u d ts body) (hau : au.size ≤ 1073741824) (had : ad.size ≤ 1073741824) (hn : noteB kind id au ad now u d ts body = true) :
    Ev (fun k => spec_l6Body.f k kind id au ad now u d ts body) (B (noteT kind id au ad now u d ts body)) := by
  have hal := addrT_le au ad
  unfold noteT
  rcases note_parts hn with ⟨k1, hm, n0, n9, _, _⟩ | ⟨k2, _, i1, i9, _, _⟩ | ⟨k3, _, i1, i9, _, n0, n9⟩
  · rw [if_pos k1]
    have hl := itoa_le now n0 n9
    have hml := mailT_le u d ts body hs hm
    refine Ev.congr (fun k => by unfold spec_l6Body.f; rw [if_pos k1]) ?_
    refine Ev.call (sitoa_tells now n0 n9) (fun k => by rw [if_pos (by rw [B_size]; omega), if_pos (by rw [ByteArray.size_append, B_size]; show 4 + _ + 1 ≤ _; omega)]) ?_
    refine Ev.call (sput_tells u d ts body hs hm) (h := fun _ => some (B ([97, 100, 100, 32] ++ (Lib.itoa now ++ ([10] ++ mailT u d ts body))))) (fun k => ?_) (Ev.now _)
    rw [if_pos (by rw [ByteArray.size_append, ByteArray.size_append, B_size, B_size]; show 4 + _ + 1 + _ ≤ _; omega)]
    exact congrArg some (eq_B (by rw [app_data, app_data, app_data, B_data, B_data, lit_data, lit_data]; simp))
  · have hl := itoa_le id (by omega) (by omega)
    rw [if_neg (by omega), if_pos k2]
    refine Ev.congr (fun k => by unfold spec_l6Body.f; rw [if_neg (by omega), if_pos k2]) ?_
    refine Ev.call (sitoa_tells id (by omega) (by omega)) (h := fun _ => some (B ([100, 111, 110, 101, 32] ++ (Lib.itoa id ++ ([32] ++ addrT au ad))))) (fun k => ?_) (Ev.now _)
    rw [if_pos (by rw [B_size]; omega), if_pos (by rw [ByteArray.size_append, B_size]; show 5 + _ + 1 ≤ _; omega), stext_tells au ad hau had, Option.bind_some, if_pos (by rw [ByteArray.size_append, ByteArray.size_append, B_size, B_size]; show 5 + _ + 1 + _ ≤ _; omega)]
    exact congrArg some (eq_B (by rw [app_data, app_data, app_data, B_data, B_data, lit_data, lit_data]; simp))
  · have hl := itoa_le id (by omega) (by omega)
    have hl2 := itoa_le now n0 n9
    rw [if_neg (by omega), if_neg (by omega)]
    refine Ev.congr (fun k => by unfold spec_l6Body.f; rw [if_neg (by omega), if_neg (by omega)]) ?_
    refine Ev.call (sitoa_tells id (by omega) (by omega)) (fun k => by
      rw [if_pos (by rw [B_size]; omega), if_pos (by rw [ByteArray.size_append, B_size]; show 6 + _ + 1 ≤ _; omega), stext_tells au ad hau had, Option.bind_some, if_pos (by rw [ByteArray.size_append, ByteArray.size_append, B_size, B_size]; show 6 + _ + 1 + _ ≤ _; omega), if_pos (by rw [ByteArray.size_append, ByteArray.size_append, ByteArray.size_append, B_size, B_size]; show 6 + _ + 1 + _ + 1 ≤ _; omega)]) ?_
    refine Ev.call (sitoa_tells now n0 n9) (h := fun _ => some (B ([108, 97, 116, 101, 114, 32] ++ (Lib.itoa id ++ ([32] ++ (addrT au ad ++ ([32] ++ Lib.itoa now))))))) (fun k => ?_) (Ev.now _)
    rw [if_pos (by rw [ByteArray.size_append, ByteArray.size_append, ByteArray.size_append, ByteArray.size_append, B_size, B_size, B_size]; show 6 + _ + 1 + _ + 1 + _ ≤ _; omega)]
    exact congrArg some (eq_B (by rw [app_data, app_data, app_data, app_data, app_data, B_data, B_data, B_data, lit_data, lit_data]; simp))
def putB (kind id : Int) (au ad : ByteArray) (now : Int) (u d : ByteArray) (ts : List S32) (body : List ByteArray) : ByteArray := if noteB kind id au ad now u d ts body = true then B (noteT kind id au ad now u d ts body) else (⟨#[]⟩ : ByteArray)
theorem sNotePut_tells (kind id : Int) (au ad : ByteArray) (now : Int) (u d : ByteArray) (ts : List S32) (body : List ByteArray) (hs : Short u d ts body) (hau : au.size ≤ 1073741824) (had : ad.size ≤ 1073741824) :
    Ev (fun k => spec_NotePut.f k kind id au ad now u d ts body) (putB kind id au ad now u d ts body) := by
  have h := snote_tells kind id au ad now u d ts body hs hau had
  unfold putB
  cases hn : noteB kind id au ad now u d ts body
  · rw [hn] at h
    exact Ev.call h (h := fun _ => some (⟨#[]⟩ : ByteArray)) (fun k => if_neg (by decide)) (Ev.now _)
  · rw [hn] at h
    refine Ev.call h (fun k => if_pos rfl) ?_
    exact Ev.call (sbodyT_tells kind id au ad now u d ts body hs hau had hn) (h := fun _ => some (B (noteT kind id au ad now u d ts body))) (fun k => rfl) (Ev.now _)
theorem pNotePut_tells (kind id : Int) (au ad : ByteArray) (now : Int) (u d : ByteArray) (ts : List S32) (body : List ByteArray) (hs : Short u d ts body) (hau : au.size ≤ 1073741824) (had : ad.size ≤ 1073741824) :
    Ev (fun k => impl_NotePut.f k kind id au ad now u d ts body) (putB kind id au ad now u d ts body) := by
  have h := pnote_tells kind id au ad now u d ts body hs had
  unfold putB
  cases hn : noteB kind id au ad now u d ts body
  · rw [hn] at h
    exact Ev.call h (h := fun _ => some (⟨#[]⟩ : ByteArray)) (fun k => if_neg (by decide)) (Ev.now _)
  · rw [hn] at h
    have hal := addrT_le au ad
    refine Ev.call h (fun k => if_pos rfl) ?_
    unfold noteT
    rcases note_parts hn with ⟨k1, hm, n0, n9, _, _⟩ | ⟨k2, _, i1, i9, _, hnow⟩ | ⟨k3, _, i1, i9, _, n0, n9⟩
    · rw [if_pos rfl, if_pos k1]
      have hl := itoa_le now n0 n9
      have hml := mailT_le u d ts body hs hm
      refine Ev.congr (fun k => by rw [pitoa_tells now n0 n9, Option.bind_some, if_pos k1, if_pos (by rw [B_size]; omega), if_pos (by rw [ByteArray.size_append, B_size]; show 4 + _ + 1 ≤ _; omega)]) ?_
      refine Ev.call (pput_tells u d ts body hs hm) (h := fun _ => some (B ([97, 100, 100, 32] ++ (Lib.itoa now ++ ([10] ++ mailT u d ts body))))) (fun k => ?_) (Ev.now _)
      rw [if_pos (by rw [ByteArray.size_append, ByteArray.size_append, B_size, B_size]; show 4 + _ + 1 + _ ≤ _; omega)]
      exact congrArg some (eq_B (by rw [app_data, app_data, app_data, B_data, B_data, lit_data, lit_data]; simp))
    · have hl := itoa_le id (by omega) (by omega)
      rw [if_pos rfl, if_neg (by omega), if_pos k2]
      refine Ev.congr (f := fun _ => some (B ([100, 111, 110, 101, 32] ++ (Lib.itoa id ++ ([32] ++ addrT au ad))))) (fun k => ?_) (Ev.now _)
      rw [pitoa_tells now (by omega) (by omega), Option.bind_some, if_neg (by omega), pitoa_tells id (by omega) (by omega), Option.bind_some, if_pos (by rw [B_size]; omega), ptext_tells au ad hau had, Option.bind_some, if_pos (by rw [ByteArray.size_append, B_size, B_size]; show _ + 1 + _ ≤ _; omega), if_pos k2, if_pos (by rw [ByteArray.size_append, ByteArray.size_append, B_size, B_size]; show 5 + (_ + 1 + _) ≤ _; omega)]
      exact congrArg some (eq_B (by rw [app_data, app_data, app_data, B_data, B_data, lit_data, lit_data]; simp))
    · have hl := itoa_le id (by omega) (by omega)
      have hl2 := itoa_le now n0 n9
      rw [if_pos rfl, if_neg (by omega), if_neg (by omega)]
      refine Ev.congr (f := fun _ => some (B ([108, 97, 116, 101, 114, 32] ++ (Lib.itoa id ++ ([32] ++ (addrT au ad ++ ([32] ++ Lib.itoa now))))))) (fun k => ?_) (Ev.now _)
      rw [pitoa_tells now (by omega) (by omega), Option.bind_some, if_neg (by omega), pitoa_tells id (by omega) (by omega), Option.bind_some, if_pos (by rw [B_size]; omega), ptext_tells au ad hau had, Option.bind_some, if_pos (by rw [ByteArray.size_append, B_size, B_size]; show _ + 1 + _ ≤ _; omega), if_neg (by omega), if_pos (by rw [ByteArray.size_append, ByteArray.size_append, B_size, B_size]; show 6 + (_ + 1 + _) ≤ _; omega), if_pos (by rw [ByteArray.size_append, ByteArray.size_append, ByteArray.size_append, B_size, B_size]; show 6 + (_ + 1 + _) + 1 ≤ _; omega), if_pos (by rw [ByteArray.size_append, ByteArray.size_append, ByteArray.size_append, ByteArray.size_append, B_size, B_size, B_size]; show 6 + (_ + 1 + _) + 1 + _ ≤ _; omega)]
      exact congrArg some (eq_B (by rw [app_data, app_data, app_data, app_data, app_data, B_data, B_data, B_data, lit_data, lit_data]; simp))
end Go.Proofs.YtbncnjgflhoneaaGreatDoor.Hand
