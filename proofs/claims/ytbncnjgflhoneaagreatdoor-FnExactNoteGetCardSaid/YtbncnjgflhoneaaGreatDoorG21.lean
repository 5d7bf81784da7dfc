/- Of this claim, merged by program: Q11. -/
import Derived.Test.YtbncnjgflhoneaaGreatDoorG02
import Derived.Test.YtbncnjgflhoneaaGreatDoorG10
import Derived.Test.YtbncnjgflhoneaaGreatDoorG20
namespace Go.Proofs.YtbncnjgflhoneaaGreatDoor.Hand
open Go.RowKit Go.Proofs.YtbncnjgflhoneaaGreatDoor.F Go.Proofs.YtbncnjgflhoneaaGreatDoorW.PrintWords Go.Proofs.YtbncnjgflhoneaaGreatDoorW.PrintLast Go.Proofs.YtbncnjgflhoneaaGreatDoorW.PrintMore
def ch (a : Nat) : UInt8 := UInt8.ofNat (48 + a)
def sumD (ds : List Nat) (acc : Nat) : Nat := ds.foldl (fun n a => n * 10 + a) acc
structure Figures (n : Nat) (ds : List Nat) : Prop where
  text : Lib.decDigits n = ds.map ch
  small : ∀ a ∈ ds, a < 10
  one : 1 ≤ ds.length
  four : ds.length ≤ 4
  sum : sumD ds 0 = n
  lead : 1 < ds.length → ds.head? ≠ some 0
theorem figures (n : Nat) (h : n ≤ 9999) : ∃ ds, Figures n ds := by
  have one : ∀ m, m < 10 → Lib.decDigits m = [ch m] := fun m hm => by rw [Lib.decDigits, dif_pos hm]; rfl
  have more : ∀ m, ¬ m < 10 → Lib.decDigits m = Lib.decDigits (m / 10) ++ [ch (m % 10)] := fun m hm => by rw [Lib.decDigits, dif_neg hm]; rfl
  by_cases h1 : n < 10
  · exact ⟨[n], one n h1, by simpa using h1, Nat.le_refl _, by simp, by simp [sumD], fun h => absurd h (by simp)⟩
  by_cases h2 : n < 100
  · refine ⟨[n / 10, n % 10], ?_, ?_, by simp, by simp, ?_, fun _ => by simp; omega⟩
    · rw [more n h1, one (n / 10) (by omega)]; rfl
    · intro a ha; simp at ha; omega
    · simp [sumD]; omega
  by_cases h3 : n < 1000
  · refine ⟨[n / 10 / 10, n / 10 % 10, n % 10], ?_, ?_, by simp, by simp, ?_, fun _ => by simp; omega⟩
    · rw [more n h1, more (n / 10) (by omega), one (n / 10 / 10) (by omega)]; rfl
    · intro a ha; simp at ha; omega
    · simp [sumD]; omega
  · refine ⟨[n / 10 / 10 / 10, n / 10 / 10 % 10, n / 10 % 10, n % 10], ?_, ?_, by simp, by simp, ?_, fun _ => by simp; omega⟩
    · rw [more n h1, more (n / 10) (by omega), more (n / 10 / 10) (by omega), one (n / 10 / 10 / 10) (by omega)]; rfl
    · intro a ha; simp at ha; omega
    · simp [sumD]; omega
theorem ch_nat (a : Nat) (h : a < 10) : (ch a).toNat = 48 + a := by
  unfold ch
  rw [UInt8.toNat_ofNat']
  omega
theorem ch_sign {n : Nat} {ds : List Nat} (h : Figures n ds) : ∀ x ∈ Lib.decDigits n, 48 ≤ x.toNat ∧ x.toNat ≤ 57 := by
  intro x hx
  rw [h.text] at hx
  obtain ⟨a, ha, rfl⟩ := List.mem_map.1 hx
  have := h.small a ha
  rw [ch_nat a this]
  omega
theorem sumD_le (ds : List Nat) (h : ∀ a ∈ ds, a < 10) : ∀ acc, sumD ds acc < (acc + 1) * 10 ^ ds.length := by
  induction ds with
  | nil => intro acc; simp [sumD]
  | cons a ds ih =>
    intro acc
    have h1 := ih (fun x hx => h x (by simp [hx])) (acc * 10 + a)
    have ha := h a (by simp)
    show sumD ds (acc * 10 + a) < _
    rw [List.length_cons, Nat.pow_succ]
    refine Nat.lt_of_lt_of_le h1 ?_
    rw [Nat.mul_comm (10 ^ ds.length) 10, ← Nat.mul_assoc]
    exact Nat.mul_le_mul_right _ (by omega)
theorem parse_sum : ∀ (ds : List Nat) (acc : Nat), (∀ a ∈ ds, a < 10) → (acc + 1) * 10 ^ ds.length ≤ 1000000000000 → Lib.parseUint10 acc (ds.map ch) = .ok (sumD ds acc)
  | [], acc, _, _ => rfl
  | a :: ds, acc, h, hb => by
    have ha := h a (by simp)
    rw [List.length_cons, Nat.pow_succ, Nat.mul_comm (10 ^ ds.length) 10, ← Nat.mul_assoc] at hb
    have hpos : 1 ≤ 10 ^ ds.length := Nat.one_le_pow _ _ (by decide)
    have hle : (acc + 1) * 10 ≤ 1000000000000 := Nat.le_trans (Nat.le_mul_of_pos_right _ hpos) hb
    have ih := parse_sum ds (acc * 10 + a) (fun x hx => h x (by simp [hx])) (Nat.le_trans (Nat.mul_le_mul_right _ (by omega)) hb)
    rw [List.map_cons, Lib.parseUint10, if_pos (by rw [ch_nat a ha]; omega), ch_nat a ha]
    rw [show 48 + a - 48 = a by omega]
    repeat (first | rw [if_neg (by omega)] | exact ih)
theorem decV_text (n : Int) (h0 : 0 ≤ n) (h9 : n ≤ 9999) : decV (Lib.itoa n) = (n, true) := by
  obtain ⟨m, rfl⟩ := Int.eq_ofNat_of_zero_le h0
  obtain ⟨ds, h⟩ := figures m (by omega)
  have hp := parse_sum ds 0 h.small (by
    rw [Nat.zero_add, Nat.one_mul]
    exact Nat.le_trans (Nat.pow_le_pow_right (by decide) h.four) (by decide))
  have he : Lib.atoiAll (Lib.itoa (m : Int)) = .ok (m : Int) := by
    rw [itoa_nat _ h0, Int.toNat_natCast, h.text]
    cases hd : ds with
    | nil => have := h.one; rw [hd] at this; exact absurd this (by decide)
    | cons a r =>
      have ha := h.small a (by rw [hd]; simp)
      rw [List.map_cons, Lib.atoiAll_plain _ _ (by rw [ch_nat a ha]; omega) (by rw [ch_nat a ha]; omega)]
      unfold Lib.parseMag
      rw [if_neg (by simp), ← List.map_cons, ← hd, hp, h.sum]
      unfold Lib.signless
      exact if_neg (by omega)
  unfold decV
  rw [he]
  simp
theorem snum_any (s : ByteArray) (hs : s.size ≤ 1073741824) : ∀ (d i : Nat) (n : Int), s.size = i + d → ∃ v, Ev (fun k => spec_l1Num.l0 k s n (i : Int)) v := by
  intro d
  induction d with
  | zero =>
    intro i n hi
    have key : ∃ v, ∀ k, spec_l1Num.l0 (k + 1) s n (i : Int) = some v := by
      by_cases h0 : s.size = 0
      · exact ⟨-1, fun k => by rw [spec_l1Num.l0, if_neg (by omega), if_pos (by omega)]⟩
      · by_cases h1 : 1 < s.size
        · by_cases hb : bt s 0 = 48
          · exact ⟨-1, fun k => by rw [spec_l1Num.l0, if_neg (by omega), if_neg (by omega), if_pos (by omega), if_pos (by omega), if_pos hb]⟩
          · exact ⟨n, fun k => by rw [spec_l1Num.l0, if_neg (by omega), if_neg (by omega), if_pos (by omega), if_pos (by omega), if_neg hb]⟩
        · exact ⟨n, fun k => by rw [spec_l1Num.l0, if_neg (by omega), if_neg (by omega), if_neg (by omega)]⟩
    obtain ⟨v, hv⟩ := key
    exact ⟨v, Ev.step (f := fun _ => some v) hv (Ev.now _)⟩
  | succ d ih =>
    intro i n hi
    by_cases ha : bt s (i : Int) < 48
    · exact ⟨-1, Ev.step (f := fun _ => some (-1)) (fun k => by rw [spec_l1Num.l0, if_pos (by omega), if_pos (by omega), if_pos ha]) (Ev.now _)⟩
    by_cases hb : bt s (i : Int) > 57
    · exact ⟨-1, Ev.step (f := fun _ => some (-1)) (fun k => by rw [spec_l1Num.l0, if_pos (by omega), if_pos (by omega), if_neg ha, if_pos hb]) (Ev.now _)⟩
    by_cases hc : (i : Int) ≥ 9
    · exact ⟨-1, Ev.step (f := fun _ => some (-1)) (fun k => by rw [spec_l1Num.l0, if_pos (by omega), if_pos (by omega), if_neg ha, if_neg hb, if_pos hc]) (Ev.now _)⟩
    obtain ⟨v, hv⟩ := ih (i + 1) (wrap64 ((wrap64 (n * 10)) + (((bt s (i : Int)) - 48) % 256))) (by omega)
    exact ⟨v, Ev.step (fun k => by rw [spec_l1Num.l0, if_pos (by omega), if_pos (by omega), if_neg ha, if_neg hb, if_neg hc, wrapIn (x := (i : Int) + 1) (by omega) (by omega), show ((i : Int) + 1) = ((i + 1 : Nat) : Int) by omega]) hv⟩
theorem snum_total (s : ByteArray) (hs : s.size ≤ 1073741824) : ∃ v, Ev (fun k => spec_l1Num.f k s) v := snum_any s hs s.size 0 0 (by omega)
theorem snum_from (ds : List Nat) (hl : ds.length ≤ 4) (h1 : 1 ≤ ds.length) (hs : ∀ a ∈ ds, a < 10) (hlead : 1 < ds.length → ds.head? ≠ some 0) : ∀ (e i n : Nat), ds.length = i + e → (n + 1) * 10 ^ e ≤ 1000000000 →
    Ev (fun k => spec_l1Num.l0 k (B (ds.map ch)) (n : Int) (i : Int)) ((sumD (ds.drop i) n : Nat) : Int) := by
  have hsz : (B (ds.map ch)).size = ds.length := by rw [B_size, List.length_map]
  have hbt : ∀ i (h : i < ds.length), bt (B (ds.map ch)) (i : Int) = ((48 + ds[i] : Nat) : Int) := fun i h => by
    have h' : i < (B (ds.map ch)).data.toList.length := by rw [B_data, List.length_map]; exact h
    rw [bt_get _ i h']
    have : (B (ds.map ch)).data.toList[i] = ch ds[i] := by simp only [B_data, List.getElem_map]
    rw [this, ch_nat _ (hs _ (List.getElem_mem h))]
  intro e
  induction e with
  | zero =>
    intro i n hi hb
    rw [List.drop_eq_nil_of_le (by omega)]
    refine Ev.step (f := fun _ => some ((n : Nat) : Int)) (fun k => ?_) (Ev.now _)
    rw [spec_l1Num.l0, if_neg (by omega), if_neg (by omega)]
    by_cases h : 1 < ds.length
    · rw [if_pos (by omega), if_pos (by omega), show (0 : Int) = ((0 : Nat) : Int) from rfl, hbt 0 (by omega), if_neg]
      intro h0
      apply hlead h
      rw [List.head?_eq_getElem?, List.getElem?_eq_getElem (by omega)]
      exact congrArg some (by omega)
    · rw [if_neg (by omega)]
  | succ e ih =>
    intro i n hi hb
    have hlt : i < ds.length := by omega
    have ha := hs ds[i] (List.getElem_mem hlt)
    rw [Nat.pow_succ, Nat.mul_comm (10 ^ e) 10, ← Nat.mul_assoc] at hb
    have hpos : 1 ≤ 10 ^ e := Nat.one_le_pow _ _ (by decide)
    have hle : (n + 1) * 10 ≤ 1000000000 := Nat.le_trans (Nat.le_mul_of_pos_right _ hpos) hb
    have h := ih (i + 1) (n * 10 + ds[i]) (by omega) (Nat.le_trans (Nat.mul_le_mul_right _ (by omega)) hb)
    rw [List.drop_eq_getElem_cons hlt]
    refine Ev.step (f := fun k => spec_l1Num.l0 k (B (ds.map ch)) ((n * 10 + ds[i] : Nat) : Int) ((i + 1 : Nat) : Int)) (fun k => ?_) h
    rw [spec_l1Num.l0, if_pos (by omega), if_pos (by omega), hbt i hlt, if_neg (by omega), if_neg (by omega), if_neg (by omega), wrapIn (x := (i : Int) + 1) (by omega) (by omega), wrapIn (x := (n : Int) * 10) (by omega) (by omega)]
    rw [wrapIn (by omega) (by omega)]
    rw [show ((i : Int) + 1) = ((i + 1 : Nat) : Int) by omega]
    rw [show (n : Int) * 10 + (((48 + ds[i] : Nat) : Int) - 48) % 256 = ((n * 10 + ds[i] : Nat) : Int) by omega]
theorem snum_text (n : Int) (h0 : 0 ≤ n) (h9 : n ≤ 9999) : Ev (fun k => spec_l1Num.f k (B (Lib.itoa n))) n := by
  obtain ⟨m, rfl⟩ := Int.eq_ofNat_of_zero_le h0
  obtain ⟨ds, h⟩ := figures m (by omega)
  have hp := snum_from ds h.four h.one h.small h.lead ds.length 0 0 (by omega) (by
    rw [Nat.zero_add, Nat.one_mul]
    exact Nat.le_trans (Nat.pow_le_pow_right (by decide) h.four) (by decide))
  rw [List.drop_zero, h.sum] at hp
  rw [itoa_nat _ h0, Int.toNat_natCast, h.text]
  exact hp
theorem itoa_signs (n : Int) (h0 : 0 ≤ n) (h9 : n ≤ 9999) : ∀ x ∈ Lib.itoa n, 48 ≤ x.toNat ∧ x.toNat ≤ 57 := by
  obtain ⟨m, rfl⟩ := Int.eq_ofNat_of_zero_le h0
  obtain ⟨ds, h⟩ := figures m (by omega)
  rw [itoa_nat _ h0, Int.toNat_natCast]
  exact ch_sign h
theorem cutAt_sum (c : UInt8) : ∀ l : List UInt8, l.length + 1 = ((cutAt c l).map fun p => p.length + 1).sum
  | [] => rfl
  | a :: l => by
    have ih := cutAt_sum c l
    rw [cutAt]
    by_cases e : a = c
    · rw [if_pos e, List.map_cons, List.sum_cons, List.length_cons, ← ih]
      simp only [List.length_nil]
      omega
    · rw [if_neg e]
      cases hq : cutAt c l with
      | nil => exact absurd hq (cutAt_ne c l)
      | cons y r =>
        rw [hq, List.map_cons, List.sum_cons] at ih
        simp only [front, List.map_cons, List.sum_cons, List.length_append, List.length_cons, List.length_nil]
        omega
theorem sum_le {α : Type} (f : α → Nat) (n : Nat) : ∀ l : List α, (∀ x ∈ l, f x ≤ n) → (l.map f).sum ≤ l.length * n
  | [], _ => by simp
  | x :: l, h => by
    have h1 := h x (by simp)
    have h2 := sum_le f n l (fun y hy => h y (by simp [hy]))
    rw [List.map_cons, List.sum_cons, List.length_cons, Nat.add_mul]
    omega
theorem label_le {s : ByteArray} (h : labelB s = true) : s.size ≤ 8 := by
  unfold labelB at h
  rw [Bool.and_eq_true] at h
  exact (of_decide_eq_true h.1).2
theorem domain_le {d : ByteArray} (h : domainB d = true) : d.size ≤ 26 := by
  unfold domainB at h
  rw [Bool.and_eq_true] at h
  have h3 := of_decide_eq_true h.2
  have hs := cutAt_sum 46 d.data.toList
  rw [← labels_data, List.map_map] at hs
  have hb := sum_le ((fun p : List UInt8 => p.length + 1) ∘ fun x : ByteArray => x.data.toList) 9 (labelsOf d) (fun x hx => by
    have := label_le (List.all_eq_true.1 h.1 x hx)
    show x.data.toList.length + 1 ≤ 9
    rw [data_length]
    omega)
  rw [data_length] at hs
  have : (labelsOf d).length * 9 ≤ 3 * 9 := Nat.mul_le_mul_right _ h3
  omega
theorem addrT_small {u d : ByteArray} (h : (nullB u d || addrB u d) = true) : (addrT u d).length ≤ 37 := by
  have hl := addrT_le u d
  cases hn : nullB u d
  · rw [hn, Bool.false_or] at h
    unfold addrB at h
    rw [Bool.and_eq_true] at h
    have := label_le h.1
    have := domain_le h.2
    omega
  · obtain ⟨rfl, rfl⟩ := null_empty hn
    simp only [B_size, List.length_nil] at hl
    omega
theorem mailT_small {u d : ByteArray} {ts : List S32} {body : List ByteArray} (h : mailB u d ts body = true) : (mailT u d ts body).length ≤ 800 := by
  obtain ⟨h1, h2, h3, _, h5⟩ := mail_parts h
  have hb := body_small h5
  have ha := addrT_small h1
  have ht : (toT ts).length ≤ ts.length * 42 := flat_le _ _ ts (fun a ha => by
    have := addrT_small (u := a.f0) (d := a.f1) (by rw [h3 a ha, Bool.or_true])
    simp only [List.length_append, List.length_cons, List.length_nil]
    omega)
  have hd : (body.flatMap fun s => dotL s.data.toList).length ≤ body.length * 43 := flat_le _ _ body (fun s hs => by
    have := (dotL_length s.data.toList).2
    have := hb.2.1 s hs
    rw [data_length] at *
    omega)
  have e1 : ts.length * 42 ≤ 4 * 42 := Nat.mul_le_mul_right _ h2.2
  have e2 : body.length * 43 ≤ 12 * 43 := Nat.mul_le_mul_right _ hb.1
  unfold mailT dotsL
  simp only [List.length_append, List.length_cons, List.length_nil]
  omega
end Go.Proofs.YtbncnjgflhoneaaGreatDoor.Hand
