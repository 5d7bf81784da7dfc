/- Of this claim, merged by program: Q12. -/
import Derived.Test.YtbncnjgflhoneaaGreatDoorG02
import Derived.Test.YtbncnjgflhoneaaGreatDoorG21
import Derived.Test.YtbncnjgflhoneaaGreatDoorG22
import Derived.Test.YtbncnjgflhoneaaGreatDoorG24
namespace Go.Proofs.YtbncnjgflhoneaaGreatDoor.Hand
open Go.RowKit Go.Proofs.YtbncnjgflhoneaaGreatDoor.F Go.Proofs.YtbncnjgflhoneaaGreatDoorW.PrintWords Go.Proofs.YtbncnjgflhoneaaGreatDoorW.PrintLast Go.Proofs.YtbncnjgflhoneaaGreatDoorW.PrintMore
abbrev NoteV : Type := Int × Int × ByteArray × ByteArray × Int × ByteArray × ByteArray × List S32 × List ByteArray
abbrev NoteR : Type := Int × Int × ByteArray × ByteArray × Int × ByteArray × ByteArray × List S32 × List ByteArray × Bool
def zeroR : NoteR := (0, 0, B [], B [], 0, B [], B [], [], [], false)
def zeroN : NoteV := (0, 0, B [], B [], 0, B [], B [], [], [])
def okC (l : List UInt8) (kind id : Int) (au ad : ByteArray) (now : Int) (u d : ByteArray) (ts : List S32) (body : List ByteArray) : Bool := noteB kind id au ad now u d ts body && decide (noteT kind id au ad now u d ts body = l)
def finC (l : List UInt8) (kind id : Int) (au ad : ByteArray) (now : Int) (u d : ByteArray) (ts : List S32) (body : List ByteArray) : NoteR := if okC l kind id au ad now u d ts body = true then (kind, id, au, ad, now, u, d, ts, body, true) else zeroR
def SmallC (au ad u d : ByteArray) (ts : List S32) (body : List ByteArray) : Prop := Short u d ts body ∧ au.size ≤ 1073741824 ∧ ad.size ≤ 1073741824
def okN (l : List UInt8) (n : NoteV) : Bool := okC l n.1 n.2.1 n.2.2.1 n.2.2.2.1 n.2.2.2.2.1 n.2.2.2.2.2.1 n.2.2.2.2.2.2.1 n.2.2.2.2.2.2.2.1 n.2.2.2.2.2.2.2.2
def finR (l : List UInt8) (n : NoteV) : NoteR := finC l n.1 n.2.1 n.2.2.1 n.2.2.2.1 n.2.2.2.2.1 n.2.2.2.2.2.1 n.2.2.2.2.2.2.1 n.2.2.2.2.2.2.2.1 n.2.2.2.2.2.2.2.2
def SmallN (n : NoteV) : Prop := SmallC n.2.2.1 n.2.2.2.1 n.2.2.2.2.2.1 n.2.2.2.2.2.2.1 n.2.2.2.2.2.2.2.1 n.2.2.2.2.2.2.2.2
theorem Ev.one {α : Type} {g : Nat → Option α} {a b : α} (h : Ev g a) (k : Ev g b) : a = b := by
  obtain ⟨K, h⟩ := h
  obtain ⟨K', k⟩ := k
  exact Option.some.inj ((h (max K K') (by omega)).symm.trans (k (max K K') (by omega)))
theorem bare_empty {u d : ByteArray} {ts : List S32} {body : List ByteArray} (h : bareB u d ts body = true) : u = B [] ∧ d = B [] ∧ ts = [] ∧ body = [] := by
  unfold bareB at h
  rw [Bool.and_eq_true, Bool.and_eq_true] at h
  obtain ⟨h1, h2, h3⟩ := h
  obtain ⟨hu, hd⟩ := null_empty h1
  exact ⟨hu, hd, List.eq_nil_of_length_eq_zero (of_decide_eq_true h2), List.eq_nil_of_length_eq_zero (of_decide_eq_true h3)⟩
theorem bare_short : Short (B []) (B []) [] [] := ⟨by decide, by decide, fun x h => absurd h (by simp), fun x h => absurd h (by simp), by simp, by simp⟩
theorem ij1_tells (s : ByteArray) (kind id : Int) (au ad : ByteArray) (now : Int) (u d : ByteArray) (ts : List S32) (body : List ByteArray) (h : SmallC au ad u d ts body) :
    Ev (fun k => impl_NoteGet.j1 k s kind id au ad now u d ts body) (finC s.data.toList kind id au ad now u d ts body) := by
  obtain ⟨hs, hau, had⟩ := h
  have hn := pnote_tells kind id au ad now u d ts body hs had
  have hp := pNotePut_tells kind id au ad now u d ts body hs hau had
  unfold finC okC
  refine Ev.step (f := fun k => (impl_NoteOk.f k kind id au ad now u d ts body).bind fun t136 => (if t136 = true then ((impl_NotePut.f k kind id au ad now u d ts body).bind fun t137 => (if t137.toList = s.toList then (some (kind, id, au, ad, now, u, d, ts, body, true)) else (some zeroR))) else (some zeroR))) (fun k => by rw [impl_NoteGet.j1]; rfl) ?_
  cases hb : noteB kind id au ad now u d ts body
  · rw [hb] at hn
    exact Ev.call hn (h := fun _ => some zeroR) (fun k => if_neg (by decide)) (Ev.now _)
  · rw [hb] at hn
    unfold putB at hp
    rw [if_pos hb] at hp
    refine Ev.call hn (fun k => if_pos rfl) (Ev.call hp (h := fun _ => some (if (true && decide (noteT kind id au ad now u d ts body = s.data.toList)) = true then (kind, id, au, ad, now, u, d, ts, body, true) else zeroR)) (fun k => ?_) (Ev.now _))
    rw [B_toList, toL, Bool.true_and]
    by_cases hq : noteT kind id au ad now u d ts body = s.data.toList
    · rw [if_pos hq, if_pos (decide_eq_true hq)]
    · rw [if_neg hq, if_neg (by simpa using hq)]
theorem psplit_one (s : ByteArray) (hs : s.size ≤ 1073741824) (c : UInt8) : strings_Split.f s (⟨#[c]⟩ : ByteArray) = some ((cutAt c s.data.toList).map B) := by
  unfold strings_Split.f
  rw [if_pos ⟨by omega, Nat.le_refl 1⟩]
  exact congrArg some (map_B _ _ (split_one c s.size s (Nat.le_refl _)))
theorem cutAt_le (c : UInt8) : ∀ l : List UInt8, ∀ x ∈ cutAt c l, x.length ≤ l.length
  | [], x, hx => by
    rw [cutAt, List.mem_singleton] at hx
    subst hx
    exact Nat.le_refl _
  | a :: l, x, hx => by
    rw [cutAt] at hx
    by_cases e : a = c
    · rw [if_pos e] at hx
      rcases List.mem_cons.1 hx with rfl | hx
      · exact Nat.zero_le _
      · have := cutAt_le c l x hx
        rw [List.length_cons]
        omega
    · rw [if_neg e] at hx
      have := front_le [a] _ _ (cutAt_le c l) x hx
      simpa using this
def wordsI (l : List UInt8) : List (List UInt8) := cutAt 32 (Lib.cut l [32]).2.1
def addrW (w : List (List UInt8)) : ByteArray × ByteArray × Bool := if 1 < w.length then addrI (w.getD 1 []) else (B [], B [], false)
def noteI (l : List UInt8) : NoteV :=
  if (Lib.cut l [32]).1 = [97, 100, 100] then (1, 0, B [], B [], (decV (Lib.cut (Lib.cut l [32]).2.1 [10]).1).1, (mailI (Lib.cut (Lib.cut l [32]).2.1 [10]).2.1).1, (mailI (Lib.cut (Lib.cut l [32]).2.1 [10]).2.1).2.1, (mailI (Lib.cut (Lib.cut l [32]).2.1 [10]).2.1).2.2.1, (mailI (Lib.cut (Lib.cut l [32]).2.1 [10]).2.1).2.2.2.1)
  else if (Lib.cut l [32]).1 = [100, 111, 110, 101] then (2, (decV ((wordsI l).getD 0 [])).1, (addrW (wordsI l)).1, (addrW (wordsI l)).2.1, 0, B [], B [], [], [])
  else if (Lib.cut l [32]).1 = [108, 97, 116, 101, 114] then (3, (decV ((wordsI l).getD 0 [])).1, (addrW (wordsI l)).1, (addrW (wordsI l)).2.1, (decV ((wordsI l).getD ((wordsI l).length - 1) [])).1, B [], B [], [], [])
  else zeroN
theorem pdec_tells (l : List UInt8) (h : l.length ≤ 1073741824) : impl_decimal.f (B l) = some (decV l) := by
  unfold impl_decimal.f
  rw [if_pos (by rw [B_size]; omega), B_data]
theorem rd_word (w : List (List UInt8)) (i : Nat) (h : i < w.length) : rdOf ByteArray.empty (w.map B) (i : Int) = B (w.getD i []) := by
  rw [rdOf_mem' _ _ i (by rw [List.length_map]; exact h), List.getElem_map, List.getD_eq_getElem?_getD, List.getElem?_eq_getElem h]
  rfl
theorem getD_le (w : List (List UInt8)) (n : Nat) (h : ∀ x ∈ w, x.length ≤ n) (i : Nat) : (w.getD i []).length ≤ n := by
  rw [List.getD_eq_getElem?_getD]
  cases hq : w[i]? with
  | none => exact Nat.zero_le _
  | some x => exact h x (List.mem_of_getElem? hq)
theorem words_count (c : UInt8) (l : List UInt8) : (cutAt c l).length ≤ l.length + 1 := by
  rw [cutAt_sum c l]
  generalize cutAt c l = w
  induction w with
  | nil => exact Nat.le_refl _
  | cons x w ih => rw [List.map_cons, List.sum_cons, List.length_cons]; omega
theorem addrW_small (w : List (List UInt8)) (h : ∀ x ∈ w, x.length ≤ 820) : (addrW w).1.size ≤ 1073741824 ∧ (addrW w).2.1.size ≤ 1073741824 := by
  unfold addrW
  split
  · have h1 := addrI_le (w.getD 1 [])
    have h2 := getD_le w 820 h 1
    exact ⟨by omega, by omega⟩
  · exact ⟨by decide, by decide⟩
theorem ij0_tells (s : ByteArray) (word rest : List UInt8) (hr : rest.length ≤ 820) (late : Bool) (hw : late = true ↔ word = [108, 97, 116, 101, 114]) :
    Ev (fun k => impl_NoteGet.j0 k s (B word) (B rest) true 0 0 (B []) (B []) 0 (B []) (B [])) (finC s.data.toList (if late = true then 3 else 2) (decV ((cutAt 32 rest).getD 0 [])).1 (addrW (cutAt 32 rest)).1 (addrW (cutAt 32 rest)).2.1 (if late = true then (decV ((cutAt 32 rest).getD ((cutAt 32 rest).length - 1) [])).1 else 0) (B []) (B []) [] []) := by
  have hne := List.length_pos_iff.2 (cutAt_ne 32 rest)
  have hle := cutAt_le 32 rest
  have hlen := words_count 32 rest
  have hsm := addrW_small (cutAt 32 rest) (fun x hx => by have := hle x hx; omega)
  have base : ∀ k, impl_NoteGet.j0 (k + 1) s (B word) (B rest) true 0 0 (B []) (B []) 0 (B []) (B []) = ((some ((cutAt 32 rest).map B) : Option (List ByteArray))).bind fun t120 => (if 0 < (t120.length : Int) then ((impl_decimal.f (rdOf ByteArray.empty t120 0)).bind fun bt124 => (if (t120.length : Int) > 1 then (if 1 < (t120.length : Int) then ((impl_AddrGet.f k (rdOf ByteArray.empty t120 1)).bind fun bt127 => (if (B word).toList = ([108, 97, 116, 101, 114] : List UInt8) then (if 0 ≤ (wrap64 ((t120.length : Int) - 1)) then (if (wrap64 ((t120.length : Int) - 1)) < (t120.length : Int) then ((impl_decimal.f (rdOf ByteArray.empty t120 (wrap64 ((t120.length : Int) - 1)))).bind fun bt131 => (impl_NoteGet.j1 k s 3 bt124.1 bt127.1 bt127.2.1 bt131.1 (B []) (B []) ([] : List (S32)) ([] : List ByteArray))) else (none)) else (none)) else (impl_NoteGet.j1 k s 2 bt124.1 bt127.1 bt127.2.1 0 (B []) (B []) ([] : List (S32)) ([] : List ByteArray)))) else (none)) else (if (B word).toList = ([108, 97, 116, 101, 114] : List UInt8) then (if 0 ≤ (wrap64 ((t120.length : Int) - 1)) then (if (wrap64 ((t120.length : Int) - 1)) < (t120.length : Int) then ((impl_decimal.f (rdOf ByteArray.empty t120 (wrap64 ((t120.length : Int) - 1)))).bind fun bt134 => (impl_NoteGet.j1 k s 3 bt124.1 (B []) (B []) bt134.1 (B []) (B []) ([] : List (S32)) ([] : List ByteArray))) else (none)) else (none)) else (impl_NoteGet.j1 k s 2 bt124.1 (B []) (B []) 0 (B []) (B []) ([] : List (S32)) ([] : List ByteArray))))) else (none)) := fun k => by
    rw [impl_NoteGet.j0, if_pos rfl, psplit_one (B rest) (by rw [B_size]; omega), B_data]
  revert base hsm hlen hle hne
  generalize cutAt 32 rest = w
  intro hne hle hlen hsm base
  have hd : ∀ i, (w.getD i []).length ≤ 820 := fun i => getD_le w _ (fun x hx => by have := hle x hx; omega) i
  have hml : (w.map B).length = w.length := List.length_map ..
  have hr0 : rdOf ByteArray.empty (w.map B) 0 = B (w.getD 0 []) := rd_word w 0 hne
  have hrl : rdOf ByteArray.empty (w.map B) (((w.map B).length : Int) - 1) = B (w.getD (w.length - 1) []) := by
    rw [show ((w.map B).length : Int) - 1 = ((w.length - 1 : Nat) : Int) by omega]
    exact rd_word w _ (by omega)
  have hwr : wrap64 (((w.map B).length : Int) - 1) = ((w.map B).length : Int) - 1 := wrapIn (by omega) (by omega)
  have d0 := pdec_tells (w.getD 0 []) (by have := hd 0; omega)
  have dl := pdec_tells (w.getD (w.length - 1) []) (by have := hd (w.length - 1); omega)
  unfold addrW at hsm ⊢
  by_cases h1 : 1 < w.length
  · have hr1 : rdOf ByteArray.empty (w.map B) 1 = B (w.getD 1 []) := rd_word w 1 h1
    have ha := iaddr_tells (B (w.getD 1 [])) (by rw [B_size]; have := hd 1; omega)
    rw [B_data] at ha
    rw [if_pos h1] at hsm ⊢
    cases hl : late
    · have hl' : ¬ word = [108, 97, 116, 101, 114] := fun e => by have := hw.2 e; rw [hl] at this; cases this
      refine Ev.step (f := fun k => (impl_AddrGet.f k (B (w.getD 1 []))).bind fun bt127 => (impl_NoteGet.j1 k s 2 (decV (w.getD 0 [])).1 bt127.1 bt127.2.1 0 (B []) (B []) [] [])) (fun k => ?_) (Ev.bind ha (ij1_tells s 2 _ _ _ 0 (B []) (B []) [] [] ⟨bare_short, hsm⟩))
      rw [base, Option.bind_some, if_pos (by omega), hr0, d0, Option.bind_some, if_pos (by omega), if_pos (by omega), hr1, B_toList]
      refine congrArg _ (funext fun x => ?_)
      exact if_neg hl'
    · have hl' : word = [108, 97, 116, 101, 114] := hw.1 hl
      refine Ev.step (f := fun k => (impl_AddrGet.f k (B (w.getD 1 []))).bind fun bt127 => (impl_NoteGet.j1 k s 3 (decV (w.getD 0 [])).1 bt127.1 bt127.2.1 (decV (w.getD (w.length - 1) [])).1 (B []) (B []) [] [])) (fun k => ?_) (Ev.bind ha (ij1_tells s 3 _ _ _ _ (B []) (B []) [] [] ⟨bare_short, hsm⟩))
      rw [base, Option.bind_some, if_pos (by omega), hr0, d0, Option.bind_some, if_pos (by omega), if_pos (by omega), hr1, B_toList]
      refine congrArg _ (funext fun x => ?_)
      rw [if_pos hl', hwr, if_pos (by omega), if_pos (by omega), hrl, dl, Option.bind_some]
  · rw [if_neg h1] at hsm ⊢
    cases hl : late
    · have hl' : ¬ word = [108, 97, 116, 101, 114] := fun e => by have := hw.2 e; rw [hl] at this; cases this
      refine Ev.step (f := fun k => impl_NoteGet.j1 k s 2 (decV (w.getD 0 [])).1 (B []) (B []) 0 (B []) (B []) [] []) (fun k => ?_) (ij1_tells s 2 _ _ _ 0 (B []) (B []) [] [] ⟨bare_short, hsm⟩)
      rw [base, Option.bind_some, if_pos (by omega), hr0, d0, Option.bind_some, if_neg (by omega), B_toList, if_neg hl']
    · have hl' : word = [108, 97, 116, 101, 114] := hw.1 hl
      refine Ev.step (f := fun k => impl_NoteGet.j1 k s 3 (decV (w.getD 0 [])).1 (B []) (B []) (decV (w.getD (w.length - 1) [])).1 (B []) (B []) [] []) (fun k => ?_) (ij1_tells s 3 _ _ _ _ (B []) (B []) [] [] ⟨bare_short, hsm⟩)
      rw [base, Option.bind_some, if_pos (by omega), hr0, d0, Option.bind_some, if_neg (by omega), B_toList, if_pos hl', hwr, if_pos (by omega), if_pos (by omega), hrl, dl, Option.bind_some]
theorem inote_tells (s : ByteArray) : Ev (fun k => impl_NoteGet.f k s) (if s.data.toList.length > 820 then zeroR else finR s.data.toList (noteI s.data.toList)) := by
  have hl := data_length s
  by_cases h8 : s.size > 820
  · rw [if_pos (by omega)]
    refine Ev.congr (f := fun _ => some zeroR) (fun k => ?_) (Ev.now _)
    unfold impl_NoteGet.f
    rw [if_pos (by omega)]
    rfl
  rw [if_neg (by omega)]
  have hc := cut_le [32] s.data.toList
  have step : ∀ k, impl_NoteGet.f k s = (strings_Cut.f s (⟨#[32]⟩ : ByteArray)).bind fun bt103 => (if bt103.1.toList = ([97, 100, 100] : List UInt8) then ((strings_Cut.f bt103.2.1 (⟨#[10]⟩ : ByteArray)).bind fun bt106 => ((impl_decimal.f bt106.1).bind fun bt109 => ((impl_MailGet.f k bt106.2.1).bind fun bt111 => (impl_NoteGet.j1 k s 1 0 (⟨#[]⟩ : ByteArray) (⟨#[]⟩ : ByteArray) bt109.1 bt111.1 bt111.2.1 bt111.2.2.1 bt111.2.2.2.1)))) else (if bt103.1.toList = ([100, 111, 110, 101] : List UInt8) then (impl_NoteGet.j0 k s bt103.1 bt103.2.1 (bt103.1.toList == ([100, 111, 110, 101] : List UInt8)) 0 0 (⟨#[]⟩ : ByteArray) (⟨#[]⟩ : ByteArray) 0 (⟨#[]⟩ : ByteArray) (⟨#[]⟩ : ByteArray)) else (impl_NoteGet.j0 k s bt103.1 bt103.2.1 (bt103.1.toList == ([108, 97, 116, 101, 114] : List UInt8)) 0 0 (⟨#[]⟩ : ByteArray) (⟨#[]⟩ : ByteArray) 0 (⟨#[]⟩ : ByteArray) (⟨#[]⟩ : ByteArray)))) := fun k => by
    unfold impl_NoteGet.f
    rw [if_neg (by omega)]
  have e : strings_Cut.f s (⟨#[32]⟩ : ByteArray) = some (B (Lib.cut s.data.toList [32]).1, B (Lib.cut s.data.toList [32]).2.1, (Lib.cut s.data.toList [32]).2.2) := pcut_tells s _ (by omega)
  refine Ev.congr (fun k => (step k).trans (by rw [e, Option.bind_some, B_toList])) ?_
  unfold noteI wordsI
  generalize Lib.cut s.data.toList [32] = c at *
  obtain ⟨word, rest, fl⟩ := c
  have hc1 : rest.length ≤ 820 := by
    have h2 : rest.length ≤ s.data.toList.length := hc.2
    omega
  have hc2 := cut_le [10] rest
  show Ev (fun k => if word = [97, 100, 100] then ((strings_Cut.f (B rest) (⟨#[10]⟩ : ByteArray)).bind _) else _) (finR s.data.toList (if word = [97, 100, 100] then _ else if word = [100, 111, 110, 101] then _ else if word = [108, 97, 116, 101, 114] then _ else zeroN))
  by_cases hA : word = [97, 100, 100]
  · rw [if_pos hA]
    have e2 : strings_Cut.f (B rest) (⟨#[10]⟩ : ByteArray) = some (B (Lib.cut rest [10]).1, B (Lib.cut rest [10]).2.1, (Lib.cut rest [10]).2.2) := by
      have := pcut_tells (B rest) (⟨#[10]⟩ : ByteArray) (by rw [B_size]; omega)
      rw [B_data] at this
      exact this
    have e3 := pdec_tells (Lib.cut rest [10]).1 (by omega)
    have hm := imailget_tells (B (Lib.cut rest [10]).2.1)
    rw [B_data] at hm
    refine Ev.congr (f := fun k => (impl_MailGet.f k (B (Lib.cut rest [10]).2.1)).bind fun bt111 => (impl_NoteGet.j1 k s 1 0 (B []) (B []) (decV (Lib.cut rest [10]).1).1 bt111.1 bt111.2.1 bt111.2.2.1 bt111.2.2.2.1)) (fun k => ?_) (Ev.bind hm (ij1_tells s 1 0 (B []) (B []) _ _ _ _ _ ⟨mailI_short _, by decide, by decide⟩))
    refine (if_pos hA).trans ?_
    rw [e2, Option.bind_some]
    show (impl_decimal.f (B (Lib.cut rest [10]).1)).bind _ = _
    rw [e3, Option.bind_some]
    rfl
  rw [if_neg hA]
  by_cases hD : word = [100, 111, 110, 101]
  · rw [if_pos hD]
    have h := ij0_tells s word rest hc1 false (by rw [hD]; decide)
    refine Ev.congr (fun k => ?_) h
    refine (if_neg hA).trans ((if_pos hD).trans ?_)
    show impl_NoteGet.j0 k s (B word) (B rest) (word == _) 0 0 _ _ 0 _ _ = _
    rw [show (word == ([100, 111, 110, 101] : List UInt8)) = true from beq_iff_eq.2 hD]
    rfl
  rw [if_neg hD]
  by_cases hL : word = [108, 97, 116, 101, 114]
  · rw [if_pos hL]
    have h := ij0_tells s word rest hc1 true (by rw [hL]; decide)
    refine Ev.congr (fun k => ?_) h
    refine (if_neg hA).trans ((if_neg hD).trans ?_)
    show impl_NoteGet.j0 k s (B word) (B rest) (word == _) 0 0 _ _ 0 _ _ = _
    rw [show (word == ([108, 97, 116, 101, 114] : List UInt8)) = true from beq_iff_eq.2 hL]
    rfl
  · rw [if_neg hL]
    have h := ij1_tells s 0 0 (B []) (B []) 0 (B []) (B []) [] [] ⟨bare_short, by decide, by decide⟩
    refine Ev.congr (fun k => ?_) (Ev.step (g := fun k => impl_NoteGet.j0 k s (B word) (B rest) false 0 0 (B []) (B []) 0 (B []) (B [])) (fun k => by rw [impl_NoteGet.j0, if_neg (by decide)]) h)
    refine (if_neg hA).trans ((if_neg hD).trans ?_)
    show impl_NoteGet.j0 k s (B word) (B rest) (word == _) 0 0 _ _ 0 _ _ = _
    rw [show (word == ([108, 97, 116, 101, 114] : List UInt8)) = false from beq_eq_false_iff_ne.2 hL]
    rfl
theorem not_sign {l : List UInt8} {c : UInt8} (h : ∀ x ∈ l, 48 ≤ x.toNat ∧ x.toNat ≤ 57) (hc : c.toNat < 48) : c ∉ l := fun hx => by have := h c hx; omega
theorem not_addr {u d : ByteArray} (h : addrB u d = true) {c : UInt8} (hc : plainB c = false) : c ∉ addrT u d := fun hx => by
  have := addr_signs (u := u) (d := d) (by rw [h, Bool.or_true]) c hx
  rw [hc] at this
  cases this
theorem noteI_text {kind id : Int} {au ad : ByteArray} {now : Int} {u d : ByteArray} {ts : List S32} {body : List ByteArray} (h : noteB kind id au ad now u d ts body = true) : noteI (noteT kind id au ad now u d ts body) = (kind, id, au, ad, now, u, d, ts, body) := by
  rcases note_parts h with ⟨rfl, hm, n0, n9, rfl, hn⟩ | ⟨rfl, hb, i1, i9, ha, rfl⟩ | ⟨rfl, hb, i1, i9, ha, n0, n9⟩
  · obtain ⟨rfl, rfl⟩ := null_empty hn
    have e : noteT 1 0 (B []) (B []) now u d ts body = [97, 100, 100] ++ 32 :: (Lib.itoa now ++ 10 :: mailT u d ts body) := rfl
    have c1 : Lib.cut (noteT 1 0 (B []) (B []) now u d ts body) [32] = ([97, 100, 100], Lib.itoa now ++ 10 :: mailT u d ts body, true) := by rw [e]; exact cut_one 32 _ _ (by decide)
    have c2 : Lib.cut (Lib.itoa now ++ 10 :: mailT u d ts body) [10] = (Lib.itoa now, mailT u d ts body, true) := cut_one 10 _ _ (not_sign (itoa_signs now n0 n9) (by decide))
    unfold noteI
    rw [c1, if_pos rfl]
    show (1, 0, B [], B [], (decV (Lib.cut (Lib.itoa now ++ 10 :: mailT u d ts body) [10]).1).1, _) = _
    rw [c2]
    show (1, 0, B [], B [], (decV (Lib.itoa now)).1, (mailI (mailT u d ts body)).1, _) = _
    rw [decV_text now n0 n9, mailI_text hm (mailT_small hm)]
  · obtain ⟨rfl, rfl, rfl, rfl⟩ := bare_empty hb
    have e : noteT 2 id au ad 0 (B []) (B []) [] [] = [100, 111, 110, 101] ++ 32 :: (Lib.itoa id ++ 32 :: addrT au ad) := rfl
    have c1 : Lib.cut (noteT 2 id au ad 0 (B []) (B []) [] []) [32] = ([100, 111, 110, 101], Lib.itoa id ++ 32 :: addrT au ad, true) := by rw [e]; exact cut_one 32 _ _ (by decide)
    have hw : wordsI (noteT 2 id au ad 0 (B []) (B []) [] []) = [Lib.itoa id, addrT au ad] := by
      unfold wordsI
      rw [c1]
      show cutAt 32 (Lib.itoa id ++ 32 :: addrT au ad) = _
      rw [cutAt_one 32 _ _ (not_sign (itoa_signs id (by omega) (by omega)) (by decide)), cutAt_no 32 _ (not_addr ha (by decide))]
    unfold noteI
    rw [c1, if_neg (show ¬ ([100, 111, 110, 101] : List UInt8) = [97, 100, 100] by decide), if_pos rfl, hw]
    show (2, (decV (Lib.itoa id)).1, (addrI (addrT au ad)).1, (addrI (addrT au ad)).2.1, _) = _
    rw [decV_text id (by omega) (by omega), addrI_text (by rw [ha, Bool.or_true])]
  · obtain ⟨rfl, rfl, rfl, rfl⟩ := bare_empty hb
    have e : noteT 3 id au ad now (B []) (B []) [] [] = [108, 97, 116, 101, 114] ++ 32 :: (Lib.itoa id ++ 32 :: (addrT au ad ++ 32 :: Lib.itoa now)) := rfl
    have c1 : Lib.cut (noteT 3 id au ad now (B []) (B []) [] []) [32] = ([108, 97, 116, 101, 114], Lib.itoa id ++ 32 :: (addrT au ad ++ 32 :: Lib.itoa now), true) := by rw [e]; exact cut_one 32 _ _ (by decide)
    have hw : wordsI (noteT 3 id au ad now (B []) (B []) [] []) = [Lib.itoa id, addrT au ad, Lib.itoa now] := by
      unfold wordsI
      rw [c1]
      show cutAt 32 (Lib.itoa id ++ 32 :: (addrT au ad ++ 32 :: Lib.itoa now)) = _
      rw [cutAt_one 32 _ _ (not_sign (itoa_signs id (by omega) (by omega)) (by decide)), cutAt_one 32 _ _ (not_addr ha (by decide)), cutAt_no 32 _ (not_sign (itoa_signs now n0 n9) (by decide))]
    unfold noteI
    rw [c1, if_neg (show ¬ ([108, 97, 116, 101, 114] : List UInt8) = [97, 100, 100] by decide), if_neg (show ¬ ([108, 97, 116, 101, 114] : List UInt8) = [100, 111, 110, 101] by decide), if_pos rfl, hw]
    show (3, (decV (Lib.itoa id)).1, (addrI (addrT au ad)).1, (addrI (addrT au ad)).2.1, (decV (Lib.itoa now)).1, _) = _
    rw [decV_text id (by omega) (by omega), decV_text now n0 n9, addrI_text (by rw [ha, Bool.or_true])]
theorem addrS_small (w : List UInt8) (h : w.length ≤ 536870912) : (addrS w).1.size ≤ 1073741824 ∧ (addrS w).2.1.size ≤ 1073741824 := by
  have := addrS_le w
  exact ⟨by omega, by omega⟩
theorem sj2_true (w0 w1 w2 w3 : List UInt8) (h2 : w2.length ≤ 536870912) {v1 v3 : Int} (h1 : Ev (fun k => spec_l1Num.f k (B w1)) v1) (h3 : Ev (fun k => spec_l1Num.f k (B w3)) v3) :
    Ev (fun k => spec_l6Get.j2 k ([w0, w1, w2, w3].map B) true 0 0 (B []) (B []) 0 (B []) (B [])) (3, v1, (addrS w2).1, (addrS w2).2.1, v3, B [], B [], [], []) := by
  have ha := saddrget_tells (B w2) (by rw [B_size]; omega)
  rw [B_data] at ha
  refine Ev.step (f := fun k => (spec_l1Num.f k (B w1)).bind fun t134 => ((spec_AddrGet.f k (B w2)).bind fun bt136 => ((spec_l1Num.f k (B w3)).bind fun t141 => (some (3, t134, bt136.1, bt136.2.1, t141, B [], B [], ([] : List (S32)), ([] : List ByteArray)))))) (fun k => by rw [spec_l6Get.j2]; rfl) ?_
  exact Ev.bind h1 (Ev.bind ha (Ev.bind h3 (Ev.now _)))
theorem sj1_true (w0 w1 w2 : List UInt8) (h2 : w2.length ≤ 536870912) {v1 : Int} (h1 : Ev (fun k => spec_l1Num.f k (B w1)) v1) :
    Ev (fun k => spec_l6Get.j1 k ([w0, w1, w2].map B) true 0 0 (B []) (B []) 0 (B []) (B [])) (2, v1, (addrS w2).1, (addrS w2).2.1, 0, B [], B [], [], []) := by
  have ha := saddrget_tells (B w2) (by rw [B_size]; omega)
  rw [B_data] at ha
  refine Ev.step (f := fun k => (spec_l1Num.f k (B w1)).bind fun t126 => ((spec_AddrGet.f k (B w2)).bind fun bt128 => (some (2, t126, bt128.1, bt128.2.1, 0, B [], B [], ([] : List (S32)), ([] : List ByteArray))))) (fun k => by rw [spec_l6Get.j1]; rfl) ?_
  exact Ev.bind h1 (Ev.bind ha (Ev.now _))
theorem sj0_true (h0 h1 w0 w1 : List UInt8) {v1 : Int} (hv : Ev (fun k => spec_l1Num.f k (B w1)) v1) :
    Ev (fun k => spec_l6Get.j0 k ([h0, h1].map B) ([w0, w1].map B) true 0 0 (B []) (B []) 0 (B []) (B [])) (1, 0, B [], B [], v1, (mailS h1).1, (mailS h1).2.1, (mailS h1).2.2.1, (mailS h1).2.2.2.1) := by
  have hm := smailget_tells (B h1)
  rw [B_data] at hm
  refine Ev.step (f := fun k => (spec_l1Num.f k (B w1)).bind fun t112 => ((spec_MailGet.f k (B h1)).bind fun bt114 => (some (1, 0, B [], B [], t112, bt114.1, bt114.2.1, bt114.2.2.1, bt114.2.2.2.1)))) (fun k => by rw [spec_l6Get.j0]; rfl) ?_
  exact Ev.bind hv (Ev.bind hm (Ev.now _))
theorem sj2_false (w : List ByteArray) : Ev (fun k => spec_l6Get.j2 k w false 0 0 (B []) (B []) 0 (B []) (B [])) zeroN :=
  Ev.step (f := fun _ => some zeroN) (fun k => by rw [spec_l6Get.j2]; rfl) (Ev.now _)
theorem sj1_false (w0 : List UInt8) (r : List (List UInt8)) {q : NoteV} (h : Ev (fun k => spec_l6Get.j2 k ((w0 :: r).map B) (if w0 = [108, 97, 116, 101, 114] then ((((w0 :: r).map B).length : Int) == 4) else false) 0 0 (B []) (B []) 0 (B []) (B [])) q) :
    Ev (fun k => spec_l6Get.j1 k ((w0 :: r).map B) false 0 0 (B []) (B []) 0 (B []) (B [])) q := by
  refine Ev.step (fun k => ?_) h
  rw [spec_l6Get.j1, if_neg (by decide), if_pos (by rw [List.map_cons, List.length_cons]; omega), show rdOf ByteArray.empty ((w0 :: r).map B) 0 = B w0 from rfl, B_toList]
  split <;> rfl
theorem sj0_false (h : List ByteArray) (w0 : List UInt8) (r : List (List UInt8)) {q : NoteV} (hq : Ev (fun k => spec_l6Get.j1 k ((w0 :: r).map B) (if w0 = [100, 111, 110, 101] then ((((w0 :: r).map B).length : Int) == 3) else false) 0 0 (B []) (B []) 0 (B []) (B [])) q) :
    Ev (fun k => spec_l6Get.j0 k h ((w0 :: r).map B) false 0 0 (B []) (B []) 0 (B []) (B [])) q := by
  refine Ev.step (fun k => ?_) hq
  rw [spec_l6Get.j0, if_neg (by decide), if_pos (by rw [List.map_cons, List.length_cons]; omega), show rdOf ByteArray.empty ((w0 :: r).map B) 0 = B w0 from rfl, B_toList]
  split <;> rfl
theorem sget_of (s : ByteArray) (hs : s.size ≤ 536870912) (h0 : List UInt8) (hr : List (List UInt8)) (w0 : List UInt8) (wr : List (List UInt8)) (hh : cutM 10 1 s.data.toList = h0 :: hr) (hw : cutM 32 4 h0 = w0 :: wr) {q : NoteV}
    (hq : Ev (fun k => spec_l6Get.j0 k ((h0 :: hr).map B) ((w0 :: wr).map B) (if w0 = [97, 100, 100] then (if (((w0 :: wr).map B).length : Int) = 2 then ((((h0 :: hr).map B).length : Int) == 2) else false) else false) 0 0 (B []) (B []) 0 (B []) (B [])) q) :
    Ev (fun k => spec_l6Get.f k s) q := by
  have hl := data_length s
  have hhl := (cutM_le 10 s.data.toList 1).2 h0 (by rw [hh]; simp)
  have c1 := cut_tells s (by omega) 10 1 (by decide)
  have c2 := cut_tells (B h0) (by rw [B_size]; omega) 32 4 (by decide)
  rw [hh] at c1
  rw [B_data, hw] at c2
  unfold spec_l6Get.f
  refine Ev.bind c1 ?_
  refine Ev.congr (f := fun k => (spec_l1Cut.f k (B h0) 32 4).bind fun t106 => (if 0 < (t106.length : Int) then (if (rdOf ByteArray.empty t106 0).toList = ([97, 100, 100] : List UInt8) then (if (t106.length : Int) = 2 then (spec_l6Get.j0 k ((h0 :: hr).map B) t106 ((((h0 :: hr).map B).length : Int) == 2) 0 0 (B []) (B []) 0 (B []) (B [])) else (spec_l6Get.j0 k ((h0 :: hr).map B) t106 false 0 0 (B []) (B []) 0 (B []) (B []))) else (spec_l6Get.j0 k ((h0 :: hr).map B) t106 false 0 0 (B []) (B []) 0 (B []) (B []))) else (none))) (fun k => ?_) ?_
  · exact if_pos (by rw [List.map_cons, List.length_cons]; omega)
  · refine Ev.bind c2 (Ev.congr (fun k => ?_) hq)
    show (if 0 < (((w0 :: wr).map B).length : Int) then _ else _) = _
    rw [if_pos (by rw [List.map_cons, List.length_cons]; omega), show rdOf ByteArray.empty ((w0 :: wr).map B) 0 = B w0 from rfl, B_toList]
    split
    · split <;> rfl
    · rfl
theorem cutM_cons (c : UInt8) (m : Nat) (l : List UInt8) : ∃ x r, cutM c m l = x :: r := by
  cases h : cutM c m l with
  | nil => exact absurd h (cutM_ne c m l)
  | cons x r => exact ⟨x, r, rfl⟩
theorem sget_total (s : ByteArray) (hs : s.size ≤ 820) : ∃ q : NoteV, Ev (fun k => spec_l6Get.f k s) q ∧ SmallN q := by
  have hl := data_length s
  obtain ⟨h0, hr, hh⟩ := cutM_cons 10 1 s.data.toList
  obtain ⟨w0, wr, hw⟩ := cutM_cons 32 4 h0
  have hhl := (cutM_le 10 s.data.toList 1).2 h0 (by rw [hh]; simp)
  have hwl := (cutM_le 32 h0 4).2
  rw [hw] at hwl
  have num : ∀ x ∈ w0 :: wr, ∃ v, Ev (fun k => spec_l1Num.f k (B x)) v := fun x hx => snum_total (B x) (by rw [B_size]; have := hwl x hx; omega)
  have zs : SmallN zeroN := ⟨bare_short, by decide, by decide⟩
  have later : ∃ q : NoteV, Ev (fun k => spec_l6Get.j2 k ((w0 :: wr).map B) (if w0 = [108, 97, 116, 101, 114] then ((((w0 :: wr).map B).length : Int) == 4) else false) 0 0 (B []) (B []) 0 (B []) (B [])) q ∧ SmallN q := by
    by_cases hL : w0 = [108, 97, 116, 101, 114]
    · rw [if_pos hL]
      match wr, hwl, num with
      | [w1, w2, w3], hwl, num =>
        obtain ⟨v1, e1⟩ := num w1 (by simp)
        obtain ⟨v3, e3⟩ := num w3 (by simp)
        have h2 := hwl w2 (by simp)
        exact ⟨_, sj2_true w0 w1 w2 w3 (by omega) e1 e3, bare_short, addrS_small w2 (by omega)⟩
      | [], _, _ => exact ⟨_, sj2_false _, zs⟩
      | [_], _, _ => exact ⟨_, sj2_false _, zs⟩
      | [_, _], _, _ => exact ⟨_, sj2_false _, zs⟩
      | w1 :: w2 :: w3 :: w4 :: r, _, _ =>
        refine ⟨zeroN, Ev.congr (fun k => ?_) (sj2_false ((w0 :: w1 :: w2 :: w3 :: w4 :: r).map B)), zs⟩
        rw [show ((((w0 :: w1 :: w2 :: w3 :: w4 :: r).map B).length : Int) == 4) = false from beq_eq_false_iff_ne.2 (by simp only [List.length_map, List.length_cons]; omega)]
    · rw [if_neg hL]
      exact ⟨_, sj2_false _, zs⟩
  have done : ∃ q : NoteV, Ev (fun k => spec_l6Get.j1 k ((w0 :: wr).map B) (if w0 = [100, 111, 110, 101] then ((((w0 :: wr).map B).length : Int) == 3) else false) 0 0 (B []) (B []) 0 (B []) (B [])) q ∧ SmallN q := by
    obtain ⟨q, hq, hq'⟩ := later
    have no := sj1_false w0 wr hq
    by_cases hD : w0 = [100, 111, 110, 101]
    · rw [if_pos hD]
      match wr, hwl, num, no with
      | [w1, w2], hwl, num, _ =>
        obtain ⟨v1, e1⟩ := num w1 (by simp)
        have h2 := hwl w2 (by simp)
        exact ⟨_, sj1_true w0 w1 w2 (by omega) e1, bare_short, addrS_small w2 (by omega)⟩
      | [], _, _, no => exact ⟨q, no, hq'⟩
      | [_], _, _, no => exact ⟨q, no, hq'⟩
      | w1 :: w2 :: w3 :: r, _, _, no =>
        refine ⟨q, Ev.congr (fun k => ?_) no, hq'⟩
        rw [show ((((w0 :: w1 :: w2 :: w3 :: r).map B).length : Int) == 3) = false from beq_eq_false_iff_ne.2 (by simp only [List.length_map, List.length_cons]; omega)]
    · rw [if_neg hD]
      exact ⟨q, no, hq'⟩
  obtain ⟨q, hq, hq'⟩ := done
  have no := sj0_false ((h0 :: hr).map B) w0 wr hq
  have top : ∃ q : NoteV, Ev (fun k => spec_l6Get.j0 k ((h0 :: hr).map B) ((w0 :: wr).map B) (if w0 = [97, 100, 100] then (if (((w0 :: wr).map B).length : Int) = 2 then ((((h0 :: hr).map B).length : Int) == 2) else false) else false) 0 0 (B []) (B []) 0 (B []) (B [])) q ∧ SmallN q := by
    by_cases hA : w0 = [97, 100, 100]
    · rw [if_pos hA]
      by_cases h2 : (((w0 :: wr).map B).length : Int) = 2
      · rw [if_pos h2]
        cases h3 : ((((h0 :: hr).map B).length : Int) == 2)
        · exact ⟨q, no, hq'⟩
        · have h3 := beq_iff_eq.1 h3
          simp only [List.length_map, List.length_cons] at h2 h3
          match wr, hr, h2, h3, num with
          | [w1], [h1], _, _, num =>
            obtain ⟨v1, e1⟩ := num w1 (by simp)
            exact ⟨_, sj0_true h0 h1 w0 w1 e1, mailS_short _, (by decide : (B []).size ≤ 1073741824), (by decide : (B []).size ≤ 1073741824)⟩
          | [], _, h2, _, _ => simp at h2
          | _ :: _ :: _, _, h2, _, _ => simp at h2; omega
          | [_], [], _, h3, _ => simp at h3
          | [_], _ :: _ :: _, _, h3, _ => simp at h3; omega
      · rw [if_neg h2]
        exact ⟨q, no, hq'⟩
    · rw [if_neg hA]
      exact ⟨q, no, hq'⟩
  obtain ⟨q, hq, hq'⟩ := top
  exact ⟨q, sget_of s (by omega) h0 hr w0 wr hh hw hq, hq'⟩
end Go.Proofs.YtbncnjgflhoneaaGreatDoor.Hand
