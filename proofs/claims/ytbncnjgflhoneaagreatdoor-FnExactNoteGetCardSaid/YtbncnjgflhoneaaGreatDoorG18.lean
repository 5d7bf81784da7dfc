/- Of this claim, merged by program: Q9. -/
import Derived.Test.YtbncnjgflhoneaaGreatDoorG02
import Derived.Test.YtbncnjgflhoneaaGreatDoorG16
import Derived.Test.YtbncnjgflhoneaaGreatDoorG17
namespace Go.Proofs.YtbncnjgflhoneaaGreatDoor.Hand
open Go.RowKit Go.Proofs.YtbncnjgflhoneaaGreatDoor.F Go.Proofs.YtbncnjgflhoneaaGreatDoorW.PrintWords Go.Proofs.YtbncnjgflhoneaaGreatDoorW.PrintLast Go.Proofs.YtbncnjgflhoneaaGreatDoorW.PrintMore
def pieces (l : List UInt8) : List (List UInt8) := (crlf l).1 ++ [(crlf l).2]
theorem split_crlf : ∀ (n : Nat) (s : ByteArray), s.size ≤ n → (Lib.splitB (⟨#[13, 10]⟩ : ByteArray) 0 (Lib.countB s (⟨#[13, 10]⟩ : ByteArray)) s).map (·.data.toList) = pieces s.data.toList := by
  intro n
  have h2 : (⟨#[13, 10]⟩ : ByteArray).size = 2 := rfl
  have hd2 : (⟨#[13, 10]⟩ : ByteArray).data.toList = [13, 10] := rfl
  have miss : ∀ s : ByteArray, Lib.indexB s (⟨#[13, 10]⟩ : ByteArray) = -1 → (Lib.splitB (⟨#[13, 10]⟩ : ByteArray) 0 (Lib.countB s (⟨#[13, 10]⟩ : ByteArray)) s).map (·.data.toList) = pieces s.data.toList := fun s h => by
    have hc := (Lib.cutB_miss s _ h).2.2
    rw [hd2] at hc
    rw [Lib.countB_miss _ _ h, Lib.splitB_zero, List.map_singleton]
    unfold pieces
    rw [crlf_cut, if_neg (by rw [hc]; decide)]
    rfl
  induction n with
  | zero =>
    intro s hs
    rcases Lib.indexB_cases s (⟨#[13, 10]⟩ : ByteArray) with h | ⟨i, _, hr⟩
    · exact miss s h
    · rw [h2] at hr
      omega
  | succ n ih =>
    intro s hs
    rcases Lib.indexB_cases s (⟨#[13, 10]⟩ : ByteArray) with h | ⟨i, hi, hr⟩
    · exact miss s h
    · rw [h2] at hr
      obtain ⟨c1, c2, c3⟩ := Lib.cutB_hit s _ i hi
      rw [hd2] at c1 c2 c3
      have e1 : (s.extract 0 i).data.toList = (Lib.cut s.data.toList [13, 10]).1 := by rw [← c1]
      have e2 : (s.extract (i + 2) s.size).data.toList = (Lib.cut s.data.toList [13, 10]).2.1 := by rw [show i + 2 = i + (⟨#[13, 10]⟩ : ByteArray).size from rfl, ← c2]
      rw [Lib.countB_hit _ _ i (by decide) hi, Nat.add_comm 1, Lib.splitB_hit _ _ _ _ i hi, List.map_cons, h2, ih _ (by simp [ByteArray.size_extract]; omega), Nat.add_zero, e1, e2]
      have e3 : pieces s.data.toList = (Lib.cut s.data.toList [13, 10]).1 :: pieces (Lib.cut s.data.toList [13, 10]).2.1 := by
        unfold pieces
        rw [crlf_cut s.data.toList, if_pos c3]
        rfl
      rw [e3]
theorem map_B (L : List ByteArray) (M : List (List UInt8)) (h : L.map (·.data.toList) = M) : L = M.map B := by
  rw [← h, List.map_map]
  have : (B ∘ fun x : ByteArray => x.data.toList) = id := funext fun s => B_of s
  rw [this, List.map_id]
theorem psplit_tells (s : ByteArray) (hs : s.size ≤ 1073741824) : strings_Split.f s (⟨#[13, 10]⟩ : ByteArray) = some ((pieces s.data.toList).map B) := by
  unfold strings_Split.f
  rw [if_pos ⟨by omega, by decide⟩, map_B _ _ (split_crlf s.size s (Nat.le_refl _))]
theorem pieces_le (l : List UInt8) : (pieces l).length ≤ l.length + 1 ∧ ∀ x ∈ pieces l, x.length ≤ l.length := by
  have h := crlf_le l
  unfold pieces
  refine ⟨by rw [List.length_append, List.length_singleton]; omega, fun x hx => ?_⟩
  rcases List.mem_append.1 hx with hx | hx
  · exact h.2.1 x hx
  · rw [List.mem_singleton] at hx
    subst hx
    exact h.2.2
def Part (n : Nat) (u d : ByteArray) (ts : List S32) : Prop := u.size ≤ 800 ∧ d.size ≤ 800 ∧ ts.length ≤ n ∧ ∀ a ∈ ts, a.f0.size ≤ 800 ∧ a.f1.size ≤ 800
theorem Part.short {n : Nat} {u d : ByteArray} {ts : List S32} (h : Part n u d ts) (hn : n ≤ 1073741824) {body : List ByteArray} (hb : body.length ≤ 1073741824 ∧ ∀ s ∈ body, s.size ≤ 1073741824) : Short u d ts body :=
  ⟨by have := h.1; omega, by have := h.2.1; omega, fun a ha => by have := h.2.2.2 a ha; exact ⟨by omega, by omega⟩, hb.2, by have := h.2.2.1; omega, hb.1⟩
def headI : List (List UInt8) → Nat → ByteArray → ByteArray → List S32 → Option (ByteArray × ByteArray × List S32)
  | [], _, u, d, ts => some (u, d, ts)
  | t :: r, i, u, d, ts =>
    if (addrI (Lib.cut t [32]).2.1).2.2 = true then (if i = 0 then headI r (i + 1) (addrI (Lib.cut t [32]).2.1).1 (addrI (Lib.cut t [32]).2.1).2.1 ts else headI r (i + 1) u d (ts ++ [⟨(addrI (Lib.cut t [32]).2.1).1, (addrI (Lib.cut t [32]).2.1).2.1⟩]))
    else none
abbrev Mail : Type := ByteArray × ByteArray × List S32 × List ByteArray × Bool
def noMail : Mail := (B [], B [], [], [], false)
def putM (u d : ByteArray) (ts : List S32) (body : List ByteArray) : List UInt8 := if mailB u d ts body = true then mailT u d ts body else []
def finI (s b : List UInt8) (u d : ByteArray) (ts : List S32) : Mail := if (dotG b).2 = true then (if putM u d ts (dotG b).1 = s then (u, d, ts, (dotG b).1, true) else noMail) else noMail
def endI (s b : List UInt8) : Option (ByteArray × ByteArray × List S32) → Mail
  | none => noMail
  | some (u, d, ts) => finI s b u d ts
theorem impput_tells (u d : ByteArray) (ts : List S32) (body : List ByteArray) (hs : Short u d ts body) : Ev (fun k => impl_MailPut.f k u d ts body) (B (putM u d ts body)) := by
  unfold putM
  cases hm : mailB u d ts body
  · refine Ev.congr (f := fun _ => some (B [])) (fun k => ?_) (Ev.now _)
    unfold impl_MailPut.f
    rw [pmail_tells u d ts body hs, hm, Option.bind_some]
    rfl
  · exact pput_tells u d ts body hs hm
theorem imail_from (s b : ByteArray) (hb : b.size ≤ 800) (L : List (List UInt8)) (hL : L.length ≤ 801) (hLs : ∀ t ∈ L, t.length ≤ 800) : ∀ (e i : Nat) (u d : ByteArray) (ts : List S32), L.length = i + e → Part i u d ts →
    Ev (fun k => impl_MailGet.l0 k s b (L.map B) ((L.map B).length : Int) (i : Int) u d ts) (endI s.data.toList b.data.toList (headI (L.drop i) i u d ts)) := by
  have hml : (L.map B).length = L.length := List.length_map ..
  intro e
  induction e with
  | zero =>
    intro i u d ts hi hp
    rw [List.drop_eq_nil_of_le (by omega)]
    refine Ev.step (f := fun k => (impl_DotGet.f k b).bind fun bt120 => (if bt120.2 = true then ((impl_MailPut.f k u d ts bt120.1).bind fun t124 => (if t124.toList = s.toList then (some (u, d, ts, bt120.1, true)) else (some ((⟨#[]⟩ : ByteArray), (⟨#[]⟩ : ByteArray), ([] : List (S32)), ([] : List ByteArray), false)))) else (some ((⟨#[]⟩ : ByteArray), (⟨#[]⟩ : ByteArray), ([] : List (S32)), ([] : List ByteArray), false)))) (fun k => by
      rw [impl_MailGet.l0, if_neg (by omega)]) ?_
    have hd := idotget_tells b (by omega)
    have hsm := dotG_small b.data.toList
    refine Ev.bind hd ?_
    show Ev _ (finI s.data.toList b.data.toList u d ts)
    unfold finI
    by_cases h2 : (dotG b.data.toList).2 = true
    · refine Ev.congr (fun k => if_pos h2) ?_
      refine Ev.call (impput_tells u d ts _ (hp.short (by omega) hsm)) (h := fun _ => some (if (dotG b.data.toList).2 = true then (if putM u d ts (dotG b.data.toList).1 = s.data.toList then (u, d, ts, (dotG b.data.toList).1, true) else noMail) else noMail)) (fun k => ?_) (Ev.now _)
      rw [if_pos h2, B_toList, toL]
      by_cases hq : putM u d ts (dotG b.data.toList).1 = s.data.toList
      · rw [if_pos hq, if_pos hq]
      · rw [if_neg hq, if_neg hq]
        rfl
    · rw [if_neg h2]
      exact Ev.congr (fun k => if_neg h2) (Ev.now _)
  | succ e ih =>
    intro i u d ts hi hp
    have hlt : i < L.length := by omega
    have hlt' : i < (L.map B).length := by omega
    have hr : rdOf ByteArray.empty (L.map B) (i : Int) = B L[i] := by rw [rdOf_mem' _ _ i hlt', List.getElem_map]
    have ht := hLs L[i] (List.getElem_mem hlt)
    have hc := (cut_le [32] L[i]).2
    have ha := iaddr_tells (B (Lib.cut L[i] [32]).2.1) (by rw [B_size]; omega)
    have hal := addrI_le (Lib.cut L[i] [32]).2.1
    rw [B_data] at ha
    rw [List.drop_eq_getElem_cons hlt, headI]
    refine Ev.step (f := fun k => (impl_AddrGet.f k (B (Lib.cut L[i] [32]).2.1)).bind fun bt113 => (if bt113.2.2 = true then (if (i : Int) = 0 then (impl_MailGet.l0 k s b (L.map B) ((L.map B).length : Int) ((i + 1 : Nat) : Int) bt113.1 bt113.2.1 ts) else (if ts.length < 4398046511104 then (impl_MailGet.l0 k s b (L.map B) ((L.map B).length : Int) ((i + 1 : Nat) : Int) u d (ts ++ [(⟨bt113.1, bt113.2.1⟩ : S32)])) else (none))) else (some ((⟨#[]⟩ : ByteArray), (⟨#[]⟩ : ByteArray), ([] : List (S32)), ([] : List ByteArray), false)))) (fun k => by
      rw [impl_MailGet.l0, if_pos (by omega), if_pos (by omega), if_pos (by omega), hr, pcut_tells _ _ (by rw [B_size]; omega), Option.bind_some, B_data, wrapIn (x := (i : Int) + 1) (by omega) (by omega), show ((i : Int) + 1) = ((i + 1 : Nat) : Int) by omega]) ?_
    refine Ev.bind ha ?_
    by_cases hok : (addrI (Lib.cut L[i] [32]).2.1).2.2 = true
    · refine Ev.congr (fun k => if_pos hok) ?_
      rw [if_pos hok]
      by_cases h0 : i = 0
      · rw [if_pos h0]
        refine Ev.congr (fun k => if_pos (by omega)) (ih (i + 1) _ _ ts (by omega) ⟨by omega, by omega, by have := hp.2.2.1; omega, hp.2.2.2⟩)
      · rw [if_neg h0]
        have hl3 := hp.2.2.1
        refine Ev.congr (fun k => (if_neg (by omega)).trans (if_pos (by omega))) (ih (i + 1) u d _ (by omega) ⟨hp.1, hp.2.1, by rw [List.length_append, List.length_singleton]; omega, fun a ha => ?_⟩)
        rcases List.mem_append.1 ha with ha | ha
        · exact hp.2.2.2 a ha
        · rw [List.mem_singleton] at ha
          subst ha
          exact ⟨by show (addrI _).1.size ≤ 800; omega, by show (addrI _).2.1.size ≤ 800; omega⟩
    · rw [if_neg hok]
      exact Ev.congr (fun k => if_neg hok) (Ev.now _)
def mailI (l : List UInt8) : Mail := if l.length > 800 then noMail else if (Lib.cut l [13, 10, 13, 10]).2.2 = true then endI l (Lib.cut l [13, 10, 13, 10]).2.1 (headI (pieces (Lib.cut l [13, 10, 13, 10]).1) 0 (B []) (B []) []) else noMail
theorem imailget_tells (s : ByteArray) : Ev (fun k => impl_MailGet.f k s) (mailI s.data.toList) := by
  have hl := data_length s
  have hc := cut_le [13, 10, 13, 10] s.data.toList
  unfold mailI
  by_cases h8 : s.size > 800
  · rw [if_pos (by omega)]
    refine Ev.congr (f := fun _ => some noMail) (fun k => ?_) (Ev.now _)
    unfold impl_MailGet.f
    rw [if_pos (by omega)]
    rfl
  · rw [if_neg (by omega)]
    have step : ∀ k, impl_MailGet.f k s = if (Lib.cut s.data.toList [13, 10, 13, 10]).2.2 = true then (impl_MailGet.l0 k s (B (Lib.cut s.data.toList [13, 10, 13, 10]).2.1) ((pieces (Lib.cut s.data.toList [13, 10, 13, 10]).1).map B) (((pieces (Lib.cut s.data.toList [13, 10, 13, 10]).1).map B).length : Int) ((0 : Nat) : Int) (B []) (B []) []) else some noMail := fun k => by
      unfold impl_MailGet.f
      rw [if_neg (by omega), pcut_tells _ _ (by omega), Option.bind_some]
      show (if (Lib.cut s.data.toList [13, 10, 13, 10]).2.2 = true then (strings_Split.f (B (Lib.cut s.data.toList [13, 10, 13, 10]).1) _).bind _ else _) = _
      rw [psplit_tells _ (by rw [B_size]; omega), Option.bind_some, B_data]
      rfl
    refine Ev.congr step ?_
    by_cases hf : (Lib.cut s.data.toList [13, 10, 13, 10]).2.2 = true
    · rw [if_pos hf]
      refine Ev.congr (fun k => if_pos hf) ?_
      have hp := pieces_le (Lib.cut s.data.toList [13, 10, 13, 10]).1
      have h := imail_from s (B (Lib.cut s.data.toList [13, 10, 13, 10]).2.1) (by rw [B_size]; omega) (pieces (Lib.cut s.data.toList [13, 10, 13, 10]).1) (by omega) (fun t ht => by have := hp.2 t ht; omega) _ 0 (B []) (B []) [] (Nat.zero_add _).symm ⟨by decide, by decide, by decide, fun _ h => by cases h⟩
      rw [List.drop_zero, B_data] at h
      exact h
    · rw [if_neg hf]
      exact Ev.congr (fun k => if_neg hf) (Ev.now _)
theorem noMail_short : Short noMail.1 noMail.2.1 noMail.2.2.1 noMail.2.2.2.1 := ⟨by decide, by decide, fun _ h => absurd h (by unfold noMail; simp), fun _ h => absurd h (by unfold noMail; simp), by decide, by decide⟩
theorem headI_part : ∀ (L : List (List UInt8)) (i : Nat) (u d : ByteArray) (ts : List S32), (∀ t ∈ L, t.length ≤ 800) → Part i u d ts → ∀ q, headI L i u d ts = some q → Part (i + L.length) q.1 q.2.1 q.2.2
  | [], i, u, d, ts, _, hp, q, h => by
    injection h with h
    subst h
    exact hp
  | t :: r, i, u, d, ts, hL, hp, q, h => by
    have ht := hL t (by simp)
    have hr : ∀ t ∈ r, t.length ≤ 800 := fun x hx => hL x (by simp [hx])
    have hc := (cut_le [32] t).2
    have hal := addrI_le (Lib.cut t [32]).2.1
    rw [headI] at h
    rw [List.length_cons, show i + (r.length + 1) = (i + 1) + r.length by omega]
    split at h
    · split at h
      · exact headI_part r (i + 1) _ _ ts hr ⟨by omega, by omega, by have := hp.2.2.1; omega, hp.2.2.2⟩ q h
      · refine headI_part r (i + 1) u d _ hr ⟨hp.1, hp.2.1, by rw [List.length_append, List.length_singleton]; have := hp.2.2.1; omega, fun a ha => ?_⟩ q h
        rcases List.mem_append.1 ha with ha | ha
        · exact hp.2.2.2 a ha
        · rw [List.mem_singleton] at ha
          subst ha
          exact ⟨by show (addrI _).1.size ≤ 800; omega, by show (addrI _).2.1.size ≤ 800; omega⟩
    · cases h
theorem mailI_short (l : List UInt8) : Short (mailI l).1 (mailI l).2.1 (mailI l).2.2.1 (mailI l).2.2.2.1 := by
  have hc := cut_le [13, 10, 13, 10] l
  unfold mailI
  split
  · exact noMail_short
  · split
    · rename_i h8 _
      have hp := pieces_le (Lib.cut l [13, 10, 13, 10]).1
      cases hq : headI (pieces (Lib.cut l [13, 10, 13, 10]).1) 0 (B []) (B []) [] with
      | none => exact noMail_short
      | some q =>
        have hP := headI_part _ 0 (B []) (B []) [] (fun t ht => by have := hp.2 t ht; omega) ⟨by decide, by decide, by decide, fun _ h => by cases h⟩ q hq
        obtain ⟨u, d, ts⟩ := q
        show Short (finI l _ u d ts).1 (finI l _ u d ts).2.1 (finI l _ u d ts).2.2.1 (finI l _ u d ts).2.2.2.1
        unfold finI
        split
        · split
          · exact hP.short (by omega) (dotG_small _)
          · exact noMail_short
        · exact noMail_short
    · exact noMail_short
theorem cut_skip (x : UInt8) (t s : List UInt8) : ∀ a : List UInt8, x ∉ a → Lib.cut (a ++ s) (x :: t) = if (Lib.cut s (x :: t)).2.2 = true then (a ++ (Lib.cut s (x :: t)).1, (Lib.cut s (x :: t)).2.1, true) else (a ++ s, [], false)
  | [], _ => by
    rw [List.nil_append]
    unfold Lib.cut
    split <;> rfl
  | y :: a, h => by
    rw [List.mem_cons, not_or] at h
    rw [List.cons_append, cut_cons, if_neg (by simp only [List.isPrefixOf]; simp; exact fun e => absurd e h.1), cut_skip x t s a h.2]
    obtain ⟨p, q, f⟩ := Lib.cut s (x :: t)
    cases f <;> rfl
def flatL (L : List (List UInt8)) : List UInt8 := L.flatMap fun x => x ++ [13, 10]
def joinL : List (List UInt8) → List UInt8
  | [] => []
  | [x] => x
  | x :: y :: r => x ++ 13 :: 10 :: joinL (y :: r)
def Line (x : List UInt8) : Prop := (13 : UInt8) ∉ x ∧ x ≠ []
theorem cut_here (b : List UInt8) : Lib.cut (13 :: 10 :: 13 :: 10 :: b) [13, 10, 13, 10] = ([], b, true) := by
  rw [cut_cons, if_pos (by simp)]
  rfl
theorem cut_next (c : UInt8) (hc : c ≠ 13) (l : List UInt8) : Lib.cut (13 :: 10 :: c :: l) [13, 10, 13, 10] = if (Lib.cut (c :: l) [13, 10, 13, 10]).2.2 = true then (13 :: 10 :: (Lib.cut (c :: l) [13, 10, 13, 10]).1, (Lib.cut (c :: l) [13, 10, 13, 10]).2.1, true) else (13 :: 10 :: c :: l, [], false) := by
  have e1 := cut_cons 13 (10 :: c :: l) [13, 10, 13, 10]
  rw [if_neg (by simp only [List.isPrefixOf]; simp; exact fun e => absurd e.symm hc)] at e1
  have e2 := cut_cons 10 (c :: l) [13, 10, 13, 10]
  rw [if_neg (by simp [List.isPrefixOf])] at e2
  rw [e1, e2]
  obtain ⟨p, q, t⟩ := Lib.cut (c :: l) [13, 10, 13, 10]
  cases t <;> rfl
theorem cut_head (b : List UInt8) : ∀ L : List (List UInt8), L ≠ [] → (∀ x ∈ L, Line x) → Lib.cut (flatL L ++ 13 :: 10 :: b) [13, 10, 13, 10] = (joinL L, b, true)
  | [], h, _ => absurd rfl h
  | [x], _, h => by
    have e : flatL [x] ++ 13 :: 10 :: b = x ++ 13 :: 10 :: 13 :: 10 :: b := by unfold flatL; simp
    rw [e, cut_skip 13 _ _ x (h x (by simp)).1, cut_here, if_pos rfl, List.append_nil]
    rfl
  | x :: y :: r, _, h => by
    have e : flatL (x :: y :: r) ++ 13 :: 10 :: b = x ++ 13 :: 10 :: (flatL (y :: r) ++ 13 :: 10 :: b) := by unfold flatL; simp
    have ih := cut_head b (y :: r) (by simp) (fun z hz => h z (by simp only [List.mem_cons] at hz ⊢; exact .inr hz))
    obtain ⟨hy1, hy2⟩ := h y (by simp)
    cases y with
    | nil => exact absurd rfl hy2
    | cons c y' =>
      have hc : c ≠ 13 := fun e => hy1 (by simp [e])
      have e2 : flatL ((c :: y') :: r) ++ 13 :: 10 :: b = c :: (y' ++ [13, 10] ++ flatL r ++ 13 :: 10 :: b) := by unfold flatL; simp
      rw [e, cut_skip 13 _ _ x (h x (by simp)).1]
      rw [e2] at ih ⊢
      rw [cut_next c hc, ih, if_pos rfl]
      rfl
theorem pieces_join : ∀ L : List (List UInt8), L ≠ [] → (∀ x ∈ L, (13 : UInt8) ∉ x) → pieces (joinL L) = L
  | [], h, _ => absurd rfl h
  | [x], _, h => by
    have key : ∀ a : List UInt8, (13 : UInt8) ∉ a → crlf a = ([], a) := fun a ha => by
      rw [crlf_cut, if_neg]
      have := cut_skip 13 [10] [] a ha
      rw [List.append_nil] at this
      rw [this, cut_nil]
      simp
    unfold pieces joinL
    rw [key x (h x (by simp))]
    rfl
  | x :: y :: r, _, h => by
    have ih := pieces_join (y :: r) (by simp) (fun z hz => h z (by simp only [List.mem_cons] at hz ⊢; exact .inr hz))
    unfold pieces at ih ⊢
    rw [joinL, crlf_line _ _ (h x (by simp))]
    show x :: ((crlf (joinL (y :: r))).1 ++ [(crlf (joinL (y :: r))).2]) = _
    rw [ih]
def fromL (u d : ByteArray) : List UInt8 := [102, 114, 111, 109, 32] ++ addrT u d
def toL' (a : S32) : List UInt8 := [116, 111, 32] ++ addrT a.f0 a.f1
theorem mailT_lines (u d : ByteArray) (ts : List S32) (body : List ByteArray) : mailT u d ts body = flatL (fromL u d :: ts.map toL') ++ 13 :: 10 :: dotsL body := by
  have e : flatL (ts.map toL') = toT ts := by
    unfold flatL toT toL'
    rw [List.flatMap_map]
    exact congrArg (fun f => ts.flatMap f) (funext fun a => by simp)
  have e2 : flatL (fromL u d :: ts.map toL') = fromL u d ++ [13, 10] ++ toT ts := by
    rw [← e]
    unfold flatL
    simp
  rw [e2]
  unfold mailT fromL
  simp
theorem mail_lines {u d : ByteArray} {ts : List S32} {body : List ByteArray} (h : mailB u d ts body = true) : ∀ x ∈ fromL u d :: ts.map toL', Line x := by
  obtain ⟨h1, _, h3, _, _⟩ := mail_parts h
  have hf : ∀ a : UInt8, plainB a = true → a ≠ 13 := fun a ha e => by rw [e] at ha; exact absurd ha (by decide)
  intro x hx
  rcases List.mem_cons.1 hx with rfl | hx
  · refine ⟨fun h13 => ?_, by unfold fromL; simp⟩
    unfold fromL at h13
    rcases List.mem_append.1 h13 with h | h
    · exact absurd h (by decide)
    · exact hf 13 (addr_signs h1 13 h) rfl
  · obtain ⟨a, ha, rfl⟩ := List.mem_map.1 hx
    refine ⟨fun h13 => ?_, by unfold toL'; simp⟩
    unfold toL' at h13
    rcases List.mem_append.1 h13 with h | h
    · exact absurd h (by decide)
    · exact hf 13 (addr_signs (by rw [h3 a ha, Bool.or_true]) 13 h) rfl
theorem headI_to (u d : ByteArray) : ∀ (ts acc : List S32) (i : Nat), 0 < i → (∀ a ∈ ts, addrB a.f0 a.f1 = true) → headI (ts.map toL') i u d acc = some (u, d, acc ++ ts)
  | [], acc, i, _, _ => by rw [List.append_nil]; rfl
  | a :: ts, acc, i, hi, h => by
    have hc : Lib.cut (toL' a) [32] = ([116, 111], addrT a.f0 a.f1, true) := cut_one 32 _ [116, 111] (by decide)
    have hA := addrI_text (u := a.f0) (d := a.f1) (by rw [h a (by simp), Bool.or_true])
    rw [List.map_cons, headI, hc]
    show (if (addrI (addrT a.f0 a.f1)).2.2 = true then _ else _) = _
    rw [hA, if_pos rfl, if_neg (by omega), headI_to u d ts _ (i + 1) (by omega) (fun x hx => h x (by simp [hx])), List.append_assoc]
    rfl
theorem mailI_text {u d : ByteArray} {ts : List S32} {body : List ByteArray} (h : mailB u d ts body = true) (hl : (mailT u d ts body).length ≤ 800) : mailI (mailT u d ts body) = (u, d, ts, body, true) := by
  obtain ⟨h1, h2, h3, _, h5⟩ := mail_parts h
  have hL := mail_lines h
  have hc := cut_head (dotsL body) _ (by simp) hL
  rw [← mailT_lines] at hc
  have hp := pieces_join _ (by simp) (fun x hx => (hL x hx).1)
  have hcf : Lib.cut (fromL u d) [32] = ([102, 114, 111, 109], addrT u d, true) := cut_one 32 _ [102, 114, 111, 109] (by decide)
  have hh : headI (fromL u d :: ts.map toL') 0 (B []) (B []) [] = some (u, d, ts) := by
    rw [headI, hcf]
    show (if (addrI (addrT u d)).2.2 = true then _ else _) = _
    rw [addrI_text h1, if_pos rfl, if_pos rfl]
    show headI (ts.map toL') 1 u d [] = _
    rw [headI_to u d ts [] 1 (by decide) h3]
    rfl
  unfold mailI
  rw [if_neg (by omega), hc, if_pos rfl]
  show endI _ (dotsL body) (headI (pieces (joinL (fromL u d :: ts.map toL'))) 0 (B []) (B []) []) = _
  rw [hp, hh]
  show finI _ (dotsL body) u d ts = _
  unfold finI putM
  rw [dotG_text h5, if_pos rfl]
  show (if (if mailB u d ts body = true then mailT u d ts body else []) = mailT u d ts body then (u, d, ts, body, true) else noMail) = _
  rw [if_pos h, if_pos rfl]
end Go.Proofs.YtbncnjgflhoneaaGreatDoor.Hand
