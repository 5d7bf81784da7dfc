/- Of this claim, merged by program: Q3. -/
import Derived.Test.YtbncnjgflhoneaaGreatDoorB02
import Derived.Test.YtbncnjgflhoneaaGreatDoorB05
import Derived.Test.YtbncnjgflhoneaaGreatDoorB07
import Derived.Test.YtbncnjgflhoneaaGreatDoorB09
namespace Go.Proofs.YtbncnjgflhoneaaGreatDoor.Hand
open Go.RowKit Go.Proofs.YtbncnjgflhoneaaGreatDoor.F Go.Proofs.YtbncnjgflhoneaaGreatDoorW.PrintWords Go.Proofs.YtbncnjgflhoneaaGreatDoorW.PrintLast Go.Proofs.YtbncnjgflhoneaaGreatDoorW.PrintMore
def chk : List S32 → List S32 → Bool
  | _, [] => true
  | old, a :: l => goodB a && (old.all (fun b => !sameB b a) && chk (old ++ [a]) l)
theorem chk_eq : ∀ (l old : List S32), chk old l = (l.all goodB && (apartB l && l.all (fun a => old.all (fun b => !sameB b a))))
  | [], old => by simp [chk, apartB]
  | a :: l, old => by
    rw [chk, chk_eq l (old ++ [a]), apartB]
    simp only [List.all_cons, List.all_append, List.all_nil, Bool.and_true]
    have e : (l.all fun x => (old.all fun b => !sameB b x) && !sameB a x) = ((l.all fun x => old.all fun b => !sameB b x) && l.all fun x => !sameB a x) := by
      rw [Bool.eq_iff_iff]
      simp only [Bool.and_eq_true, List.all_eq_true]
      exact ⟨fun h => ⟨fun x hx => (h x hx).1, fun x hx => (h x hx).2⟩, fun h x hx => ⟨h.1 x hx, h.2 x hx⟩⟩
    rw [e]
    cases goodB a <;> cases l.all goodB <;> cases apartB l <;> cases (old.all fun b => !sameB b a) <;> cases (l.all fun x => old.all fun b => !sameB b x) <;> cases (l.all fun x => !sameB a x) <;> rfl
theorem chk_start (l : List S32) : chk [] l = (l.all goodB && apartB l) := by
  rw [chk_eq]
  simp only [List.all_nil]
  rw [show (l.all fun _ => true) = true by simp, Bool.and_true]
def Short (u d : ByteArray) (ts : List S32) (body : List ByteArray) : Prop := u.size ≤ 1073741824 ∧ d.size ≤ 1073741824 ∧ (∀ a ∈ ts, Tiny a) ∧ (∀ s ∈ body, s.size ≤ 1073741824) ∧ ts.length ≤ 1073741824 ∧ body.length ≤ 1073741824
def tailB (u d : ByteArray) (ts : List S32) (body : List ByteArray) : Bool := (addrB u d || nullB u d) && (decide (1 ≤ ts.length ∧ ts.length ≤ 4) && bodyB body)
theorem smail_from (u d : ByteArray) (ts : List S32) (body : List ByteArray) (hs : Short u d ts body) : ∀ (e i : Nat), ts.length = i + e → Ev (fun k => spec_l2Ok.l0 k (i : Int) u d ts body) (chk (ts.take i) (ts.drop i) && tailB u d ts body) := by
  obtain ⟨hu, hd, ht, hb, hl1, hl2⟩ := hs
  intro e
  induction e with
  | zero =>
    intro i hi
    rw [List.drop_eq_nil_of_le (by omega), chk, Bool.true_and]
    refine Ev.step (f := fun k => (spec_l1AddrOk.f k u d).bind fun t106 => (if t106 = true then ((spec_l1In.f (ts.length : Int) 1 4).bind fun t107 => (if t107 = true then ((spec_l2BodyOk.f k body).bind fun t108 => (some t108)) else (some false))) else ((spec_l1Null.f u d).bind fun t109 => (if t109 = true then ((spec_l1In.f (ts.length : Int) 1 4).bind fun t110 => (if t110 = true then ((spec_l2BodyOk.f k body).bind fun t111 => (some t111)) else (some false))) else (some false)))))
      (fun k => by rw [spec_l2Ok.l0, if_neg (by omega)]) ?_
    have hA := saddr_tells u d (by omega) (by omega)
    have hB := sbody_tells body (by omega) (fun s h => by have := hb s h; omega)
    have hI : spec_l1In.f (ts.length : Int) 1 4 = some (decide (1 ≤ ts.length ∧ ts.length ≤ 4)) := by
      rw [in_tells]
      exact congrArg some (decide_eq_decide.2 (by omega))
    have hX : Ev (fun k => (spec_l1In.f (ts.length : Int) 1 4).bind fun t107 => (if t107 = true then ((spec_l2BodyOk.f k body).bind fun t108 => (some t108)) else (some false))) (decide (1 ≤ ts.length ∧ ts.length ≤ 4) && bodyB body) := by
      rw [hI]
      cases decide (1 ≤ ts.length ∧ ts.length ≤ 4)
      · exact Ev.now _
      · rw [Bool.true_and]
        exact Ev.congr (fun k => by rw [Option.bind_some, if_pos rfl]) (Ev.call hB (h := fun _ => some (bodyB body)) (fun n => rfl) (Ev.now _))
    unfold tailB
    cases ha : addrB u d
    · rw [ha] at hA
      refine Ev.call hA (fun n => by rw [if_neg (by decide), snull_tells, Option.bind_some]) ?_
      cases hn : nullB u d
      · exact Ev.now _
      · exact hX
    · rw [ha] at hA
      exact Ev.call hA (fun n => by rw [if_pos rfl]) hX
  | succ e ih =>
    intro i hi
    have hlt : i < ts.length := by omega
    rw [List.drop_eq_getElem_cons hlt, chk]
    have hT := ht _ (List.getElem_mem hlt)
    have hA := saddr_tells ts[i].f0 ts[i].f1 (by have := hT.1; omega) (by have := hT.2; omega)
    refine Ev.step (f := fun k => (spec_l1AddrOk.f k ts[i].f0 ts[i].f1).bind fun t103 => (if t103 = true then (spec_l2Ok.l1 k (i : Int) ((0 : Nat) : Int) u d ts body) else (some false)))
      (fun k => by rw [spec_l2Ok.l0, if_pos (by omega), if_pos (by omega), rd_T32_mem _ _ hlt]; rfl) ?_
    cases hg : goodB ts[i]
    · rw [show addrB ts[i].f0 ts[i].f1 = false from hg] at hA
      exact Ev.call hA (h := fun _ => some false) (fun n => by rw [if_neg (by decide)]) (Ev.now _)
    · rw [show addrB ts[i].f0 ts[i].f1 = true from hg] at hA
      refine Ev.call hA (fun n => by rw [if_pos rfl]) ?_
      rw [Bool.true_and]
      have hN := ih (i + 1) (by omega)
      rw [List.take_succ_eq_append_getElem hlt] at hN
      have inner : ∀ (g j : Nat), i = j + g → Ev (fun k => spec_l2Ok.l1 k (i : Int) (j : Int) u d ts body) (((ts.take i).drop j).all (fun b => !sameB b ts[i]) && (chk (ts.take i ++ [ts[i]]) (ts.drop (i + 1)) && tailB u d ts body)) := by
        intro g
        induction g with
        | zero =>
          intro j hj
          rw [List.drop_eq_nil_of_le (by rw [List.length_take]; omega), List.all_nil, Bool.true_and]
          exact Ev.step (f := fun k => spec_l2Ok.l0 k ((i + 1 : Nat) : Int) u d ts body) (fun k => by rw [spec_l2Ok.l1, if_neg (by omega), wrapIn (x := (i : Int) + 1) (by omega) (by omega)]; rfl) hN
        | succ g ihg =>
          intro j hj
          have hj2 : j < ts.length := by omega
          have hj3 : j < (ts.take i).length := by rw [List.length_take]; omega
          rw [List.drop_eq_getElem_cons hj3, List.all_cons, List.getElem_take]
          have hcond : ((((rd_T32 ts (j : Int)).f0).toList) == (((rd_T32 ts (i : Int)).f0).toList) && ((((rd_T32 ts (j : Int)).f1).toList) == (((rd_T32 ts (i : Int)).f1).toList))) = sameB ts[j] ts[i] := by
            rw [rd_T32_mem _ _ hlt, rd_T32_mem _ _ hj2, toL, toL, toL, toL]
            rfl
          refine Ev.step (f := fun k => if sameB ts[j] ts[i] = true then some false else spec_l2Ok.l1 k (i : Int) ((j + 1 : Nat) : Int) u d ts body) (fun k => by
            rw [spec_l2Ok.l1, if_pos (by omega), if_pos (by omega), if_pos (by omega), if_pos (by omega), if_pos (by omega), hcond, wrapIn (x := (j : Int) + 1) (by omega) (by omega)]
            rfl) ?_
          cases hsm : sameB ts[j] ts[i]
          · refine Ev.congr (fun k => if_neg (by decide)) ?_
            exact ihg (j + 1) (by omega)
          · exact Ev.congr (f := fun _ => some false) (fun k => if_pos rfl) (Ev.now _)
      have h0 := inner i 0 (by omega)
      rw [List.drop_zero] at h0
      rw [Bool.and_assoc]
      exact h0
theorem smail_tells (u d : ByteArray) (ts : List S32) (body : List ByteArray) (hs : Short u d ts body) : Ev (fun k => spec_l2Ok.f k u d ts body) (mailB u d ts body) := by
  have h := smail_from u d ts body hs ts.length 0 (by omega)
  rw [List.take_zero, List.drop_zero, chk_start] at h
  have e : (ts.all goodB && apartB ts && tailB u d ts body) = mailB u d ts body := by
    unfold tailB mailB
    rw [show (ts.all fun a => addrB a.f0 a.f1) = ts.all goodB from rfl]
    cases ts.all goodB <;> cases apartB ts <;> cases addrB u d <;> cases nullB u d <;> cases decide (1 ≤ ts.length ∧ ts.length ≤ 4) <;> cases bodyB body <;> rfl
  rw [e] at h
  exact h
theorem pmail_tells (u d : ByteArray) (ts : List S32) (body : List ByteArray) (hs : Short u d ts body) : impl_MailOk.f u d ts body = some (mailB u d ts body) := by
  obtain ⟨hu, hd, ht, hb, _, _⟩ := hs
  unfold impl_MailOk.f
  rw [if_pos]
  simp only [Bool.and_eq_true, List.all_eq_true]
  exact ⟨⟨⟨decide_eq_true hu, decide_eq_true hd⟩, fun a ha => ⟨decide_eq_true (ht a ha).1, decide_eq_true (ht a ha).2⟩⟩, fun s hs => decide_eq_true (hb s hs)⟩
def bareB (u d : ByteArray) (ts : List S32) (body : List ByteArray) : Bool := nullB u d && (decide (ts.length = 0) && decide (body.length = 0))
def noteB (kind id : Int) (au ad : ByteArray) (now : Int) (u d : ByteArray) (ts : List S32) (body : List ByteArray) : Bool :=
  if kind = 1 then mailB u d ts body && (decide (0 ≤ now ∧ now ≤ 9999) && (decide (id = 0) && nullB au ad))
  else if kind = 2 then bareB u d ts body && (decide (1 ≤ id ∧ id ≤ 999) && (addrB au ad && decide (now = 0)))
  else if kind = 3 then bareB u d ts body && (decide (1 ≤ id ∧ id ≤ 999) && (addrB au ad && decide (0 ≤ now ∧ now ≤ 9999)))
  else false
theorem snote_j (kind id : Int) (au ad : ByteArray) (now : Int) (u d : ByteArray) (ts : List S32) (body : List ByteArray) (hs : Short u d ts body) (hau : au.size ≤ 1073741824) (had : ad.size ≤ 1073741824) :
    Ev (fun k => spec_l6Ok.j0 k (bareB u d ts body) kind id au ad now u d ts body) (noteB kind id au ad now u d ts body) := by
  have hA := saddr_tells au ad (by omega) (by omega)
  have hM := smail_tells u d ts body hs
  unfold noteB
  by_cases k1 : kind = 1
  · rw [if_pos k1]
    refine Ev.step (f := fun k => (if id = 0 then ((spec_l1Null.f au ad).bind fun t103 => (if t103 = true then ((spec_l2Ok.f k u d ts body).bind fun t104 => (if t104 = true then ((spec_l1In.f now 0 9999).bind fun t105 => (some t105)) else (some false))) else (some false))) else (some false))) (fun k => by rw [spec_l6Ok.j0, if_pos k1]) ?_
    by_cases hid : id = 0
    · refine Ev.congr (fun k => by rw [if_pos hid, snull_tells, Option.bind_some]) ?_
      rw [decide_eq_true hid, Bool.true_and]
      cases hn : nullB au ad
      · rw [Bool.and_false, Bool.and_false]
        exact Ev.congr (f := fun _ => some false) (fun k => if_neg (by decide)) (Ev.now _)
      · refine Ev.congr (fun k => if_pos rfl) ?_
        rw [Bool.and_true]
        cases hm : mailB u d ts body
        · rw [hm] at hM
          exact Ev.call hM (h := fun _ => some false) (fun n => if_neg (by decide)) (Ev.now _)
        · rw [hm] at hM
          refine Ev.call hM (h := fun _ => some (decide (0 ≤ now ∧ now ≤ 9999))) (fun n => by rw [if_pos rfl, in_tells]; rfl) (by rw [Bool.true_and]; exact Ev.now _)
    · rw [decide_eq_false hid, Bool.false_and, Bool.and_false, Bool.and_false]
      exact Ev.congr (f := fun _ => some false) (fun k => if_neg hid) (Ev.now _)
  rw [if_neg k1]
  have three : ∀ (x : Nat → Option Bool) (y : Bool), Ev x y → Ev (fun k => if bareB u d ts body = true then ((spec_l1In.f id 1 999).bind fun t106 => (if t106 = true then ((spec_l1AddrOk.f k au ad).bind fun t107 => (if t107 = true then x k else (some false))) else (some false))) else (some false)) (bareB u d ts body && (decide (1 ≤ id ∧ id ≤ 999) && (addrB au ad && y))) := by
    intro x y hx
    cases bareB u d ts body
    · exact Ev.congr (f := fun _ => some false) (fun k => if_neg (by decide)) (Ev.now _)
    · refine Ev.congr (fun k => by rw [if_pos rfl, in_tells, Option.bind_some]) ?_
      rw [Bool.true_and]
      cases decide (1 ≤ id ∧ id ≤ 999)
      · exact Ev.congr (f := fun _ => some false) (fun k => if_neg (by decide)) (Ev.now _)
      · refine Ev.congr (fun k => if_pos rfl) ?_
        rw [Bool.true_and]
        cases ha : addrB au ad
        · rw [ha] at hA
          exact Ev.call hA (h := fun _ => some false) (fun n => if_neg (by decide)) (Ev.now _)
        · rw [ha] at hA
          rw [Bool.true_and]
          exact Ev.call hA (fun n => if_pos rfl) hx
  by_cases k2 : kind = 2
  · rw [if_pos k2]
    have h := three (fun _ => some (now == 0)) (decide (now = 0)) (Ev.now _)
    exact Ev.step (fun k => by rw [spec_l6Ok.j0, if_neg k1, if_pos k2]) h
  rw [if_neg k2]
  by_cases k3 : kind = 3
  · rw [if_pos k3]
    have h := three (fun _ => (spec_l1In.f now 0 9999).bind fun t110 => (some t110)) (decide (0 ≤ now ∧ now ≤ 9999)) (Ev.congr (f := fun _ => some (decide (0 ≤ now ∧ now ≤ 9999))) (fun k => by rw [in_tells]; rfl) (Ev.now _))
    exact Ev.step (fun k => by rw [spec_l6Ok.j0, if_neg k1, if_neg k2, if_pos k3]) h
  rw [if_neg k3]
  exact Ev.step (f := fun _ => some false) (fun k => by rw [spec_l6Ok.j0, if_neg k1, if_neg k2, if_neg k3]) (Ev.now _)
theorem snote_tells (kind id : Int) (au ad : ByteArray) (now : Int) (u d : ByteArray) (ts : List S32) (body : List ByteArray) (hs : Short u d ts body) (hau : au.size ≤ 1073741824) (had : ad.size ≤ 1073741824) :
    Ev (fun k => spec_l6Ok.f k kind id au ad now u d ts body) (noteB kind id au ad now u d ts body) := by
  have h := snote_j kind id au ad now u d ts body hs hau had
  refine Ev.congr (fun k => ?_) h
  unfold spec_l6Ok.f bareB
  rw [snull_tells, Option.bind_some]
  cases nullB u d
  · rw [if_neg (by decide)]
    rfl
  · rw [if_pos rfl, Bool.true_and]
    by_cases h1 : (ts.length : Int) = 0
    · rw [if_pos h1, decide_eq_true (p := ts.length = 0) (by omega), Bool.true_and]
      have : ((body.length : Int) == 0) = decide (body.length = 0) := by
        rw [Bool.eq_iff_iff]
        simp
      rw [this]
    · rw [if_neg h1, decide_eq_false (p := ts.length = 0) (by omega), Bool.false_and]
theorem pnote_tells (kind id : Int) (au ad : ByteArray) (now : Int) (u d : ByteArray) (ts : List S32) (body : List ByteArray) (hs : Short u d ts body) (had : ad.size ≤ 1073741824) :
    Ev (fun k => impl_NoteOk.f k kind id au ad now u d ts body) (noteB kind id au ad now u d ts body) := by
  have hA : Ev (fun k => impl_AddrOk.f k au ad) (addrB au ad) := Ev.exact (ad.size + 2) fun k hk => addr_tells au ad had k hk
  have hE : impl_Mail_empty.f u d ts body = some (bareB u d ts body) := by
    unfold impl_Mail_empty.f impl_Addr_null.f bareB
    rw [Option.bind_some]
    show (if nullB u d = true then _ else _) = _
    cases nullB u d
    · rw [if_neg (by decide)]; rfl
    · rw [if_pos rfl, Bool.true_and]
      by_cases h1 : (ts.length : Int) = 0
      · rw [if_pos h1, decide_eq_true (p := ts.length = 0) (by omega), Bool.true_and]
        congr 1
        rw [Bool.eq_iff_iff]
        simp
      · rw [if_neg h1, decide_eq_false (p := ts.length = 0) (by omega)]
        rfl
  have hT : impl_isTime.f now = some (decide (0 ≤ now ∧ now ≤ 9999)) := by
    unfold impl_isTime.f
    rw [within_tells]
    rfl
  have hj : ∀ x : Bool, x = (decide (1 ≤ id ∧ id ≤ 999) && (addrB au ad && bareB u d ts body)) → Ev (fun k => impl_NoteOk.j0 k x kind id au ad now u d ts body) (noteB kind id au ad now u d ts body) := by
    intro x hx
    refine Ev.step (f := fun _ => some (noteB kind id au ad now u d ts body)) (fun k => ?_) (Ev.now _)
    rw [impl_NoteOk.j0]
    unfold noteB
    by_cases k1 : kind = 1
    · rw [if_pos k1, if_pos k1, pmail_tells u d ts body hs, Option.bind_some, hT]
      cases mailB u d ts body
      · rfl
      · rw [if_pos rfl, Option.bind_some]
        cases decide (0 ≤ now ∧ now ≤ 9999)
        · rfl
        · rw [if_pos rfl]
          by_cases hid : id = 0
          · rw [if_pos hid, decide_eq_true hid]; rfl
          · rw [if_neg hid, decide_eq_false hid]; rfl
    rw [if_neg k1, if_neg k1]
    by_cases k2 : kind = 2
    · rw [if_pos k2, if_pos k2, hx]
      have e : (now == 0) = decide (now = 0) := rfl
      rw [e]
      cases decide (1 ≤ id ∧ id ≤ 999) <;> cases addrB au ad <;> cases bareB u d ts body <;> rfl
    rw [if_neg k2, if_neg k2]
    by_cases k3 : kind = 3
    · rw [if_pos k3, if_pos k3, hx, hT]
      cases decide (1 ≤ id ∧ id ≤ 999) <;> cases addrB au ad <;> cases bareB u d ts body <;> rfl
    rw [if_neg k3, if_neg k3]
  unfold impl_NoteOk.f
  refine Ev.congr (fun k => by rw [within_tells, Option.bind_some]) ?_
  cases h1 : decide (1 ≤ id ∧ id ≤ 999)
  · exact Ev.congr (fun k => if_neg (by decide)) (hj false (by rw [h1]; rfl))
  · refine Ev.congr (fun k => if_pos rfl) ?_
    cases h2 : addrB au ad
    · rw [h2] at hA
      exact Ev.call hA (fun n => if_neg (by decide)) (hj false (by rw [h1, h2]; rfl))
    · rw [h2] at hA
      exact Ev.call hA (fun n => by rw [if_pos rfl, hE, Option.bind_some]) (hj _ (by rw [h1, h2]; rfl))
end Go.Proofs.YtbncnjgflhoneaaGreatDoor.Hand
