/- Of this claim, merged by program: Q13. -/
import Derived.Test.YtbncnjgflhoneaaGreatDoorG02
import Derived.Test.YtbncnjgflhoneaaGreatDoorG25
import Derived.Test.YtbncnjgflhoneaaGreatDoorG27
import Derived.Test.YtbncnjgflhoneaaGreatDoorG31
namespace Go.Proofs.YtbncnjgflhoneaaGreatDoor.Hand
open Go.RowKit Go.Proofs.YtbncnjgflhoneaaGreatDoor.F Go.Proofs.YtbncnjgflhoneaaGreatDoorW.PrintWords Go.Proofs.YtbncnjgflhoneaaGreatDoorW.PrintLast Go.Proofs.YtbncnjgflhoneaaGreatDoorW.PrintMore
theorem cutM_no (c : UInt8) (m : Nat) (l : List UInt8) (h : c ∉ l) : cutM c m l = [l] := by
  have e := cutAt_no c l h
  rw [(cutM_cutAt c l m).1 (by rw [e]; simp), e]
theorem cutM_first (c : UInt8) (m : Nat) (b : List UInt8) : ∀ a : List UInt8, c ∉ a → cutM c (m + 1) (a ++ c :: b) = a :: cutM c m b
  | [], _ => by rw [List.nil_append, cutM, if_pos rfl]
  | x :: a, h => by
    rw [List.mem_cons, not_or] at h
    rw [List.cons_append, cutM, if_neg (fun e => h.1 e.symm), cutM_first c m b a h.2]
    rfl
theorem sget_text (s : ByteArray) (hs : s.size ≤ 536870912) {kind id : Int} {au ad : ByteArray} {now : Int} {u d : ByteArray} {ts : List S32} {body : List ByteArray} (h : noteB kind id au ad now u d ts body = true) (ht : s.data.toList = noteT kind id au ad now u d ts body) :
    Ev (fun k => spec_l6Get.f k s) (kind, id, au, ad, now, u, d, ts, body) := by
  rcases note_parts h with ⟨rfl, hm, n0, n9, rfl, hn⟩ | ⟨rfl, hb, i1, i9, ha, rfl⟩ | ⟨rfl, hb, i1, i9, ha, n0, n9⟩
  · obtain ⟨rfl, rfl⟩ := null_empty hn
    have sg := itoa_signs now n0 n9
    have e : s.data.toList = ([97, 100, 100, 32] ++ Lib.itoa now) ++ 10 :: mailT u d ts body := by
      rw [ht]
      unfold noteT
      rw [if_pos rfl]
      simp
    have n10 : (10 : UInt8) ∉ [97, 100, 100, 32] ++ Lib.itoa now := by
      rw [List.mem_append, not_or]
      exact ⟨by decide, not_sign sg (by decide)⟩
    have hh : cutM 10 1 s.data.toList = ([97, 100, 100, 32] ++ Lib.itoa now) :: [mailT u d ts body] := by rw [e, cutM_first 10 0 _ _ n10, cutM_zero]
    have hw : cutM 32 4 ([97, 100, 100, 32] ++ Lib.itoa now) = [97, 100, 100] :: [Lib.itoa now] := by
      rw [show [97, 100, 100, 32] ++ Lib.itoa now = [97, 100, 100] ++ 32 :: Lib.itoa now from rfl, cutM_first 32 3 _ _ (by decide), cutM_no 32 3 _ (not_sign sg (by decide))]
    have hj := sj0_true ([97, 100, 100, 32] ++ Lib.itoa now) (mailT u d ts body) [97, 100, 100] (Lib.itoa now) (snum_text now n0 n9)
    rw [mailS_text hm (mailT_small hm)] at hj
    exact sget_of s hs _ _ _ _ hh hw hj
  · obtain ⟨rfl, rfl, rfl, rfl⟩ := bare_empty hb
    have sg := itoa_signs id (by omega) (by omega)
    have e : s.data.toList = [100, 111, 110, 101] ++ 32 :: (Lib.itoa id ++ 32 :: addrT au ad) := ht
    have n10 : (10 : UInt8) ∉ s.data.toList := by
      rw [e]
      simp only [List.mem_append, List.mem_cons, not_or]
      exact ⟨by decide, by decide, not_sign sg (by decide), by decide, not_addr ha (by decide)⟩
    have hh := cutM_no 10 1 _ n10
    have hw : cutM 32 4 s.data.toList = [100, 111, 110, 101] :: [Lib.itoa id, addrT au ad] := by
      rw [e, cutM_first 32 3 _ _ (by decide), cutM_first 32 2 _ _ (not_sign sg (by decide)), cutM_no 32 2 _ (not_addr ha (by decide))]
    have hal : (addrT au ad).length ≤ 536870912 := by have := addrT_small (u := au) (d := ad) (by rw [ha, Bool.or_true]); omega
    have hj := sj1_true [100, 111, 110, 101] (Lib.itoa id) (addrT au ad) hal (snum_text id (by omega) (by omega))
    rw [addrS_text (by rw [ha, Bool.or_true])] at hj
    exact sget_of s hs _ _ _ _ hh hw (sj0_false _ _ _ hj)
  · obtain ⟨rfl, rfl, rfl, rfl⟩ := bare_empty hb
    have sg := itoa_signs id (by omega) (by omega)
    have sg2 := itoa_signs now n0 n9
    have e : s.data.toList = [108, 97, 116, 101, 114] ++ 32 :: (Lib.itoa id ++ 32 :: (addrT au ad ++ 32 :: Lib.itoa now)) := ht
    have n10 : (10 : UInt8) ∉ s.data.toList := by
      rw [e]
      simp only [List.mem_append, List.mem_cons, not_or]
      exact ⟨by decide, by decide, not_sign sg (by decide), by decide, not_addr ha (by decide), by decide, not_sign sg2 (by decide)⟩
    have hh := cutM_no 10 1 _ n10
    have hw : cutM 32 4 s.data.toList = [108, 97, 116, 101, 114] :: [Lib.itoa id, addrT au ad, Lib.itoa now] := by
      rw [e, cutM_first 32 3 _ _ (by decide), cutM_first 32 2 _ _ (not_sign sg (by decide)), cutM_first 32 1 _ _ (not_addr ha (by decide)), cutM_no 32 1 _ (not_sign sg2 (by decide))]
    have hal : (addrT au ad).length ≤ 536870912 := by have := addrT_small (u := au) (d := ad) (by rw [ha, Bool.or_true]); omega
    have hj := sj2_true [108, 97, 116, 101, 114] (Lib.itoa id) (addrT au ad) (Lib.itoa now) hal (snum_text id (by omega) (by omega)) (snum_text now n0 n9)
    rw [addrS_text (by rw [ha, Bool.or_true])] at hj
    exact sget_of s hs _ _ _ _ hh hw (sj0_false _ _ _ (sj1_false _ _ hj))
theorem sfin_tells (s : ByteArray) (h8 : s.size ≤ 820) (q : NoteV) (hq : Ev (fun k => spec_l6Get.f k s) q) (hs : SmallN q) : Ev (fun k => spec_NoteGet.f k s) (finR s.data.toList q) := by
  have hl := data_length s
  obtain ⟨kind, id, au, ad, now, u, d, ts, body⟩ := q
  obtain ⟨hsh, hau, had⟩ := hs
  have hn := snote_tells kind id au ad now u d ts body hsh hau had
  show Ev _ (finC s.data.toList kind id au ad now u d ts body)
  unfold finC okC
  refine Ev.congr (f := fun k => (spec_l6Get.f k s).bind fun bt102 => ((spec_l6Ok.f k bt102.1 bt102.2.1 bt102.2.2.1 bt102.2.2.2.1 bt102.2.2.2.2.1 bt102.2.2.2.2.2.1 bt102.2.2.2.2.2.2.1 bt102.2.2.2.2.2.2.2.1 bt102.2.2.2.2.2.2.2.2).bind fun t116 => (if t116 = true then ((spec_l6Body.f k bt102.1 bt102.2.1 bt102.2.2.1 bt102.2.2.2.1 bt102.2.2.2.2.1 bt102.2.2.2.2.2.1 bt102.2.2.2.2.2.2.1 bt102.2.2.2.2.2.2.2.1 bt102.2.2.2.2.2.2.2.2).bind fun t117 => (if t117.toList = s.toList then (some (bt102.1, bt102.2.1, bt102.2.2.1, bt102.2.2.2.1, bt102.2.2.2.2.1, bt102.2.2.2.2.2.1, bt102.2.2.2.2.2.2.1, bt102.2.2.2.2.2.2.2.1, bt102.2.2.2.2.2.2.2.2, true)) else (some zeroR))) else (some zeroR)))) (fun k => by
    unfold spec_NoteGet.f
    rw [if_neg (by omega)]
    rfl) ?_
  refine Ev.bind hq ?_
  cases hb : noteB kind id au ad now u d ts body
  · rw [hb] at hn
    exact Ev.call hn (h := fun _ => some zeroR) (fun k => if_neg (by decide)) (Ev.now _)
  · rw [hb] at hn
    refine Ev.call hn (fun k => if_pos rfl) (Ev.call (sbodyT_tells kind id au ad now u d ts body hsh hau had hb) (h := fun _ => some (if (true && decide (noteT kind id au ad now u d ts body = s.data.toList)) = true then (kind, id, au, ad, now, u, d, ts, body, true) else zeroR)) (fun k => ?_) (Ev.now _))
    rw [B_toList, toL, Bool.true_and]
    by_cases hq : noteT kind id au ad now u d ts body = s.data.toList
    · rw [if_pos hq, if_pos (decide_eq_true hq)]
    · rw [if_neg hq, if_neg (by simpa using hq)]
def FewR (r : NoteR) : Prop := r.2.2.2.2.2.2.2.1.length ≤ 4 ∧ r.2.2.2.2.2.2.2.2.1.length ≤ 12
theorem zero_few : FewR zeroR := ⟨by decide, by decide⟩
theorem fin_few (l : List UInt8) (q : NoteV) : FewR (finR l q) := by
  obtain ⟨kind, id, au, ad, now, u, d, ts, body⟩ := q
  show FewR (finC l kind id au ad now u d ts body)
  unfold finC
  split
  · rename_i h
    unfold okC at h
    rw [Bool.and_eq_true] at h
    rcases note_parts h.1 with ⟨_, hm, _⟩ | ⟨_, hb, _⟩ | ⟨_, hb, _⟩
    · obtain ⟨_, h2, _, _, h5⟩ := mail_parts hm
      exact ⟨h2.2, (body_small h5).1⟩
    · obtain ⟨_, _, rfl, rfl⟩ := bare_empty hb
      exact ⟨Nat.zero_le _, Nat.zero_le _⟩
    · obtain ⟨_, _, rfl, rfl⟩ := bare_empty hb
      exact ⟨Nat.zero_le _, Nat.zero_le _⟩
  · exact zero_few
theorem fin_no (l : List UInt8) (q : NoteV) (h : okN l q = false) : finR l q = zeroR := by
  show (if okN l q = true then _ else zeroR) = zeroR
  rw [if_neg (by rw [h]; decide)]
theorem ok_parts {l : List UInt8} {kind id : Int} {au ad : ByteArray} {now : Int} {u d : ByteArray} {ts : List S32} {body : List ByteArray} (h : okN l (kind, id, au, ad, now, u, d, ts, body) = true) : noteB kind id au ad now u d ts body = true ∧ noteT kind id au ad now u d ts body = l := by
  have h' : (noteB kind id au ad now u d ts body && decide (noteT kind id au ad now u d ts body = l)) = true := h
  rw [Bool.and_eq_true] at h'
  exact ⟨h'.1, of_decide_eq_true h'.2⟩
theorem get_both (s : ByteArray) (hs : s.size ≤ 536870912) : ∃ r : NoteR, Ev (fun k => impl_NoteGet.f k s) r ∧ Ev (fun k => spec_NoteGet.f k s) r ∧ FewR r := by
  have hl := data_length s
  have hi := inote_tells s
  by_cases h8 : s.size > 820
  · rw [if_pos (by omega)] at hi
    refine ⟨zeroR, hi, Ev.congr (f := fun _ => some zeroR) (fun k => ?_) (Ev.now _), zero_few⟩
    unfold spec_NoteGet.f
    rw [if_pos (by omega)]
    rfl
  · rw [if_neg (by omega)] at hi
    obtain ⟨q, hq, hq'⟩ := sget_total s (by omega)
    have hf := sfin_tells s (by omega) q hq hq'
    refine ⟨_, hi, ?_, fin_few _ _⟩
    have e : finR s.data.toList (noteI s.data.toList) = finR s.data.toList q := by
      cases h1 : okN s.data.toList (noteI s.data.toList)
      · cases h2 : okN s.data.toList q
        · rw [fin_no _ _ h1, fin_no _ _ h2]
        · obtain ⟨kind, id, au, ad, now, u, d, ts, body⟩ := q
          obtain ⟨hb, ht⟩ := ok_parts h2
          have := noteI_text hb
          rw [ht] at this
          rw [this]
      · generalize noteI s.data.toList = p at h1 ⊢
        obtain ⟨kind, id, au, ad, now, u, d, ts, body⟩ := p
        obtain ⟨hb, ht⟩ := ok_parts h1
        have := Ev.one hq (sget_text s hs hb ht.symm)
        rw [this]
    rw [e]
    exact hf
theorem mark_from : ∀ (n : Nat) (acc : ByteArray), acc.size + n ≤ 1099511627776 → ∃ v, Ev (fun k => laws_markText.l0 k (n : Int) acc) v := by
  intro n
  induction n using Nat.strongRecOn with
  | _ n ih =>
    intro acc hb
    by_cases h : n = 0
    · refine ⟨(⟨#[109]⟩ : ByteArray) ++ acc, Ev.step (f := fun _ => some ((⟨#[109]⟩ : ByteArray) ++ acc)) (fun k => ?_) (Ev.now _)⟩
      rw [laws_markText.l0, if_neg (by omega), if_pos (by omega)]
    · obtain ⟨v, hv⟩ := ih (n / 10) (by omega) (B [UInt8.ofNat (48 + (n % 10 : Nat))] ++ acc) (by
        rw [ByteArray.size_append, B_size, List.length_singleton]
        omega)
      refine ⟨v, Ev.step (fun k => ?_) hv⟩
      rw [laws_markText.l0, if_pos (by omega), Option.bind_some, show Int.tmod (n : Int) 10 = ((n % 10 : Nat) : Int) from rfl, one_digit _ (by omega) (by omega), Int.toNat_natCast, if_pos (by rw [B_size, List.length_singleton]; omega), show Int.tdiv (n : Int) 10 = ((n / 10 : Nat) : Int) from rfl, wrapIn (x := ((n / 10 : Nat) : Int)) (by omega) (by omega)]
theorem mark_total (n : Nat) (h1 : 1 ≤ n) (h : n ≤ 1099511627776) : ∃ v, Ev (fun k => laws_markText.f k (n : Int)) v := by
  obtain ⟨v, hv⟩ := mark_from n (⟨#[]⟩ : ByteArray) (by show 0 + n ≤ _; omega)
  refine ⟨v, Ev.congr (fun k => ?_) hv⟩
  unfold laws_markText.f
  rw [if_neg (by omega)]
open Classical in
noncomputable def mk (n : Nat) : ByteArray := if h : ∃ v, Ev (fun k => laws_markText.f k (n : Int)) v then h.choose else B []
theorem mk_tells (n : Nat) (h1 : 1 ≤ n) (h : n ≤ 1099511627776) : Ev (fun k => laws_markText.f k (n : Int)) (mk n) := by
  unfold mk
  rw [dif_pos (mark_total n h1 h)]
  exact (mark_total n h1 h).choose_spec
noncomputable def markA : Nat → List S32 → List S32
  | _, [] => []
  | m, _ :: r => ⟨mk m, mk (m + 1)⟩ :: markA (m + 2) r
noncomputable def markS : Nat → List ByteArray → List ByteArray
  | _, [] => []
  | m, _ :: r => mk m :: markS (m + 1) r
theorem markA_length : ∀ (l : List S32) (m : Nat), (markA m l).length = l.length
  | [], _ => rfl
  | _ :: r, m => by rw [markA, List.length_cons, List.length_cons, markA_length r]
theorem markS_length : ∀ (l : List ByteArray) (m : Nat), (markS m l).length = l.length
  | [], _ => rfl
  | _ :: r, m => by rw [markS, List.length_cons, List.length_cons, markS_length r]
theorem markAddr_from : ∀ (rest done : List S32) (m : Nat), 1 ≤ m → m + 2 * rest.length ≤ 1000000 → done.length + rest.length ≤ 1000000 → Ev (fun k => laws_markAddrS.l0 k (done ++ rest) (m : Int) (done.length : Int)) (((m + 2 * rest.length : Nat) : Int), done ++ markA m rest)
  | [], done, m, _, _, _ => by
    refine Ev.step (f := fun _ => some ((m : Int), done ++ [])) (fun k => ?_) (Ev.now _)
    rw [laws_markAddrS.l0, if_neg (by rw [List.append_nil]; omega)]
  | a :: r, done, m, h1, hm, hd => by
    rw [List.length_cons] at hm hd
    have ih := markAddr_from r (done ++ [⟨mk m, mk (m + 1)⟩]) (m + 2) (by omega) (by omega) (by rw [List.length_append, List.length_singleton]; omega)
    have hlt : done.length < (done ++ a :: r).length := by rw [List.length_append, List.length_cons]; omega
    have hlt2 : done.length < ((done ++ [(⟨mk m, a.f1⟩ : S32)]) ++ r).length := by rw [List.length_append, List.length_append, List.length_singleton]; omega
    have g1 : rd_T32 (done ++ a :: r) (done.length : Int) = a := by rw [rd32_at _ _ hlt]; simp
    have g2 : rd_T32 ((done ++ [(⟨mk m, a.f1⟩ : S32)]) ++ r) (done.length : Int) = ⟨mk m, a.f1⟩ := by rw [rd32_at _ _ hlt2]; simp
    have s1 := set_mid done a (⟨mk m, a.f1⟩ : S32) r
    have s2 : ((done ++ [(⟨mk m, a.f1⟩ : S32)]) ++ r).set done.length (⟨mk m, mk (m + 1)⟩ : S32) = (done ++ [⟨mk m, mk (m + 1)⟩]) ++ r := by
      have := set_mid done (⟨mk m, a.f1⟩ : S32) (⟨mk m, mk (m + 1)⟩ : S32) r
      rw [List.append_assoc]
      exact this
    refine Ev.step (f := fun k => (laws_markText.f k (m : Int)).bind fun t101 => ((some ((done ++ a :: r).set done.length (⟨t101, a.f1⟩ : S32) : List (S32))).bind fun y102 => ((laws_markText.f k ((m + 1 : Nat) : Int)).bind fun t103 => (laws_markAddrS.l0 k (y102.set done.length (⟨(rd_T32 y102 (done.length : Int)).f0, t103⟩ : S32)) ((m + 2 : Nat) : Int) ((done.length + 1 : Nat) : Int))))) (fun k => ?_) ?_
    · rw [laws_markAddrS.l0, if_pos (by omega), g1, Int.toNat_natCast, wrapIn (x := (m : Int) + 1) (by omega) (by omega), wrapIn (x := (m : Int) + 1 + 1) (by omega) (by omega), wrapIn (x := (done.length : Int) + 1) (by omega) (by omega), show ((m : Int) + 1) = ((m + 1 : Nat) : Int) by omega, show (((m + 1 : Nat) : Int) + 1) = ((m + 2 : Nat) : Int) by omega, show ((done.length : Int) + 1) = ((done.length + 1 : Nat) : Int) by omega]
      refine congrArg _ (funext fun t => ?_)
      rw [if_pos (by omega)]
    · refine Ev.bind (mk_tells m h1 (by omega)) ?_
      rw [s1]
      refine Ev.congr (f := fun k => (laws_markText.f k ((m + 1 : Nat) : Int)).bind fun t103 => (laws_markAddrS.l0 k (((done ++ [(⟨mk m, a.f1⟩ : S32)]) ++ r).set done.length (⟨mk m, t103⟩ : S32)) ((m + 2 : Nat) : Int) ((done.length + 1 : Nat) : Int))) (fun k => by rw [Option.bind_some, g2]) ?_
      refine Ev.bind (mk_tells (m + 1) (by omega) (by omega)) ?_
      rw [s2]
      rw [List.length_append, List.length_singleton, show m + 2 + 2 * r.length = m + 2 * (r.length + 1) by omega, List.append_assoc, List.append_assoc] at ih
      rw [List.length_cons, List.append_assoc, markA]
      exact ih
theorem markStr_from : ∀ (rest done : List ByteArray) (m : Nat), 1 ≤ m → m + rest.length ≤ 1000000 → done.length + rest.length ≤ 1000000 → Ev (fun k => laws_markStringS.l0 k (done ++ rest) (m : Int) (done.length : Int)) (((m + rest.length : Nat) : Int), done ++ markS m rest)
  | [], done, m, _, _, _ => by
    refine Ev.step (f := fun _ => some ((m : Int), done ++ [])) (fun k => ?_) (Ev.now _)
    rw [laws_markStringS.l0, if_neg (by rw [List.append_nil]; omega)]
  | a :: r, done, m, h1, hm, hd => by
    rw [List.length_cons] at hm hd
    have ih := markStr_from r (done ++ [mk m]) (m + 1) (by omega) (by omega) (by rw [List.length_append, List.length_singleton]; omega)
    have hlt : done.length < (done ++ a :: r).length := by rw [List.length_append, List.length_cons]; omega
    refine Ev.step (f := fun k => (laws_markText.f k (m : Int)).bind fun t101 => (laws_markStringS.l0 k ((done ++ a :: r).set done.length t101) ((m + 1 : Nat) : Int) ((done.length + 1 : Nat) : Int))) (fun k => ?_) ?_
    · rw [laws_markStringS.l0, if_pos (by omega), Int.toNat_natCast, wrapIn (x := (m : Int) + 1) (by omega) (by omega), wrapIn (x := (done.length : Int) + 1) (by omega) (by omega), show ((m : Int) + 1) = ((m + 1 : Nat) : Int) by omega, show ((done.length : Int) + 1) = ((done.length + 1 : Nat) : Int) by omega]
      refine congrArg _ (funext fun t => ?_)
      rw [if_pos (by omega)]
    · refine Ev.bind (mk_tells m h1 (by omega)) ?_
      rw [set_mid done a (mk m) r]
      rw [List.length_append, List.length_singleton, show m + 1 + r.length = m + (r.length + 1) by omega, List.append_assoc, List.append_assoc] at ih
      rw [List.length_cons, List.append_assoc, markS]
      exact ih
theorem heldAddr_from : ∀ (rest done : List S32) (m : Nat), 1 ≤ m → m + 2 * rest.length ≤ 1000000 → done.length + rest.length ≤ 1000000 → Ev (fun k => laws_heldAddrS.l0 k (done ++ markA m rest) (m : Int) (done.length : Int)) ((m + 2 * rest.length : Nat) : Int)
  | [], done, m, _, _, _ => by
    refine Ev.step (f := fun _ => some (m : Int)) (fun k => ?_) (Ev.now _)
    rw [laws_heldAddrS.l0, if_neg (by rw [markA, List.append_nil]; omega)]
  | a :: r, done, m, h1, hm, hd => by
    rw [List.length_cons] at hm hd
    have ih := heldAddr_from r (done ++ [⟨mk m, mk (m + 1)⟩]) (m + 2) (by omega) (by omega) (by rw [List.length_append, List.length_singleton]; omega)
    rw [markA]
    have hlt : done.length < (done ++ (⟨mk m, mk (m + 1)⟩ : S32) :: markA (m + 2) r).length := by rw [List.length_append, List.length_cons]; omega
    have g1 : rd_T32 (done ++ (⟨mk m, mk (m + 1)⟩ : S32) :: markA (m + 2) r) (done.length : Int) = ⟨mk m, mk (m + 1)⟩ := by rw [rd32_at _ _ hlt]; simp
    rw [List.length_append, List.length_singleton, show m + 2 + 2 * r.length = m + 2 * (r.length + 1) by omega, List.append_assoc] at ih
    refine Ev.step (f := fun k => (laws_markText.f k (m : Int)).bind fun t102 => (if (mk m).toList = t102.toList then ((laws_markText.f k ((m + 1 : Nat) : Int)).bind fun t104 => (if (mk (m + 1)).toList = t104.toList then (laws_heldAddrS.l0 k (done ++ (⟨mk m, mk (m + 1)⟩ : S32) :: markA (m + 2) r) ((m + 2 : Nat) : Int) ((done.length + 1 : Nat) : Int)) else (some (-1)))) else (some (-1)))) (fun k => ?_) ?_
    · rw [laws_heldAddrS.l0, if_pos (by omega), if_pos (by omega), g1, wrapIn (x := (m : Int) + 1) (by omega) (by omega), wrapIn (x := (m : Int) + 1 + 1) (by omega) (by omega), wrapIn (x := (done.length : Int) + 1) (by omega) (by omega), show ((m : Int) + 1) = ((m + 1 : Nat) : Int) by omega, show (((m + 1 : Nat) : Int) + 1) = ((m + 2 : Nat) : Int) by omega, show ((done.length : Int) + 1) = ((done.length + 1 : Nat) : Int) by omega]
    · exact Ev.call (mk_tells m h1 (by omega)) (fun k => if_pos rfl) (Ev.call (mk_tells (m + 1) (by omega) (by omega)) (fun k => if_pos rfl) ih)
theorem heldStr_from : ∀ (rest done : List ByteArray) (m : Nat), 1 ≤ m → m + rest.length ≤ 1000000 → done.length + rest.length ≤ 1000000 → Ev (fun k => laws_heldStringS.l0 k (done ++ markS m rest) (m : Int) (done.length : Int)) ((m + rest.length : Nat) : Int)
  | [], done, m, _, _, _ => by
    refine Ev.step (f := fun _ => some (m : Int)) (fun k => ?_) (Ev.now _)
    rw [laws_heldStringS.l0, if_neg (by rw [markS, List.append_nil]; omega)]
  | a :: r, done, m, h1, hm, hd => by
    rw [List.length_cons] at hm hd
    have ih := heldStr_from r (done ++ [mk m]) (m + 1) (by omega) (by omega) (by rw [List.length_append, List.length_singleton]; omega)
    rw [markS]
    have hlt : done.length < (done ++ mk m :: markS (m + 1) r).length := by rw [List.length_append, List.length_cons]; omega
    have g1 : rdOf ByteArray.empty (done ++ mk m :: markS (m + 1) r) (done.length : Int) = mk m := by rw [rds_at _ _ hlt]; simp
    rw [List.length_append, List.length_singleton, show m + 1 + r.length = m + (r.length + 1) by omega, List.append_assoc] at ih
    refine Ev.step (f := fun k => (laws_markText.f k (m : Int)).bind fun t102 => (if (mk m).toList = t102.toList then (laws_heldStringS.l0 k (done ++ mk m :: markS (m + 1) r) ((m + 1 : Nat) : Int) ((done.length + 1 : Nat) : Int)) else (some (-1)))) (fun k => ?_) ?_
    · rw [laws_heldStringS.l0, if_pos (by omega), if_pos (by omega), g1, wrapIn (x := (m : Int) + 1) (by omega) (by omega), wrapIn (x := (done.length : Int) + 1) (by omega) (by omega), show ((m : Int) + 1) = ((m + 1 : Nat) : Int) by omega, show ((done.length : Int) + 1) = ((done.length + 1 : Nat) : Int) by omega]
    · exact Ev.call (mk_tells m h1 (by omega)) (fun k => if_pos rfl) ih
theorem markNote_tells (kind id : Int) (au ad : ByteArray) (now : Int) (u d : ByteArray) (ts : List S32) (body : List ByteArray) (ht : ts.length ≤ 4) (hb : body.length ≤ 12) :
    Ev (fun k => laws_markNote.f k kind id au ad now u d ts body 1) (((1 + 2 * ts.length + body.length : Nat) : Int), markA 1 ts, markS (1 + 2 * ts.length) body) := by
  have h1 : Ev (fun k => laws_markAddrS.f k ts 1) (((1 + 2 * ts.length : Nat) : Int), markA 1 ts) := markAddr_from ts [] 1 (by omega) (by omega) (by simp; omega)
  have h2 : Ev (fun k => laws_markStringS.f k body ((1 + 2 * ts.length : Nat) : Int)) (((1 + 2 * ts.length + body.length : Nat) : Int), markS (1 + 2 * ts.length) body) := markStr_from body [] (1 + 2 * ts.length) (by omega) (by omega) (by simp; omega)
  have h3 : Ev (fun k => laws_markMail.f k u d ts body 1) (((1 + 2 * ts.length + body.length : Nat) : Int), markA 1 ts, markS (1 + 2 * ts.length) body) := Ev.bind h1 (Ev.bind h2 (Ev.now _))
  exact Ev.bind h3 (Ev.now _)
theorem heldNote_tells (kind id : Int) (au ad : ByteArray) (now : Int) (u d : ByteArray) (ts : List S32) (body : List ByteArray) (ht : ts.length ≤ 4) (hb : body.length ≤ 12) :
    Ev (fun k => laws_heldNote.f k kind id au ad now u d (markA 1 ts) (markS (1 + 2 * ts.length) body) 1) ((1 + 2 * ts.length + body.length : Nat) : Int) := by
  have h1 : Ev (fun k => laws_heldAddrS.f k (markA 1 ts) 1) ((1 + 2 * ts.length : Nat) : Int) := heldAddr_from ts [] 1 (by omega) (by omega) (by simp; omega)
  have h2 : Ev (fun k => laws_heldStringS.f k (markS (1 + 2 * ts.length) body) ((1 + 2 * ts.length : Nat) : Int)) ((1 + 2 * ts.length + body.length : Nat) : Int) := heldStr_from body [] (1 + 2 * ts.length) (by omega) (by omega) (by simp; omega)
  have h3 : Ev (fun k => laws_heldMail.f k u d (markA 1 ts) (markS (1 + 2 * ts.length) body) 1) ((1 + 2 * ts.length + body.length : Nat) : Int) :=
    Ev.call h1 (fun k => if_neg (by omega)) (Ev.call h2 (h := fun _ => some ((1 + 2 * ts.length + body.length : Nat) : Int)) (fun k => if_neg (by omega)) (Ev.now _))
  exact Ev.call h3 (h := fun _ => some ((1 + 2 * ts.length + body.length : Nat) : Int)) (fun k => if_neg (by omega)) (Ev.now _)
theorem get_true (s : ByteArray) : Ev (fun k => laws_FnExactNoteGet.f k s) true := by
  by_cases h8 : s.size > 1048576
  · refine Ev.congr (f := fun _ => some true) (fun k => ?_) (Ev.now _)
    unfold laws_FnExactNoteGet.f
    rw [if_pos (by omega)]
  obtain ⟨r, hi, hsp, hfew⟩ := get_both s (by omega)
  obtain ⟨kind, id, au, ad, now, u, d, ts, body, ok⟩ := r
  have h4 : ts.length ≤ 4 := hfew.1
  have h12 : body.length ≤ 12 := hfew.2
  have heq := eqNote_self kind id au ad now u d ts body (by unfold Fits; omega) (by unfold Fits; omega)
  have hmark := markNote_tells kind id au ad now u d ts body h4 h12
  have hheld := heldNote_tells kind id au ad now u d ts body h4 h12
  have hj1 : Ev (fun k => laws_FnExactNoteGet.j1 k ((1 + 2 * ts.length + body.length : Nat) : Int) (ok != ok) kind id au ad now u d (markA 1 ts) (markS (1 + 2 * ts.length) body)) true := by
    rw [show (ok != ok) = false by cases ok <;> rfl]
    refine Ev.step (f := fun k => (laws_heldNote.f k kind id au ad now u d (markA 1 ts) (markS (1 + 2 * ts.length) body) 1).bind fun t152 => (if t152 < 0 then (some false) else (if t152 = ((1 + 2 * ts.length + body.length : Nat) : Int) then (some true) else (some false)))) (fun k => by rw [laws_FnExactNoteGet.j1, if_neg (by decide)]) ?_
    exact Ev.call hheld (h := fun _ => some true) (fun k => (if_neg (by omega)).trans (if_pos rfl)) (Ev.now _)
  have hj0 : Ev (fun k => laws_FnExactNoteGet.j0 k s ok (ok != ok) kind id au ad now u d ts body kind id au ad now u d ts body) true := by
    refine Ev.step (f := fun k => (laws_markNote.f k kind id au ad now u d ts body 1).bind fun bt132 => ((laws_heldNote.f k kind id au ad now u d bt132.2.1 bt132.2.2 1).bind fun t135 => (if t135 < 0 then (some false) else (if t135 = bt132.1 then ((impl_NoteGet.f k s).bind fun bt136 => ((laws_eqNote.f k bt136.1 bt136.2.1 bt136.2.2.1 bt136.2.2.2.1 bt136.2.2.2.2.1 bt136.2.2.2.2.2.1 bt136.2.2.2.2.2.2.1 bt136.2.2.2.2.2.2.2.1 bt136.2.2.2.2.2.2.2.2.1 kind id au ad now u d ts body).bind fun t151 => (if t151 = true then (laws_FnExactNoteGet.j1 k bt132.1 (bt136.2.2.2.2.2.2.2.2.2 != ok) kind id au ad now u d bt132.2.1 bt132.2.2) else (laws_FnExactNoteGet.j1 k bt132.1 true kind id au ad now u d bt132.2.1 bt132.2.2)))) else (some false))))) (fun k => by rw [laws_FnExactNoteGet.j0, if_neg (by cases ok <;> decide)]) ?_
    refine Ev.bind hmark ?_
    refine Ev.call hheld (fun k => (if_neg (by omega)).trans (if_pos rfl)) ?_
    refine Ev.bind hi ?_
    exact Ev.call heq (fun k => if_pos rfl) hj1
  refine Ev.congr (f := fun k => (spec_NoteGet.f k s).bind fun bt101 => ((impl_NoteGet.f k s).bind fun bt116 => ((laws_eqNote.f k bt116.1 bt116.2.1 bt116.2.2.1 bt116.2.2.2.1 bt116.2.2.2.2.1 bt116.2.2.2.2.2.1 bt116.2.2.2.2.2.2.1 bt116.2.2.2.2.2.2.2.1 bt116.2.2.2.2.2.2.2.2.1 bt101.1 bt101.2.1 bt101.2.2.1 bt101.2.2.2.1 bt101.2.2.2.2.1 bt101.2.2.2.2.2.1 bt101.2.2.2.2.2.2.1 bt101.2.2.2.2.2.2.2.1 bt101.2.2.2.2.2.2.2.2.1).bind fun t131 => (if t131 = true then (laws_FnExactNoteGet.j0 k s bt101.2.2.2.2.2.2.2.2.2 (bt116.2.2.2.2.2.2.2.2.2 != bt101.2.2.2.2.2.2.2.2.2) bt101.1 bt101.2.1 bt101.2.2.1 bt101.2.2.2.1 bt101.2.2.2.2.1 bt101.2.2.2.2.2.1 bt101.2.2.2.2.2.2.1 bt101.2.2.2.2.2.2.2.1 bt101.2.2.2.2.2.2.2.2.1 bt116.1 bt116.2.1 bt116.2.2.1 bt116.2.2.2.1 bt116.2.2.2.2.1 bt116.2.2.2.2.2.1 bt116.2.2.2.2.2.2.1 bt116.2.2.2.2.2.2.2.1 bt116.2.2.2.2.2.2.2.2.1) else (laws_FnExactNoteGet.j0 k s bt101.2.2.2.2.2.2.2.2.2 true bt101.1 bt101.2.1 bt101.2.2.1 bt101.2.2.2.1 bt101.2.2.2.2.1 bt101.2.2.2.2.2.1 bt101.2.2.2.2.2.2.1 bt101.2.2.2.2.2.2.2.1 bt101.2.2.2.2.2.2.2.2.1 bt116.1 bt116.2.1 bt116.2.2.1 bt116.2.2.2.1 bt116.2.2.2.2.1 bt116.2.2.2.2.2.1 bt116.2.2.2.2.2.2.1 bt116.2.2.2.2.2.2.2.1 bt116.2.2.2.2.2.2.2.2.1))))) (fun k => by
    unfold laws_FnExactNoteGet.f
    rw [if_neg (by omega)]) ?_
  refine Ev.bind hsp (Ev.bind hi ?_)
  exact Ev.call heq (fun k => if_pos rfl) hj0
end Go.Proofs.YtbncnjgflhoneaaGreatDoor.Hand
