/- The program's NotePut returns, for every note, what the reference's NotePut returns, and leaves its argument as it was: the tied card of FnExactNotePut. Conditions: the listed tables of Go's library read, when the call begins, as the program's own text lays them (the row's cell 'laid', tied by the card). -/
import Derived.Deep.SlicePairs
import Derived.Deep.Strs
import Derived.SliceStrings
import Derived.ProofKit
import Derived.Carry
import Derived.Lay
import Derived.LaidMore
import Derived.Deep.DeepHandedRow
import Derived.Lib.LaidTab
import Derived.Lib.LaidU8
import Derived.Shelf.Vars
import Derived.SevenTiedAt
import Derived.Test.YtbncnjgflhoneaaGreatDoorB02
import Derived.Test.YtbncnjgflhoneaaGreatDoorB18
import Derived.Test.YtbncnjgflhoneaaGreatDoorB27
namespace Go.Proofs.YtbncnjgflhoneaaGreatDoor.Hand
open Go.RowKit Go.Proofs.YtbncnjgflhoneaaGreatDoor.F Go.Proofs.YtbncnjgflhoneaaGreatDoorW.PrintWords Go.Proofs.YtbncnjgflhoneaaGreatDoorW.PrintLast Go.Proofs.YtbncnjgflhoneaaGreatDoorW.PrintMore
abbrev Fits (n : Nat) : Prop := n ≤ 9223372036854775807
theorem wrapS {x : Int} (h0 : -9223372036854775808 ≤ x) (h1 : x ≤ 9223372036854775807) : wrap64 x = x := by
  unfold wrap64
  omega
theorem szAddr_tells (u d : ByteArray) (a : Int) (hu : Fits u.size) (hd : Fits d.size) (h0 : 0 ≤ a) (h9 : a ≤ 1048576) : ∃ r, laws_szAddr.f u d a = some r ∧ (r < 0 ∨ (0 ≤ r ∧ r ≤ a ∧ u.size ≤ 1048576 ∧ d.size ≤ 1048576)) := by
  unfold Fits at hu hd
  unfold laws_szAddr.f
  rw [wrapS (x := a - (u.size : Int)) (by omega) (by omega)]
  by_cases h : a - (u.size : Int) < 0
  · rw [if_pos h]
    exact ⟨_, rfl, .inl (by omega)⟩
  · rw [if_neg h, wrapS (x := a - (u.size : Int) - (d.size : Int)) (by omega) (by omega)]
    by_cases h' : a - (u.size : Int) - (d.size : Int) < 0
    · rw [if_pos h']
      exact ⟨_, rfl, .inl (by omega)⟩
    · rw [if_neg h']
      exact ⟨_, rfl, .inr ⟨by omega, by omega, by omega, by omega⟩⟩
theorem rd23_at (l : List S23) (i : Nat) (h : i < l.length) : rd_T23 l (i : Int) = l[i] := by
  unfold rd_T23
  rw [Int.toNat_natCast, List.getD_eq_getElem?_getD, List.getElem?_eq_getElem h]
  rfl
theorem rd32_at (l : List S32) (i : Nat) (h : i < l.length) : rd_T32 l (i : Int) = l[i] := by
  unfold rd_T32
  rw [Int.toNat_natCast, List.getD_eq_getElem?_getD, List.getElem?_eq_getElem h]
  rfl
theorem rds_at (l : List ByteArray) (i : Nat) (h : i < l.length) : rdOf ByteArray.empty l (i : Int) = l[i] := by
  unfold rdOf
  rw [Int.toNat_natCast, List.getD_eq_getElem?_getD, List.getElem?_eq_getElem h]
  rfl
theorem szAddrS_from (l : List S23) (hl : Fits l.length) (hs : ∀ a ∈ l, Fits a.f0.size ∧ Fits a.f1.size) : ∀ (d i : Nat) (a : Int), l.length = i + d → 0 ≤ a → a ≤ 1048576 →
    ∃ r, Ev (fun k => laws_szAddrS.l0 k l a (i : Int)) r ∧ (r < 0 ∨ (0 ≤ r ∧ r ≤ a ∧ ∀ x ∈ l.drop i, x.f0.size ≤ 1048576 ∧ x.f1.size ≤ 1048576)) := by
  unfold Fits at hl
  intro d
  induction d with
  | zero =>
    intro i a hi h0 h9
    exact ⟨a, Ev.step (f := fun _ => some a) (fun k => by rw [laws_szAddrS.l0, if_neg (by omega)]) (Ev.now _), .inr ⟨h0, Int.le_refl _, fun x hx => by rw [List.drop_eq_nil_of_le (by omega)] at hx; cases hx⟩⟩
  | succ d ih =>
    intro i a hi h0 h9
    have hlt : i < l.length := by omega
    have hm := hs l[i] (List.getElem_mem hlt)
    obtain ⟨r, hr, hr'⟩ := szAddr_tells l[i].f0 l[i].f1 a hm.1 hm.2 h0 h9
    rcases hr' with hn | ⟨hp, hle, hu, hd⟩
    · refine ⟨-1, Ev.step (f := fun _ => some (-1)) (fun k => ?_) (Ev.now _), .inl (by omega)⟩
      rw [laws_szAddrS.l0, if_pos (by omega), if_pos (by omega), rd23_at l i hlt, hr, Option.bind_some, if_pos hn]
    · obtain ⟨q, hq, hq'⟩ := ih (i + 1) r (by omega) hp (by omega)
      refine ⟨q, Ev.step (f := fun k => laws_szAddrS.l0 k l r ((i + 1 : Nat) : Int)) (fun k => ?_) hq, ?_⟩
      · rw [laws_szAddrS.l0, if_pos (by omega), if_pos (by omega), rd23_at l i hlt, hr, Option.bind_some, if_neg (by omega), wrapIn (x := (i : Int) + 1) (by omega) (by omega), show ((i : Int) + 1) = ((i + 1 : Nat) : Int) by omega]
      · rcases hq' with h | ⟨a1, a2, a3⟩
        · exact .inl h
        · refine .inr ⟨a1, by omega, fun x hx => ?_⟩
          rw [List.drop_eq_getElem_cons hlt, List.mem_cons] at hx
          rcases hx with rfl | hx
          · exact ⟨hu, hd⟩
          · exact a3 x hx
theorem szAddrS_tells (l : List S23) (hl : Fits l.length) (hs : ∀ a ∈ l, Fits a.f0.size ∧ Fits a.f1.size) (a : Int) (h0 : 0 ≤ a) (h9 : a ≤ 1048576) :
    ∃ r, Ev (fun k => laws_szAddrS.f k l a) r ∧ (r < 0 ∨ (0 ≤ r ∧ r ≤ a ∧ l.length ≤ 1048576 ∧ ∀ x ∈ l, x.f0.size ≤ 1048576 ∧ x.f1.size ≤ 1048576)) := by
  have hl' := hl
  unfold Fits at hl'
  by_cases h : a - (l.length : Int) < 0
  · refine ⟨-1, Ev.congr (f := fun _ => some (-1)) (fun k => ?_) (Ev.now _), .inl (by omega)⟩
    unfold laws_szAddrS.f
    rw [wrapS (x := a - (l.length : Int)) (by omega) (by omega), if_pos h]
  · obtain ⟨q, hq, hq'⟩ := szAddrS_from l hl hs l.length 0 (a - (l.length : Int)) (by omega) (by omega) (by omega)
    refine ⟨q, Ev.congr (fun k => ?_) hq, ?_⟩
    · unfold laws_szAddrS.f
      rw [wrapS (x := a - (l.length : Int)) (by omega) (by omega), if_neg h]
      rfl
    · rcases hq' with h | ⟨a1, a2, a3⟩
      · exact .inl h
      · exact .inr ⟨a1, by omega, by omega, a3⟩
theorem szStringS_from (l : List ByteArray) (hl : Fits l.length) (hs : ∀ a ∈ l, Fits a.size) : ∀ (d i : Nat) (a : Int), l.length = i + d → 0 ≤ a → a ≤ 1048576 →
    ∃ r, Ev (fun k => laws_szStringS.l0 k l a (i : Int)) r ∧ (r < 0 ∨ (0 ≤ r ∧ r ≤ a ∧ ∀ x ∈ l.drop i, x.size ≤ 1048576)) := by
  unfold Fits at hl
  intro d
  induction d with
  | zero =>
    intro i a hi h0 h9
    exact ⟨a, Ev.step (f := fun _ => some a) (fun k => by rw [laws_szStringS.l0, if_neg (by omega)]) (Ev.now _), .inr ⟨h0, Int.le_refl _, fun x hx => by rw [List.drop_eq_nil_of_le (by omega)] at hx; cases hx⟩⟩
  | succ d ih =>
    intro i a hi h0 h9
    have hlt : i < l.length := by omega
    have hm := hs l[i] (List.getElem_mem hlt)
    unfold Fits at hm
    by_cases hn : a - (l[i].size : Int) < 0
    · refine ⟨-1, Ev.step (f := fun _ => some (-1)) (fun k => ?_) (Ev.now _), .inl (by omega)⟩
      rw [laws_szStringS.l0, if_pos (by omega), if_pos (by omega), rds_at l i hlt, wrapS (x := a - (l[i].size : Int)) (by omega) (by omega), if_pos hn]
    · obtain ⟨q, hq, hq'⟩ := ih (i + 1) (a - (l[i].size : Int)) (by omega) (by omega) (by omega)
      refine ⟨q, Ev.step (f := fun k => laws_szStringS.l0 k l (a - (l[i].size : Int)) ((i + 1 : Nat) : Int)) (fun k => ?_) hq, ?_⟩
      · rw [laws_szStringS.l0, if_pos (by omega), if_pos (by omega), rds_at l i hlt, wrapS (x := a - (l[i].size : Int)) (by omega) (by omega), if_neg hn, wrapIn (x := (i : Int) + 1) (by omega) (by omega), show ((i : Int) + 1) = ((i + 1 : Nat) : Int) by omega]
      · rcases hq' with h | ⟨a1, a2, a3⟩
        · exact .inl h
        · refine .inr ⟨a1, by omega, fun x hx => ?_⟩
          rw [List.drop_eq_getElem_cons hlt, List.mem_cons] at hx
          rcases hx with rfl | hx
          · omega
          · exact a3 x hx
theorem szStringS_tells (l : List ByteArray) (hl : Fits l.length) (hs : ∀ a ∈ l, Fits a.size) (a : Int) (h0 : 0 ≤ a) (h9 : a ≤ 1048576) :
    ∃ r, Ev (fun k => laws_szStringS.f k l a) r ∧ (r < 0 ∨ (0 ≤ r ∧ r ≤ a ∧ l.length ≤ 1048576 ∧ ∀ x ∈ l, x.size ≤ 1048576)) := by
  have hl' := hl
  unfold Fits at hl'
  by_cases h : a - (l.length : Int) < 0
  · refine ⟨-1, Ev.congr (f := fun _ => some (-1)) (fun k => ?_) (Ev.now _), .inl (by omega)⟩
    unfold laws_szStringS.f
    rw [wrapS (x := a - (l.length : Int)) (by omega) (by omega), if_pos h]
  · obtain ⟨q, hq, hq'⟩ := szStringS_from l hl hs l.length 0 (a - (l.length : Int)) (by omega) (by omega) (by omega)
    refine ⟨q, Ev.congr (fun k => ?_) hq, ?_⟩
    · unfold laws_szStringS.f
      rw [wrapS (x := a - (l.length : Int)) (by omega) (by omega), if_neg h]
      rfl
    · rcases hq' with h | ⟨a1, a2, a3⟩
      · exact .inl h
      · exact .inr ⟨a1, by omega, by omega, a3⟩
structure Held (au ad u d : ByteArray) (ts : List S23) (body : List ByteArray) : Prop where
  hau : Fits au.size
  had : Fits ad.size
  hu : Fits u.size
  hd : Fits d.size
  hts : Fits ts.length
  tos : ∀ a : S23, a ∈ ts → Fits a.f0.size ∧ Fits a.f1.size
  hbody : Fits body.length
  lines : ∀ s ∈ body, Fits s.size
structure Small (au ad u d : ByteArray) (ts : List S23) (body : List ByteArray) : Prop where
  hau : au.size ≤ 1048576
  had : ad.size ≤ 1048576
  hu : u.size ≤ 1048576
  hd : d.size ≤ 1048576
  hts : ts.length ≤ 1048576
  tos : ∀ a : S23, a ∈ ts → a.f0.size ≤ 1048576 ∧ a.f1.size ≤ 1048576
  hbody : body.length ≤ 1048576
  lines : ∀ s ∈ body, s.size ≤ 1048576
theorem szNote_tells (kind id : Int) (au ad : ByteArray) (now : Int) (u d : ByteArray) (ts : List S23) (body : List ByteArray) (h : Held au ad u d ts body) :
    ∃ r, Ev (fun k => laws_szNote.f k kind id au ad now u d ts body 1048576) r ∧ (r < 0 ∨ Small au ad u d ts body) := by
  obtain ⟨r1, e1, g1⟩ := szAddr_tells au ad 1048576 h.hau h.had (by decide) (by decide)
  rcases g1 with n1 | ⟨p1, q1, u1, d1⟩
  · refine ⟨-1, Ev.congr (f := fun _ => some (-1)) (fun k => ?_) (Ev.now _), .inl (by omega)⟩
    unfold laws_szNote.f
    rw [e1, Option.bind_some, if_pos n1]
  obtain ⟨r2, e2, g2⟩ := szAddr_tells u d r1 h.hu h.hd p1 q1
  rcases g2 with n2 | ⟨p2, q2, u2, d2⟩
  · refine ⟨-1, Ev.congr (f := fun _ => some (-1)) (fun k => ?_) (Ev.now _), .inl (by omega)⟩
    unfold laws_szNote.f laws_szMail.f
    rw [e1, Option.bind_some, if_neg (by omega), e2, Option.bind_some, if_pos n2]
    rfl
  obtain ⟨r3, e3, g3⟩ := szAddrS_tells ts h.hts h.tos r2 p2 (by omega)
  have E : ∀ {r : Int} (F : Nat → Int → Option Int), Ev (fun k => (laws_szAddrS.f k ts r2).bind (F k)) r → Ev (fun k => laws_szAddrS.f k ts r2 |>.bind (F k)) r := fun _ h => h
  have M : ∀ r : Int, Ev (fun k => (laws_szAddrS.f k ts r2).bind fun t103 => (if t103 < 0 then (some (-1)) else ((laws_szStringS.f k body t103).bind fun t104 => (if t104 < 0 then (some (-1)) else (some t104))))) r →
      Ev (fun k => laws_szMail.f k u d ts body r1) r := fun r g => Ev.congr (fun k => by
    unfold laws_szMail.f
    rw [e2, Option.bind_some, if_neg (by omega)]) g
  have T : ∀ r : Int, Ev (fun k => laws_szMail.f k u d ts body r1) r → ∃ q, Ev (fun k => laws_szNote.f k kind id au ad now u d ts body 1048576) q ∧ (q = r ∨ q < 0) := fun r g => by
    have c : ∀ k, laws_szNote.f k kind id au ad now u d ts body 1048576 = (laws_szMail.f k u d ts body r1).bind fun t103 => (if t103 < 0 then (some (-1)) else (some t103)) := fun k => by
      unfold laws_szNote.f
      rw [e1, Option.bind_some, if_neg (by omega)]
    by_cases hr : r < 0
    · exact ⟨-1, Ev.congr c (Ev.call g (h := fun _ => some (-1)) (fun k => if_pos hr) (Ev.now _)), .inr (by omega)⟩
    · exact ⟨r, Ev.congr c (Ev.call g (h := fun _ => some r) (fun k => if_neg hr) (Ev.now _)), .inl rfl⟩
  rcases g3 with n3 | ⟨p3, q3, l3, s3⟩
  · obtain ⟨q, hq, hq'⟩ := T _ (M _ (Ev.call e3 (h := fun _ => some (-1)) (fun k => if_pos n3) (Ev.now _)))
    exact ⟨q, hq, .inl (by omega)⟩
  obtain ⟨r4, e4, g4⟩ := szStringS_tells body h.hbody h.lines r3 p3 (by omega)
  rcases g4 with n4 | ⟨p4, q4, l4, s4⟩
  · obtain ⟨q, hq, hq'⟩ := T _ (M _ (Ev.call e3 (fun k => if_neg (by omega)) (Ev.call e4 (h := fun _ => some (-1)) (fun k => if_pos n4) (Ev.now _))))
    exact ⟨q, hq, .inl (by omega)⟩
  · obtain ⟨q, hq, hq'⟩ := T _ (M _ (Ev.call e3 (fun k => if_neg (by omega)) (Ev.call e4 (h := fun _ => some r4) (fun k => if_neg (by omega)) (Ev.now _))))
    exact ⟨q, hq, .inr ⟨u1, d1, u2, d2, l3, s3, l4, s4⟩⟩
def toS (a : S23) : S32 := ⟨a.f0, a.f1⟩
theorem set_mid {α : Type} (a : List α) (x y : α) (b : List α) : (a ++ x :: b).set a.length y = (a ++ [y]) ++ b := by
  rw [List.set_append_right a.length y (Nat.le_refl _), Nat.sub_self, List.set_cons_zero, List.append_assoc]
  rfl
theorem toAddrS_from (l : List S23) (hl : Fits l.length) : ∀ (d i : Nat), l.length = i + d → Ev (fun k => laws_toAddrS.l0 k l ((l.take i).map toS ++ List.replicate d z32) (i : Int)) (l.map toS) := by
  unfold Fits at hl
  intro d
  induction d with
  | zero =>
    intro i hi
    refine Ev.step (f := fun _ => some (l.map toS)) (fun k => ?_) (Ev.now _)
    rw [laws_toAddrS.l0, if_neg (by omega), List.take_of_length_le (by omega), List.replicate_zero, List.append_nil]
  | succ d ih =>
    intro i hi
    have hlt : i < l.length := by omega
    have hlen : ((l.take i).map toS).length = i := by rw [List.length_map, List.length_take]; omega
    refine Ev.step (fun k => ?_) (ih (i + 1) (by omega))
    rw [laws_toAddrS.l0, if_pos (by omega), if_pos (by omega), rd23_at l i hlt]
    unfold laws_toAddr.f
    rw [Option.bind_some, if_pos (by rw [List.length_append, hlen, List.length_replicate]; omega), Int.toNat_natCast, wrapIn (x := (i : Int) + 1) (by omega) (by omega), show ((i : Int) + 1) = ((i + 1 : Nat) : Int) by omega, List.replicate_succ]
    have := set_mid ((l.take i).map toS) z32 (toS l[i]) (List.replicate d z32)
    rw [hlen] at this
    refine (congrArg (fun z => laws_toAddrS.l0 k l z ((i + 1 : Nat) : Int)) this).trans ?_
    rw [List.take_succ_eq_append_getElem hlt, List.map_append, List.map_singleton]
theorem toAddrS_tells (l : List S23) (hl : l.length ≤ 1048576) : Ev (fun k => laws_toAddrS.f k l) (l.map toS) := by
  refine Ev.congr (fun k => ?_) (toAddrS_from l (by unfold Fits; omega) l.length 0 (by omega))
  unfold laws_toAddrS.f
  rw [if_pos (by omega), Int.toNat_natCast, if_pos (by omega)]
  rfl
theorem toStringS_from (l : List ByteArray) (hl : Fits l.length) : ∀ (d i : Nat), l.length = i + d → Ev (fun k => laws_toStringS.l0 k l (l.take i ++ List.replicate d (⟨#[]⟩ : ByteArray)) (i : Int)) l := by
  unfold Fits at hl
  intro d
  induction d with
  | zero =>
    intro i hi
    refine Ev.step (f := fun _ => some l) (fun k => ?_) (Ev.now _)
    rw [laws_toStringS.l0, if_neg (by omega), List.take_of_length_le (by omega), List.replicate_zero, List.append_nil]
  | succ d ih =>
    intro i hi
    have hlt : i < l.length := by omega
    have hlen : (l.take i).length = i := by rw [List.length_take]; omega
    refine Ev.step (fun k => ?_) (ih (i + 1) (by omega))
    rw [laws_toStringS.l0, if_pos (by omega), if_pos (by omega), rds_at l i hlt, if_pos (by rw [List.length_append, hlen, List.length_replicate]; omega), Int.toNat_natCast, wrapIn (x := (i : Int) + 1) (by omega) (by omega), show ((i : Int) + 1) = ((i + 1 : Nat) : Int) by omega, List.replicate_succ]
    have := set_mid (l.take i) (⟨#[]⟩ : ByteArray) l[i] (List.replicate d (⟨#[]⟩ : ByteArray))
    rw [hlen] at this
    refine (congrArg (fun z => laws_toStringS.l0 k l z ((i + 1 : Nat) : Int)) this).trans ?_
    rw [List.take_succ_eq_append_getElem hlt]
theorem toStringS_tells (l : List ByteArray) (hl : l.length ≤ 1048576) : Ev (fun k => laws_toStringS.f k l) l := by
  refine Ev.congr (fun k => ?_) (toStringS_from l (by unfold Fits; omega) l.length 0 (by omega))
  unfold laws_toStringS.f
  rw [if_pos (by omega), Int.toNat_natCast, if_pos (by omega)]
  rfl
theorem toNote_tells (kind id : Int) (au ad : ByteArray) (now : Int) (u d : ByteArray) (ts : List S23) (body : List ByteArray) (h : Small au ad u d ts body) :
    Ev (fun k => laws_toNote.f k kind id au ad now u d ts body) (kind, id, au, ad, now, u, d, ts.map toS, body) := by
  have g : Ev (fun k => laws_toMail.f k u d ts body) (u, d, ts.map toS, body) :=
    Ev.congr (f := fun k => (laws_toAddrS.f k ts).bind fun t106 => ((laws_toStringS.f k body).bind fun t109 => (some (u, d, t106, t109)))) (fun k => rfl) (Ev.call (toAddrS_tells ts h.hts) (fun k => rfl) (Ev.call (toStringS_tells body h.hbody) (h := fun _ => some (u, d, ts.map toS, body)) (fun k => rfl) (Ev.now _)))
  exact Ev.congr (f := fun k => (laws_toMail.f k u d ts body).bind fun bt106 => (some (kind, id, au, ad, now, bt106.1, bt106.2.1, bt106.2.2.1, bt106.2.2.2))) (fun k => rfl) (Ev.call g (h := fun _ => some (kind, id, au, ad, now, u, d, ts.map toS, body)) (fun k => rfl) (Ev.now _))
theorem eqAddr_self (u d : ByteArray) : laws_eqAddr.f u d u d = some true := by
  unfold laws_eqAddr.f
  rw [if_pos rfl, if_pos rfl]
theorem eqAddrS_from (l : List S32) (hl : Fits l.length) : ∀ (d i : Nat), l.length = i + d → Ev (fun k => laws_eqAddrS.l0 k l l (i : Int)) true := by
  unfold Fits at hl
  intro d
  induction d with
  | zero =>
    intro i hi
    refine Ev.step (f := fun _ => some true) (fun k => ?_) (Ev.now _)
    rw [laws_eqAddrS.l0, if_neg (by omega)]
  | succ d ih =>
    intro i hi
    refine Ev.step (fun k => ?_) (ih (i + 1) (by omega))
    rw [laws_eqAddrS.l0, if_pos (by omega), if_pos (by omega), if_pos (by omega), eqAddr_self, Option.bind_some, if_pos rfl, wrapIn (x := (i : Int) + 1) (by omega) (by omega), show ((i : Int) + 1) = ((i + 1 : Nat) : Int) by omega]
theorem eqAddrS_self (l : List S32) (hl : Fits l.length) : Ev (fun k => laws_eqAddrS.f k l l) true :=
  Ev.congr (fun k => by unfold laws_eqAddrS.f; rw [if_pos rfl]; rfl) (eqAddrS_from l hl l.length 0 (by omega))
theorem eqStringS_from (l : List ByteArray) (hl : Fits l.length) : ∀ (d i : Nat), l.length = i + d → Ev (fun k => laws_eqStringS.l0 k l l (i : Int)) true := by
  unfold Fits at hl
  intro d
  induction d with
  | zero =>
    intro i hi
    refine Ev.step (f := fun _ => some true) (fun k => ?_) (Ev.now _)
    rw [laws_eqStringS.l0, if_neg (by omega)]
  | succ d ih =>
    intro i hi
    refine Ev.step (fun k => ?_) (ih (i + 1) (by omega))
    rw [laws_eqStringS.l0, if_pos (by omega), if_pos (by omega), if_pos (by omega), if_pos rfl, wrapIn (x := (i : Int) + 1) (by omega) (by omega), show ((i : Int) + 1) = ((i + 1 : Nat) : Int) by omega]
theorem eqStringS_self (l : List ByteArray) (hl : Fits l.length) : Ev (fun k => laws_eqStringS.f k l l) true :=
  Ev.congr (fun k => by unfold laws_eqStringS.f; rw [if_pos rfl]; rfl) (eqStringS_from l hl l.length 0 (by omega))
theorem eqNote_self (kind id : Int) (au ad : ByteArray) (now : Int) (u d : ByteArray) (ts : List S32) (body : List ByteArray) (ht : Fits ts.length) (hb : Fits body.length) :
    Ev (fun k => laws_eqNote.f k kind id au ad now u d ts body kind id au ad now u d ts body) true := by
  have m : Ev (fun k => laws_eqMail.f k u d ts body u d ts body) true := by
    refine Ev.congr (f := fun k => (laws_eqAddrS.f k ts ts).bind fun t104 => (if t104 = true then ((laws_eqStringS.f k body body).bind fun t105 => (if t105 = true then (some true) else (some false))) else (some false))) (fun k => ?_) ?_
    · unfold laws_eqMail.f
      rw [eqAddr_self, Option.bind_some, if_pos rfl]
    · exact Ev.call (eqAddrS_self ts ht) (fun k => if_pos rfl) (Ev.call (eqStringS_self body hb) (h := fun _ => some true) (fun k => if_pos rfl) (Ev.now _))
  refine Ev.congr (f := fun k => (laws_eqMail.f k u d ts body u d ts body).bind fun t104 => (if t104 = true then (some true) else (some false))) (fun k => ?_) ?_
  · unfold laws_eqNote.f
    rw [if_pos rfl, if_pos rfl, eqAddr_self, Option.bind_some, if_pos rfl, if_pos rfl]
  · exact Ev.call m (h := fun _ => some true) (fun k => if_pos rfl) (Ev.now _)
theorem put_true (kind id : Int) (au ad : ByteArray) (now : Int) (u d : ByteArray) (ts : List S23) (body : List ByteArray) (h : Held au ad u d ts body) :
    Ev (fun k => laws_FnExactNotePut.f k kind id au ad now u d ts body) true := by
  obtain ⟨r, hr, hr'⟩ := szNote_tells kind id au ad now u d ts body h
  by_cases hn : r < 0
  · exact Ev.call hr (h := fun _ => some true) (fun k => if_pos hn) (Ev.now _)
  have hS : Small au ad u d ts body := hr'.resolve_left hn
  have hl : (ts.map toS).length = ts.length := List.length_map ..
  have hs : Short u d (ts.map toS) body := ⟨by have := hS.hu; omega, by have := hS.hd; omega, fun a ha => by
    obtain ⟨x, hx, rfl⟩ := List.mem_map.1 ha
    have := hS.tos x hx
    exact ⟨by show x.f0.size ≤ _; omega, by show x.f1.size ≤ _; omega⟩, fun s hs => by have := hS.lines s hs; omega, by have := hS.hts; omega, by have := hS.hbody; omega⟩
  have hc := toNote_tells kind id au ad now u d ts body hS
  refine Ev.call hr (fun k => if_neg hn) ?_
  refine Ev.call hc (fun k => rfl) ?_
  refine Ev.call (sNotePut_tells kind id au ad now u d (ts.map toS) body hs (by have := hS.hau; omega) (by have := hS.had; omega)) (fun k => rfl) ?_
  refine Ev.call hc (fun k => rfl) ?_
  refine Ev.call (pNotePut_tells kind id au ad now u d (ts.map toS) body hs (by have := hS.hau; omega) (by have := hS.had; omega)) (fun k => if_pos rfl) ?_
  refine Ev.call hc (fun k => rfl) ?_
  exact Ev.call (eqNote_self kind id au ad now u d (ts.map toS) body (by have := hS.hts; unfold Fits; omega) (by have := hS.hbody; unfold Fits; omega)) (h := fun _ => some true) (fun k => if_pos rfl) (Ev.now _)
end Go.Proofs.YtbncnjgflhoneaaGreatDoor.Hand
namespace Go.Proofs.YtbncnjgflhoneaaGreatDoor.Hand
open Go.RowKit Go.ChangeShapes Go.WideShapes Go.Deep Go.Proofs.YtbncnjgflhoneaaGreatDoor.F Go.Proofs.YtbncnjgflhoneaaGreatDoorW.PrintWords Go.Proofs.YtbncnjgflhoneaaGreatDoorW.PrintLast Go.Proofs.YtbncnjgflhoneaaGreatDoorW.PrintMore
section
variable {H : Type} {enc : TypeId × Value → H} {w : World}
theorem cells23 : Tryz.prog.cellsOf 23 = 2 := by kernel_rfl
theorem cells27 : Tryz.prog.cellsOf 27 = 4 := by kernel_rfl
theorem cells29 : Tryz.prog.cellsOf 29 = 9 := by kernel_rfl
theorem cells9 : Tryz.prog.cellsOf 9 = 1 := by kernel_rfl
theorem cells3 : Tryz.prog.cellsOf 3 = 1 := by kernel_rfl
theorem cells24 : Tryz.prog.cellsOf 24 = 1 := by kernel_rfl
theorem cells25 : Tryz.prog.cellsOf 25 = 1 := by kernel_rfl
def txt : Value → ByteArray
  | .string s => s
  | _ => ByteArray.empty
theorem open_addrs {fuel : Nat} {c : Value} {x : DataW H × List MemPlace} (h : DataW.trod enc Tryz.prog w 0 (fun _ => true) true fuel 24 [c] = some x) :
    ∃ (A : Option Addr) (n : Nat) (l : List S23), c = .slice A l.length n ∧ Kd.C k23 w A l.length l ∧ l.length ≤ n ∧ Fits l.length ∧ ∀ a ∈ l, Fits a.f0.size ∧ Fits a.f1.size := by
  rcases open_slice_pairs Tryz.underlying24 Tryz.underlying23 cells23 rfl rfl cells9 cells9 h with ⟨hc, _⟩ | ⟨a, len, cap, m, n, V0, V1, D0, D1, P0, P1, hc, _, hl, hm, hmm, _, hcell⟩
  · injection hc with hc
    exact ⟨none, 0, [], hc, ⟨rfl, by decide, fun h => absurd h (by decide)⟩, Nat.le_refl _, by decide, fun _ h => by cases h⟩
  · injection hc with hc
    have hml : maxLen = 9223372036854775807 := rfl
    rw [hml] at hm
    have hm' : m = cap := by simpa using hmm
    have key : ∀ i, i < len → ∃ s t : ByteArray, V0 i = .string s ∧ V1 i = .string t ∧ s.size ≤ maxLen ∧ t.size ≤ maxLen := fun i hi => by
      obtain ⟨_, _, g0, g1⟩ := hcell i (by omega)
      obtain ⟨s, e0, _, z0⟩ := DataW.trod_string Tryz.underlying9 g0
      obtain ⟨t, e1, _, z1⟩ := DataW.trod_string Tryz.underlying9 g1
      injection e0 with e0
      injection e1 with e1
      exact ⟨s, t, e0, e1, z0, z1⟩
    have hlen : ((List.range len).map fun i => (⟨txt (V0 i), txt (V1 i)⟩ : S23)).length = len := by rw [List.length_map, List.length_range]
    refine ⟨some a, cap, (List.range len).map fun i => (⟨txt (V0 i), txt (V1 i)⟩ : S23), by rw [hlen]; exact hc, ?_, by rw [hlen]; exact hl, by rw [hlen]; unfold Fits; omega, ?_⟩
    · rw [hlen]
      refine ⟨hlen, by omega, fun _ => ⟨a, rfl, fun j p hp => ?_⟩⟩
      have hj : j < len := by
        have := (List.getElem?_eq_some_iff.1 hp).1
        rwa [hlen] at this
      rw [List.getElem?_map, List.getElem?_range hj] at hp
      injection hp with hp
      obtain ⟨s, t, e0, e1, _, _⟩ := key j hj
      obtain ⟨h0, h1, _, _⟩ := hcell j (by omega)
      subst hp
      rw [e0] at h0
      rw [e1] at h1
      refine ⟨[.string (txt (V0 j)), .string (txt (V1 j))], rfl, k23_mk w _, fun i u hu => ?_⟩
      rw [e0, e1] at hu
      match i, hu with
      | 0, hu =>
        injection hu with hu
        subst hu
        exact h0
      | 1, hu =>
        injection hu with hu
        subst hu
        exact h1
    · intro x hx
      obtain ⟨i, hi, rfl⟩ := List.mem_map.1 hx
      obtain ⟨s, t, e0, e1, z0, z1⟩ := key i (List.mem_range.1 hi)
      rw [e0, e1]
      rw [hml] at z0 z1
      exact ⟨z0, z1⟩
theorem open_lines {fuel : Nat} {c : Value} {x : DataW H × List MemPlace} (h : DataW.trod enc Tryz.prog w 0 (fun _ => true) true fuel 25 [c] = some x) :
    ∃ (A : Option Addr) (n : Nat) (l : List ByteArray), c = .slice A l.length n ∧ Kd.C Kd.string w A l.length l ∧ l.length ≤ n ∧ Fits l.length ∧ ∀ s ∈ l, Fits s.size := by
  rcases open_strings Tryz.underlying25 Tryz.underlying9 cells9 h with ⟨hc, _⟩ | ⟨a, len, cap, ss, hc, _, hl, hm, hz, _, hcell, hs⟩
  · injection hc with hc
    exact ⟨none, 0, [], hc, ⟨rfl, by decide, fun h => absurd h (by decide)⟩, Nat.le_refl _, by decide, fun _ h => by cases h⟩
  · injection hc with hc
    have hml : maxLen = 9223372036854775807 := rfl
    rw [hml] at hm
    have hz' : ss.length = cap := by simpa using hz
    have hlen : (ss.take len).length = len := by rw [List.length_take]; omega
    refine ⟨some a, cap, ss.take len, by rw [hlen]; exact hc, ?_, by rw [hlen]; exact hl, by rw [hlen]; unfold Fits; omega, fun s hx => ?_⟩
    · rw [hlen]
      refine ⟨hlen, by omega, fun _ => ⟨a, rfl, fun j p hp => ?_⟩⟩
      have hj : j < len := by
        have := (List.getElem?_eq_some_iff.1 hp).1
        rwa [hlen] at this
      rw [List.getElem?_take_of_lt hj] at hp
      have h0 := hcell j (by omega)
      rw [List.getD_eq_getElem?_getD, hp] at h0
      refine ⟨[.string p], rfl, rfl, fun i u hu => ?_⟩
      match i, hu with
      | 0, hu =>
        injection hu with hu
        subst hu
        show w.cell? (a.add (j * 1 + 0)) = _
        rw [Nat.mul_one, Nat.add_zero]
        exact h0
    · have := hs s (List.mem_of_mem_take hx)
      rw [hml] at this
      exact this
theorem open_addr {fuel : Nat} {c0 c1 : Value} {x : DataW H × List MemPlace} (h : DataW.trod enc Tryz.prog w 0 (fun _ => true) true fuel 23 [c0, c1] = some x) :
    ∃ u d : ByteArray, c0 = .string u ∧ c1 = .string d ∧ Fits u.size ∧ Fits d.size := by
  obtain ⟨y0, y1, n, _, _, h0, h1⟩ := trod_struct2 Tryz.underlying23 h
  rw [cells9] at h0 h1
  obtain ⟨u, e0, _, z0⟩ := DataW.trod_string Tryz.underlying9 h0
  obtain ⟨d, e1, _, z1⟩ := DataW.trod_string Tryz.underlying9 h1
  injection e0 with e0
  injection e1 with e1
  exact ⟨u, d, e0, e1, z0, z1⟩
theorem list9 {α : Type} {cs : List α} (h : cs.length = 9) : ∃ c0 c1 c2 c3 c4 c5 c6 c7 c8, cs = [c0, c1, c2, c3, c4, c5, c6, c7, c8] := by
  match cs, h with
  | [c0, c1, c2, c3, c4, c5, c6, c7, c8], _ => exact ⟨c0, c1, c2, c3, c4, c5, c6, c7, c8, rfl⟩
set_option maxRecDepth 100000 in
theorem open_note {r : Reach} {b0 : Nat} {v : Value} {d : DataW H} {p : List MemPlace} (hv : Value.okWide Tryz.prog w r b0 29 v) (h : DataW.Trod enc Tryz.prog w 0 (fun _ => true) true 29 v d p) :
    ∃ (kind id : Int) (au ad : ByteArray) (now : Int) (u dm : ByteArray) (A7 : Option Addr) (n7 : Nat) (l7 : List S23) (A8 : Option Addr) (n8 : Nat) (l8 : List ByteArray),
      v = .agg #[.int .i64 kind, .int .i64 id, .string au, .string ad, .int .i64 now, .string u, .string dm, .slice A7 l7.length n7, .slice A8 l8.length n8] ∧
      Kd.C k23 w A7 l7.length l7 ∧ l7.length ≤ n7 ∧ Kd.C Kd.string w A8 l8.length l8 ∧ l8.length ≤ n8 ∧ Held au ad u dm l7 l8 := by
  obtain ⟨⟨cs⟩, rfl, hsz⟩ := okWide_struct Tryz.underlying29 hv
  rw [cells29] at hsz
  obtain ⟨fuel, hf⟩ := h
  obtain ⟨xs, n, _, _, _, hlen, hx⟩ := DataW.trod_struct Tryz.underlying29 hf
  have hf' : ∀ i, i < 5 → ∃ y, xs[i]? = some y := fun i hi => ⟨_, List.getElem?_eq_getElem (by rw [hlen]; exact hi)⟩
  obtain ⟨c0, c1, c2, c3, c4, c5, c6, c7, c8, rfl⟩ := list9 (show cs.length = 9 from hsz)
  obtain ⟨y0, i0⟩ := hf' 0 (by decide)
  obtain ⟨y1, i1⟩ := hf' 1 (by decide)
  obtain ⟨y2, i2⟩ := hf' 2 (by decide)
  obtain ⟨y3, i3⟩ := hf' 3 (by decide)
  obtain ⟨y4, i4⟩ := hf' 4 (by decide)
  have g0 : DataW.trod enc Tryz.prog w 0 (fun _ => true) true n 3 ((List.drop 0 [c0, c1, c2, c3, c4, c5, c6, c7, c8]).take (Tryz.prog.cellsOf 3)) = some y0 := (hx 0 _ rfl).trans i0
  have g1 : DataW.trod enc Tryz.prog w 0 (fun _ => true) true n 3 ((List.drop 1 [c0, c1, c2, c3, c4, c5, c6, c7, c8]).take (Tryz.prog.cellsOf 3)) = some y1 := (hx 1 _ rfl).trans i1
  have g2 : DataW.trod enc Tryz.prog w 0 (fun _ => true) true n 23 ((List.drop 2 [c0, c1, c2, c3, c4, c5, c6, c7, c8]).take (Tryz.prog.cellsOf 23)) = some y2 := (hx 2 _ rfl).trans i2
  have g3 : DataW.trod enc Tryz.prog w 0 (fun _ => true) true n 3 ((List.drop 4 [c0, c1, c2, c3, c4, c5, c6, c7, c8]).take (Tryz.prog.cellsOf 3)) = some y3 := (hx 3 _ rfl).trans i3
  have g4 : DataW.trod enc Tryz.prog w 0 (fun _ => true) true n 27 ((List.drop 5 [c0, c1, c2, c3, c4, c5, c6, c7, c8]).take (Tryz.prog.cellsOf 27)) = some y4 := (hx 4 _ rfl).trans i4
  rw [cells3] at g0 g1 g3
  rw [cells23] at g2
  rw [cells27] at g4
  obtain ⟨kind, e0, _, _⟩ := DataW.trod_int Tryz.underlying3 g0
  obtain ⟨id, e1, _, _⟩ := DataW.trod_int Tryz.underlying3 g1
  obtain ⟨au, ad, e2, e3, z2, z3⟩ := open_addr (c0 := c2) (c1 := c3) g2
  obtain ⟨now, e4, _, _⟩ := DataW.trod_int Tryz.underlying3 g3
  have g4' : DataW.trod enc Tryz.prog w 0 (fun _ => true) true n 27 [c5, c6, c7, c8] = some y4 := g4
  obtain ⟨q0, q1, q2, m, _, _, k0, k1, k2⟩ := trod_struct3 Tryz.underlying27 g4'
  rw [cells23] at k0
  rw [cells24] at k1
  rw [cells25] at k2
  obtain ⟨u, dm, e5, e6, z5, z6⟩ := open_addr (c0 := c5) (c1 := c6) k0
  obtain ⟨A7, n7, l7, e7, r7, s7, f7, t7⟩ := open_addrs (c := c7) k1
  obtain ⟨A8, n8, l8, e8, r8, s8, f8, t8⟩ := open_lines (c := c8) k2
  injection e0 with e0
  injection e1 with e1
  injection e4 with e4
  have e0 : c0 = .int .i64 kind := e0
  have e1 : c1 = .int .i64 id := e1
  have e4 : c4 = .int .i64 now := e4
  subst e0 e1 e2 e3 e4 e5 e6 e7 e8
  exact ⟨kind, id, au, ad, now, u, dm, A7, n7, l7, A8, n8, l8, rfl, r7, s7, r8, s8, ⟨z2, z3, z5, z6, f7, t7, f8, t8⟩⟩
end
end Go.Proofs.YtbncnjgflhoneaaGreatDoor.Hand
namespace Go.Proofs.YtbncnjgflhoneaaGreatDoor.PutRow
open Go.ChangeShapes Go.WideShapes Go.ChangeAt Go.RowKit Go.Proofs.YtbncnjgflhoneaaGreatDoor.F Go.Proofs.YtbncnjgflhoneaaGreatDoor.Hand Go.Proofs.YtbncnjgflhoneaaGreatDoorW.PrintWords
theorem own : ownKnob Tryz.prog.godebug = none := by kernel_rfl
theorem lies : laidOutB Tryz.prog = true := by kernel_rfl
theorem under_tab : Tryz.prog.underlying 172 = some (.array 20 146) := by kernel_rfl
theorem laid_of {W : World} (h : laidMetH Tryz.prog Rows.fnExactNotePutRow.laid W) (hs : W.ShapedOpen Tryz.prog) : Laid W := by
  rw [MakeChecks.laidMetH_plain _ _ _ (by kernel_rfl)] at h
  refine ⟨Go.Proofs.cell_of_shapedOpen_int (zero := #[.int .i64 0]) (t := 3) hs (of_decide_eq_true (by kernel_rfl)) (by kernel_rfl) rfl (by kernel_rfl) (by kernel_rfl) Tryz.underlying3, ?_⟩
  obtain ⟨g, t, cs, fuel, p, hg, ht, hv, hd⟩ := Lib.laidMet.reads h (n := "internal/strconv.uint64pow10") (d := Rows.laid_internal_strconv_uint64pow10) (.tail _ (.tail _ (.head _)))
  have hg1 : Tryz.prog.globalNamed "internal/strconv.uint64pow10" = some 1 := by kernel_rfl
  obtain rfl := Option.some.inj (hg1.symm.trans hg)
  have ht1 : (Tryz.prog.globals[1]?).map (·.type) = some 172 := by kernel_rfl
  obtain rfl := Option.some.inj (ht1.symm.trans ht)
  have hz : (Rows.laid_internal_strconv_uint64pow10 : DataW Unit) = Lib.tabData .u64 Lib.pow10Tab := by rfl
  rw [hz] at hd
  unfold Lib.TabIs
  rw [hv, ← Lib.cells_of_tab under_tab (by kernel_rfl : Tryz.prog.underlying 146 = some (.int .u64)) (by kernel_rfl) (by kernel_rfl) hd]
set_option maxRecDepth 100000 in
theorem lifted (os : Os) (started : os.Started) (H : Type) (enc : TypeId × Value → H) (F : Stop.Interp) :
    ReturnsInHanded {} Tryz.checked os 3 .any ((OpenSpec.ofChange Rows.fnExactNotePutSpec).preRow enc Tryz.prog Tryz.f3 Rows.fnExactNotePutRow.domain false Rows.fnExactNotePutRow.laid) (((OpenSpec.ofChange Rows.fnExactNotePutSpec).at F).post enc Tryz.prog Tryz.f3 false true false false) := by
  refine returnsInHanded_of_row (C := Tryz.checked) (s := OpenSpec.ofChange Rows.fnExactNotePutSpec) own started (by kernel_rfl) Tryz.func3
    (ChangeSpec.witness_shaped (enc := enc) (C := Tryz.checked) (os := os) (s := Rows.fnExactNotePutSpec) (X := fun w _ => laidMetH Tryz.prog Rows.fnExactNotePutRow.laid w) false (World.laidAll Tryz.prog os Rows.fnExactNotePutRow.laid)
      #[.agg #[.int .i64 0, .int .i64 0, .string ⟨#[]⟩, .string ⟨#[]⟩, .int .i64 0, .string ⟨#[]⟩, .string ⟨#[]⟩, .slice none 0 0, .slice none 0 0]] 8 (World.laidAll_os _ _ _)
      (World.shaped_of_ZipB (by kernel_rfl) (by kernel_rfl)) (by kernel_rfl) (by kernel_rfl) (by kernel_rfl)
      (by rw [MakeChecks.laidMetH_plain _ _ _ (by kernel_rfl)]; exact laidMet_laidAll _ (by kernel_rfl) (by kernel_rfl))) ?_
  intro W base args ds gs before hval0 hW _ _ _ hL hS _
  have hval : ∀ (j : Nat) t v, Tryz.f3.params[j]? = some t → args[j]? = some v → Value.okWide Tryz.prog W .any base t v := hval0
  have hW' := hW
  obtain ⟨p, q, hA0, hV0, rfl, _, _⟩ := hW
  have hA : DataW.TrodAll enc Tryz.prog W 0 (fun _ => true) true Tryz.f3.params.toList args.toList ds p := hA0
  rw [Tryz.params3] at hA hval
  obtain ⟨v0, d0, rfl, rfl, h0⟩ := trodAll_one hA
  obtain ⟨rfl, rfl⟩ := trodVars_none hV0
  simp only [List.append_nil] at hW'
  have hlt : ∀ x ∈ p, x.block < W.heap.size := fun x hx => by simpa using hW'.lt x hx
  obtain ⟨kind, id, au, ad, now, u, dm, A7, n7, l7, A8, n8, l8, rfl, r7, s7, r8, s8, hH⟩ := open_note (hval 0 29 v0 rfl rfl) h0
  clear hA0 hV0 hval0
  obtain ⟨k, hk⟩ := (put_true kind id au ad now u dm l7 l8 hH).rounds
  refine (laws_FnExactNotePut.calls k kind id au ad now u dm A7 n7 l7 A8 n8 l8 true W (laid_of hL hS) r7 s7 r8 s8 hk).mono fun e W' ⟨he, bel⟩ => ?_
  subst he
  exact ⟨_, rfl, _, _, _, [], p, [], hW', trodAll_mk1 (shut_bool Tryz.underlying4 _), trodAll_mk1 (Below.trod lies (by kernel_rfl) (of_decide_eq_true (by kernel_rfl)) h0 bel hlt), rfl, bel.frame _, fun h => by cases h⟩
theorem row_holds : Rows.FnExactNotePutSaid :=
  OpenClaim.holds_of_cond 3 Tryz.f3 rfl rfl rfl rfl rfl rfl rfl ⟨rfl, rfl, rfl, rfl, rfl⟩ rfl rfl rfl rfl rfl (by kernel_rfl) Tryz.func3 (by kernel_rfl)
    (of_decide_eq_true (by kernel_rfl)) (by unfold Func.isWrapper; rw [if_neg (of_decide_eq_false (by kernel_rfl))]; exact ⟨rfl, rfl⟩)
    (fun os started H enc _ F => by rw [OpenClaim.pre_eq_preRow]; exact lifted os started H enc F)
theorem card_holds : Rows.FnExactNotePutCardSaid :=
  Claim7.holds_tied_plain_at .later [] [.data, .data, .data, .data, .pinned] true (true, "7a9d3659d3f520a9de6c05b6af5fcd28b7dff4b50647289148529cd8e18a8a3a") true
    row_holds (fun _ h => by cases h) (by kernel_rfl) (fun _ h => by cases h) fnExactNotePut_row_tie rfl ⟨rfl, rfl⟩ (by kernel_rfl) rfl
    (fun f fn hf hfn => by
      obtain rfl : f = 3 := Option.some.inj ((show Tryz.prog.funcNamed "loop.example/satchel/laws.FnExactNotePut" = some 3 by kernel_rfl).symm.trans hf) |>.symm
      obtain rfl : fn = Tryz.f3 := (Option.some.inj (Tryz.func3.symm.trans hfn)).symm
      exact ⟨by kernel_rfl, fun j t ht => by
        rw [Tryz.params3] at ht
        have hm : t ∈ [29] := by simpa using Array.mem_of_getElem? ht
        have hall : ([29].all fun u => !Tryz.prog.wantsStandIn u) = true := by kernel_rfl
        exact (show Tryz.prog.wantsStandIn t = false by simpa using List.all_eq_true.1 hall t hm)⟩)
    (by kernel_rfl)
end Go.Proofs.YtbncnjgflhoneaaGreatDoor.PutRow
namespace Go.Proofs.YtbncnjgflhoneaaGreatDoor
theorem fnExactNotePut_card : Rows.FnExactNotePutCardSaid := PutRow.card_holds
end Go.Proofs.YtbncnjgflhoneaaGreatDoor
