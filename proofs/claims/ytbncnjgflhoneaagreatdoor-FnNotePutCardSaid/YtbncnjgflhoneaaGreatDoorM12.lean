/- Of this claim, merged by program: QD2, F84, F102, F58, Q2, F56. -/
import Derived.Test.YtbncnjgflhoneaaGreatDoorM02
import Derived.Test.YtbncnjgflhoneaaGreatDoorM03
import Derived.Test.YtbncnjgflhoneaaGreatDoorM05
import Derived.Test.YtbncnjgflhoneaaGreatDoorM11
namespace Go.Proofs.YtbncnjgflhoneaaGreatDoor.Hand
open Go.RowKit Go.Proofs.YtbncnjgflhoneaaGreatDoor.F Go.Proofs.YtbncnjgflhoneaaGreatDoorW.PrintWords Go.Proofs.YtbncnjgflhoneaaGreatDoorW.PrintLast Go.Proofs.YtbncnjgflhoneaaGreatDoorW.PrintMore
structure OkI (x : S117) : Prop where
 a : Sa x.f1
 t1 : 1 ≤ x.f2.length
 t4 : x.f2.length ≤ 4
 ts : ∀ r ∈ x.f2, Sa r.f0 ∧ 0 ≤ r.f1 ∧ r.f1 ≤ 3
 body : Few x.f3
def OkS (l : List S117) : Prop := l.length ≤ 10 ∧ ∀ x ∈ l, OkI x
theorem rd117_at (l : List S117) (i : Nat) (h : i < l.length) : rd_T117 l (i : Int) = l[i] := by
 unfold rd_T117
 rw [Int.toNat_natCast, List.getD_eq_getElem?_getD, List.getElem?_eq_getElem h]
 rfl
theorem rd143_at (l : List S143) (i : Nat) (h : i < l.length) : rd_T143 l (i : Int) = l[i] := by
 unfold rd_T143
 rw [Int.toNat_natCast, List.getD_eq_getElem?_getD, List.getElem?_eq_getElem h]
 rfl
theorem copyItem_tells (x : S117) (h : OkI x) : spec_l5CopyItem.f x.f0 x.f1.f0 x.f1.f1 x.f2 x.f3 = some (x.f0, x.f1.f0, x.f1.f1, x.f2, x.f3) := by
 have h4 := h.t4
 have h9 := h.body.1
 unfold spec_l5CopyItem.f
 rw [Option.bind_some, if_pos (by simp; omega), Option.bind_some, if_pos (by simp; omega), List.nil_append, List.nil_append]
theorem room_tells (a : Int) (l : List S117) : spec_l5Room.f a l = some (decide ((l.length : Int) < 10) && decide (a < 999)) := by
 unfold spec_l5Room.f
 by_cases h : (l.length : Int) < 10
 ·rw [if_pos h, decide_eq_true h, Bool.true_and]
 ·rw [if_neg h, decide_eq_false h, Bool.false_and]
def rcpt (now : Int) (a : S32) : S143 := ⟨⟨a.f0, a.f1⟩, 0, now⟩
theorem add_from (a : Int) (l : List S117) (hl : l.length ≤ 10) (u d : ByteArray) (ts : List S32) (ht : ts.length ≤ 4) (body : List ByteArray) (now a' : Int) : ∀ (e i : Nat), ts.length = i + e →
  Ev (fun k => spec_l5Add.l0 k now (i : Int) a l u d ts body a' u d ((ts.take i).map (rcpt now)) body) (wrap64 (a + 1), l ++ [⟨a', ⟨u, d⟩, ts.map (rcpt now), body⟩])
 | 0, i, hi => by
  obtain rfl : i = ts.length := by omega
  refine Ev.step (f := fun _ => some (wrap64 (a + 1), l ++ [⟨a', ⟨u, d⟩, ts.map (rcpt now), body⟩])) (fun k => ?_) (Ev.now _)
  rw [spec_l5Add.l0, if_neg (by omega), Option.bind_some, if_pos (by simp; omega), Option.bind_some, Option.bind_some, if_pos (by simp; omega), List.nil_append, List.take_length]
 | e + 1, i, hi => by
  have hlt : i < ts.length := by omega
  have h := add_from a l hl u d ts ht body now a' e (i + 1) (by omega)
  have w : wrap64 ((i : Int) + 1) = ((i + 1 : Nat) : Int) := by unfold wrap64; omega
  rw [List.take_succ_eq_append_getElem hlt, List.map_append] at h
  refine Ev.step (fun k => ?_) h
  rw [spec_l5Add.l0, if_pos (by omega), if_pos (by omega), Option.bind_some, if_pos (by simp; omega), w, rd_T32_mem _ _ hlt]
  rfl
theorem add_ev (a : Int) (l : List S117) (hl : OkS l) (h9 : l.length < 10) {u d : ByteArray} {ts : List S32} {body : List ByteArray} (hm : Mailed u d ts body) (now : Int) : ∃ a' l', Ev (fun k => spec_l5Add.f k a l u d ts body now) (a', l') ∧ OkS l' := by
 have hb := hm.body.1
 refine ⟨_, _, Ev.congr (fun k => ?_) (add_from a l hl.1 u d ts hm.t4 body now (wrap64 (a + 1)) ts.length 0 (by omega)), ?_, fun x hx => ?_⟩
 ·unfold spec_l5Add.f
  rw [Option.bind_some, if_pos (by simp; omega), List.nil_append]
  rfl
 ·rw [List.length_append, List.length_singleton]; omega
 ·rcases List.mem_append.1 hx with hx | hx
  ·exact hl.2 x hx
  ·rw [List.mem_singleton.1 hx]
   refine ⟨⟨hm.u, hm.d⟩, by rw [List.length_map]; exact hm.t1, by rw [List.length_map]; exact hm.t4, fun r hr => ?_, hm.body⟩
   obtain ⟨y, hy, rfl⟩ := List.mem_map.1 hr
   exact ⟨hm.ts y hy, by show (0 : Int) ≤ 0; omega, by show (0 : Int) ≤ 3; omega⟩
theorem done_tells (a : Int) (l : List S117) (hl : OkS l) (at_ k : Nat) (h1 : at_ < l.length) (h2 : k < l[at_].f2.length) : ∃ l', spec_l5Done.f a l (at_ : Int) (k : Int) = some (a, l') ∧ OkS l' := by
 have hx := hl.2 _ (List.getElem_mem h1)
 have h4 := hx.t4
 have h10 := hl.1
 have w1 : wrap64 ((k : Int) + 1) = ((k + 1 : Nat) : Int) := by unfold wrap64; omega
 have w2 : wrap64 ((at_ : Int) + 1) = ((at_ + 1 : Nat) : Int) := by unfold wrap64; omega
 obtain ⟨ts, hts⟩ : ∃ ts, ts = l[at_].f2.take k ++ l[at_].f2.drop (k + 1) := ⟨_, rfl⟩
 have tl : ts.length = l[at_].f2.length - 1 := by rw [hts, List.length_append, List.length_take, List.length_drop]; omega
 have tm : ∀ r ∈ ts, Sa r.f0 ∧ 0 ≤ r.f1 ∧ r.f1 ≤ 3 := fun r hr => by
  rw [hts] at hr
  rcases List.mem_append.1 hr with hr | hr
  ·exact hx.ts r (List.mem_of_mem_take hr)
  ·exact hx.ts r (List.mem_of_mem_drop hr)
 have lt : (l.take at_).length = at_ := by rw [List.length_take]; omega
 have ld : (l.drop (at_ + 1)).length = l.length - (at_ + 1) := List.length_drop
 unfold spec_l5Done.f
 rw [if_pos (by omega), if_pos (by omega), rd117_at l at_ h1, copyItem_tells _ hx]
 simp only [Option.bind_some, List.nil_append, Int.toNat_natCast, w1, w2, List.length_nil]
 rw [if_pos (by omega), if_pos (by omega), if_pos (by rw [List.length_take]; omega), if_pos (by omega), if_pos (by omega), if_pos (by rw [List.length_take, List.length_drop]; omega), if_pos (by omega), if_pos (by omega), ← hts]
 by_cases z : (ts.length : Int) > 0
 ·rw [if_pos z, if_pos (by omega), if_pos (by omega), if_pos (by omega), if_pos (by rw [List.length_append, List.length_singleton]; omega)]
  refine ⟨_, rfl, by rw [List.length_append, List.length_append, List.length_singleton]; omega, fun x hm => ?_⟩
  rcases List.mem_append.1 hm with hm | hm
  ·rcases List.mem_append.1 hm with hm | hm
   ·exact hl.2 x (List.mem_of_mem_take hm)
   ·rw [List.mem_singleton.1 hm]
    exact ⟨hx.a, by show 1 ≤ ts.length; omega, by show ts.length ≤ 4; omega, tm, hx.body⟩
  ·exact hl.2 x (List.mem_of_mem_drop hm)
 ·rw [if_neg z, if_pos (by omega), if_pos (by omega), if_pos (by omega)]
  refine ⟨_, rfl, by rw [List.length_append]; omega, fun x hm => ?_⟩
  rcases List.mem_append.1 hm with hm | hm
  ·exact hl.2 x (List.mem_of_mem_take hm)
  ·exact hl.2 x (List.mem_of_mem_drop hm)
theorem pause_from : ∀ (e i : Nat) (n t : Int), t ≤ 100 → 1 ≤ i → i + e ≤ 1000 → t ≤ i + e → ∃ v, Ev (fun k => spec_l5Pause.l0 k t n (i : Int)) v
 | 0, i, n, t, ht, h1, h2, h3 => ⟨n, Ev.step (f := fun _ => some n) (fun k => by rw [spec_l5Pause.l0, if_neg (by omega)]) (Ev.now _)⟩
 | e + 1, i, n, t, ht, h1, h2, h3 => by
  have w : wrap64 ((i : Int) + 1) = ((i + 1 : Nat) : Int) := by unfold wrap64; omega
  by_cases c : (i : Int) < t
  ·obtain ⟨v, hv⟩ := pause_from e (i + 1) (wrap64 (n * 2)) t ht (by omega) (by omega) (by omega)
   exact ⟨v, Ev.step (fun k => by rw [spec_l5Pause.l0, if_pos c, w]) hv⟩
  ·exact ⟨n, Ev.step (f := fun _ => some n) (fun k => by rw [spec_l5Pause.l0, if_neg c]) (Ev.now _)⟩
theorem later_ev (a : Int) (l : List S117) (hl : OkS l) (at_ k now : Nat) (h1 : at_ < l.length) (h2 : k < l[at_].f2.length) : ∃ a' l' b, Ev (fun n => spec_l5Later.f n a l (at_ : Int) (k : Int) (now : Int)) (a', l', b) ∧ OkS l' := by
 have hx := hl.2 _ (List.getElem_mem h1)
 have h4 := hx.t4
 have h10 := hl.1
 have hr := hx.ts _ (List.getElem_mem h2)
 have w1 : wrap64 (l[at_].f2[k].f1 + 1) = l[at_].f2[k].f1 + 1 := by unfold wrap64; omega
 obtain ⟨v, K, hv⟩ := pause_from 10 1 2 (l[at_].f2[k].f1 + 1) (by omega) (by omega) (by omega) (by omega)
 have hp : ∀ n, K ≤ n → spec_l5Pause.f n (l[at_].f2[k].f1 + 1) = some v := hv
 have e : ∀ n, K ≤ n → spec_l5Later.f n a l (at_ : Int) (k : Int) (now : Int) = if l[at_].f2[k].f1 + 1 ≥ 4 then some (a, l, false) else if wrap64 ((now : Int) + v) > 9999 then some (a, l, false) else some (a, l.set at_ ⟨l[at_].f0, ⟨l[at_].f1.f0, l[at_].f1.f1⟩, (l[at_].f2.set k ⟨⟨l[at_].f2[k].f0.f0, l[at_].f2[k].f0.f1⟩, l[at_].f2[k].f1 + 1, l[at_].f2[k].f2⟩).set k ⟨⟨l[at_].f2[k].f0.f0, l[at_].f2[k].f0.f1⟩, l[at_].f2[k].f1 + 1, wrap64 ((now : Int) + v)⟩, l[at_].f3⟩, true) := by
  intro n hn
  unfold spec_l5Later.f
  have g := rd143_at (l[at_].f2.set k ⟨⟨l[at_].f2[k].f0.f0, l[at_].f2[k].f0.f1⟩, l[at_].f2[k].f1 + 1, l[at_].f2[k].f2⟩) k (by rw [List.length_set]; exact h2)
  simp only [rd117_at l at_ h1, copyItem_tells _ hx, Option.bind_some, rd143_at _ k h2, w1, hp n hn, List.nil_append, Int.toNat_natCast, g, List.getElem_set_self]
  rw [if_pos (by omega), if_pos (by omega), if_pos (by omega), if_pos (by omega)]
  by_cases c1 : l[at_].f2[k].f1 + 1 ≥ 4
  ·rw [if_pos c1, if_pos c1]
  rw [if_neg c1, if_neg c1]
  by_cases c2 : wrap64 ((now : Int) + v) > 9999
  ·rw [if_pos c2, if_pos c2]
  rw [if_neg c2, if_neg c2, if_pos (by simp; omega), if_pos (by omega)]
 by_cases c1 : l[at_].f2[k].f1 + 1 ≥ 4
 ·exact ⟨a, l, false, Ev.exact K fun n hn => by rw [e n hn, if_pos c1], hl⟩
 by_cases c2 : wrap64 ((now : Int) + v) > 9999
 ·exact ⟨a, l, false, Ev.exact K fun n hn => by rw [e n hn, if_neg c1, if_pos c2], hl⟩
 refine ⟨_, _, true, Ev.exact K fun n hn => by rw [e n hn, if_neg c1, if_neg c2], by rw [List.length_set]; omega, fun x hm => ?_⟩
 rcases List.mem_or_eq_of_mem_set hm with hm | rfl
 ·exact hl.2 x hm
 ·refine ⟨hx.a, by show 1 ≤ (List.set _ _ _).length; rw [List.length_set, List.length_set]; exact hx.t1, by show (List.set _ _ _).length ≤ 4; rw [List.length_set, List.length_set]; exact h4, fun r hm => ?_, hx.body⟩
  rcases List.mem_or_eq_of_mem_set hm with hm | rfl
  ·rcases List.mem_or_eq_of_mem_set hm with hm | rfl
   ·exact hx.ts r hm
   ·exact ⟨hr.1, by show 0 ≤ l[at_].f2[k].f1 + 1; omega, by show l[at_].f2[k].f1 + 1 ≤ 3; omega⟩
  ·exact ⟨hr.1, by show 0 ≤ l[at_].f2[k].f1 + 1; omega, by show l[at_].f2[k].f1 + 1 ≤ 3; omega⟩
theorem copy_from (a : Int) (l : List S117) (hl : OkS l) (b : Int) : ∀ (e i : Nat), l.length = i + e → Ev (fun k => spec_l5Copy.l0 k (i : Int) b l a (l.take i)) (a, l)
 | 0, i, hi => Ev.step (f := fun _ => some (a, l)) (fun k => by rw [spec_l5Copy.l0, if_neg (by omega), List.take_of_length_le (by omega)]) (Ev.now _)
 | e + 1, i, hi => by
  have hlt : i < l.length := by omega
  have h10 := hl.1
  have w : wrap64 ((i : Int) + 1) = ((i + 1 : Nat) : Int) := by unfold wrap64; omega
  have h := copy_from a l hl b e (i + 1) (by omega)
  rw [List.take_succ_eq_append_getElem hlt] at h
  refine Ev.step (fun k => ?_) h
  rw [spec_l5Copy.l0, if_pos (by omega), if_pos (by omega), rd117_at l i hlt, copyItem_tells _ (hl.2 _ (List.getElem_mem hlt)), Option.bind_some, if_pos (by rw [List.length_take]; omega), w]
theorem copy_ev (a : Int) (l : List S117) (hl : OkS l) : Ev (fun k => spec_l5Copy.f k a l) (a, l) := copy_from a l hl a l.length 0 (by omega)
theorem spool_from {s : List Int} (hs : Byt s) : ∀ (n : Nat) (now : Nat) (a : Int) (l : List S117) (p : Int), OkS l → now + 5 * n ≤ 1000 → 0 ≤ p → p + 40 * n ≤ 500000 → ∃ a' l' q, Ev (fun k => spec_l20Spool.l0 k (now : Int) (n : Int) s p a l) (a', l', q) ∧ OkS l' ∧ p ≤ q ∧ q ≤ p + 40 * n
 | 0, now, a, l, p, hl, hn, h0, h1 => ⟨a, l, p, Ev.step (f := fun k => (spec_l5Copy.f k a l).bind fun t => some (t.1, t.2, p)) (fun k => by rw [spec_l20Spool.l0, if_neg (by omega)]) (Ev.bind (copy_ev a l hl) (Ev.now _)), hl, by omega, by omega⟩
 | n + 1, now, a, l, p, hl, hn, h0, h1 => by
  obtain ⟨t, ht, t0, t1⟩ := pick_ev hs h0 (by omega) (n := 5) (by omega)
  obtain ⟨m, rfl⟩ := Int.eq_ofNat_of_zero_le t0
  have w : wrap64 ((now : Int) + (m : Int)) = ((now + m : Nat) : Int) := by unfold wrap64; omega
  have w2 : wrap64 (((n + 1 : Nat) : Int) - 1) = (n : Int) := by unfold wrap64; omega
  have nxt : ∀ (a : Int) (l : List S117) (p' : Int), OkS l → p ≤ p' → p' ≤ p + 36 → ∃ a' l' q, Ev (fun k => spec_l20Spool.l0 k ((now + m : Nat) : Int) (n : Int) s p' a l) (a', l', q) ∧ OkS l' ∧ p ≤ q ∧ q ≤ p + 40 * ((n + 1 : Nat) : Int) := fun a l p' hl l0 l1 => by
   obtain ⟨a', l', q, h, h2, h3, h4⟩ := spool_from hs n (now + m) a l p' hl (by omega) (by omega) (by omega)
   exact ⟨a', l', q, h, h2, by omega, by omega⟩
  -- it is added
  have add : ∀ p', p ≤ p' → p' ≤ p + 2 → ∃ a' l' q, Ev (fun k => spec_l20Spool.j1 k ((now + m : Nat) : Int) ((n + 1 : Nat) : Int) true s p' a l) (a', l', q) ∧ OkS l' ∧ p ≤ q ∧ q ≤ p + 40 * ((n + 1 : Nat) : Int) := fun p' l0 l1 => by
   by_cases r : (decide ((l.length : Int) < 10) && decide (a < 999)) = true
   ·have r' := r
    rw [Bool.and_eq_true, decide_eq_true_eq] at r'
    obtain ⟨u, d, ts, body, q, hq, hm, q0, q1⟩ := mail_ev hs (p := p') (by omega) (by omega)
    obtain ⟨a1, l1', h1', ok1⟩ := add_ev a l hl (by omega) hm ((now + m : Nat) : Int)
    obtain ⟨a', l', q', h', ok', z0, z1⟩ := nxt a1 l1' q ok1 (by omega) (by omega)
    refine ⟨a', l', q', Ev.step (f := fun k => (spec_l20Mail.f k s p').bind fun x => (spec_l5Add.f k a l x.1 x.2.1 x.2.2.1 x.2.2.2.1 ((now + m : Nat) : Int)).bind fun y => spec_l20Spool.l0 k ((now + m : Nat) : Int) (wrap64 (((n + 1 : Nat) : Int) - 1)) s x.2.2.2.2 y.1 y.2) (fun k => by rw [spec_l20Spool.j1, if_pos rfl, room_tells, Option.bind_some, if_pos r]) (Ev.bind hq (Ev.bind h1' ?_)), ok', z0, z1⟩
    rw [w2]
    exact h'
   ·obtain ⟨a', l', q', h', ok', z0, z1⟩ := nxt a l p' hl (by omega) (by omega)
    refine ⟨a', l', q', Ev.step (f := fun k => spec_l20Spool.l0 k ((now + m : Nat) : Int) (wrap64 (((n + 1 : Nat) : Int) - 1)) s p' a l) (fun k => by rw [spec_l20Spool.j1, if_pos rfl, room_tells, Option.bind_some, if_neg r]) ?_, ok', z0, z1⟩
    rw [w2]
    exact h'
  have turn : 1 ≤ l.length → ∀ p', p ≤ p' → p' ≤ p + 2 → ∃ a' l' q, Ev (fun k => spec_l20Spool.j1 k ((now + m : Nat) : Int) ((n + 1 : Nat) : Int) false s p' a l) (a', l', q) ∧ OkS l' ∧ p ≤ q ∧ q ≤ p + 40 * ((n + 1 : Nat) : Int) := fun hne p' l0 l1 => by
   obtain ⟨x, hx, x0, x1⟩ := pick_ev hs (p := p') (by omega) (by omega) (n := (l.length : Int)) (by omega)
   obtain ⟨i, rfl⟩ := Int.eq_ofNat_of_zero_le x0
   have hi : i < l.length := by omega
   have hI := hl.2 _ (List.getElem_mem hi)
   have ht1 := hI.t1
   obtain ⟨y, hy, y0, y1⟩ := pick_ev hs (p := p' + 1) (by omega) (by omega) (n := (l[i].f2.length : Int)) (by omega)
   obtain ⟨j, rfl⟩ := Int.eq_ofNat_of_zero_le y0
   obtain ⟨z, hz, z0, z1⟩ := pick_ev hs (p := p' + 1 + 1) (by omega) (by omega) (n := 2) (by omega)
   by_cases c : z = 0
   ·obtain ⟨l1', h1', ok1⟩ := done_tells a l hl i j hi (by omega)
    obtain ⟨a', l', q', h', ok', e0, e1⟩ := nxt a l1' (p' + 1 + 1 + 1) ok1 (by omega) (by omega)
    refine ⟨a', l', q', Ev.step (f := fun k => (spec_l20Rd_pick.f k s p' (l.length : Int)).bind fun x => if 0 ≤ x.1 then (if x.1 < (l.length : Int) then (spec_l20Rd_pick.f k s x.2 (((rd_T117 l x.1).f2).length : Int)).bind fun y => (spec_l20Rd_pick.f k s y.2 2).bind fun z => if z.1 = 0 then (spec_l5Done.f a l x.1 y.1).bind fun t => spec_l20Spool.l0 k ((now + m : Nat) : Int) (wrap64 (((n + 1 : Nat) : Int) - 1)) s z.2 t.1 t.2 else (spec_l5Later.f k a l x.1 y.1 ((now + m : Nat) : Int)).bind fun t => spec_l20Spool.l0 k ((now + m : Nat) : Int) (wrap64 (((n + 1 : Nat) : Int) - 1)) s z.2 t.1 t.2.1 else none) else none) (fun k => by rw [spec_l20Spool.j1, if_neg (by decide)]) ?_, ok', e0, e1⟩
    refine Ev.bind hx (Ev.congr (f := fun k => (spec_l20Rd_pick.f k s (p' + 1) (l[i].f2.length : Int)).bind fun y => (spec_l20Rd_pick.f k s y.2 2).bind fun z => if z.1 = 0 then (spec_l5Done.f a l (i : Int) y.1).bind fun t => spec_l20Spool.l0 k ((now + m : Nat) : Int) (wrap64 (((n + 1 : Nat) : Int) - 1)) s z.2 t.1 t.2 else (spec_l5Later.f k a l (i : Int) y.1 ((now + m : Nat) : Int)).bind fun t => spec_l20Spool.l0 k ((now + m : Nat) : Int) (wrap64 (((n + 1 : Nat) : Int) - 1)) s z.2 t.1 t.2.1) (fun k => by dsimp only; rw [if_pos (by omega), if_pos (by omega), rd117_at l i hi]) ?_)
    refine Ev.bind hy (Ev.bind hz (Ev.congr (fun k => ?_) h'))
    dsimp only
    rw [if_pos c, h1', Option.bind_some, w2]
   ·obtain ⟨a1, l1', b1, h1', ok1⟩ := later_ev a l hl i j (now + m) hi (by omega)
    obtain ⟨a', l', q', h', ok', e0, e1⟩ := nxt a1 l1' (p' + 1 + 1 + 1) ok1 (by omega) (by omega)
    refine ⟨a', l', q', Ev.step (f := fun k => (spec_l20Rd_pick.f k s p' (l.length : Int)).bind fun x => if 0 ≤ x.1 then (if x.1 < (l.length : Int) then (spec_l20Rd_pick.f k s x.2 (((rd_T117 l x.1).f2).length : Int)).bind fun y => (spec_l20Rd_pick.f k s y.2 2).bind fun z => if z.1 = 0 then (spec_l5Done.f a l x.1 y.1).bind fun t => spec_l20Spool.l0 k ((now + m : Nat) : Int) (wrap64 (((n + 1 : Nat) : Int) - 1)) s z.2 t.1 t.2 else (spec_l5Later.f k a l x.1 y.1 ((now + m : Nat) : Int)).bind fun t => spec_l20Spool.l0 k ((now + m : Nat) : Int) (wrap64 (((n + 1 : Nat) : Int) - 1)) s z.2 t.1 t.2.1 else none) else none) (fun k => by rw [spec_l20Spool.j1, if_neg (by decide)]) ?_, ok', e0, e1⟩
    refine Ev.bind hx (Ev.congr (f := fun k => (spec_l20Rd_pick.f k s (p' + 1) (l[i].f2.length : Int)).bind fun y => (spec_l20Rd_pick.f k s y.2 2).bind fun z => if z.1 = 0 then (spec_l5Done.f a l (i : Int) y.1).bind fun t => spec_l20Spool.l0 k ((now + m : Nat) : Int) (wrap64 (((n + 1 : Nat) : Int) - 1)) s z.2 t.1 t.2 else (spec_l5Later.f k a l (i : Int) y.1 ((now + m : Nat) : Int)).bind fun t => spec_l20Spool.l0 k ((now + m : Nat) : Int) (wrap64 (((n + 1 : Nat) : Int) - 1)) s z.2 t.1 t.2.1) (fun k => by dsimp only; rw [if_pos (by omega), if_pos (by omega), rd117_at l i hi]) ?_)
    refine Ev.bind hy (Ev.bind hz (Ev.congr (f := fun k => (spec_l5Later.f k a l (i : Int) (j : Int) ((now + m : Nat) : Int)).bind fun t => spec_l20Spool.l0 k ((now + m : Nat) : Int) (n : Int) s (p' + 1 + 1 + 1) t.1 t.2.1) (fun k => ?_) (Ev.bind h1' h')))
    dsimp only
    rw [if_neg c, w2]
  by_cases e : (l.length : Int) = 0
  ·obtain ⟨a', l', q', h', ok', z0, z1⟩ := add (p + 1) (by omega) (by omega)
   exact ⟨a', l', q', Ev.step (f := fun k => (spec_l20Rd_pick.f k s p 5).bind fun x => spec_l20Spool.j1 k (wrap64 ((now : Int) + x.1)) ((n + 1 : Nat) : Int) true s x.2 a l) (fun k => by rw [spec_l20Spool.l0, if_pos (by omega)]; simp only [if_pos e]) (Ev.bind ht (Ev.congr (fun k => by dsimp only; rw [w]) h')), ok', z0, z1⟩
  ·obtain ⟨v, hv, v0, v1⟩ := pick_ev hs (p := p + 1) (by omega) (by omega) (n := 2) (by omega)
   have h' : ∃ a' l' q, Ev (fun k => spec_l20Spool.j1 k ((now + m : Nat) : Int) ((n + 1 : Nat) : Int) (v == 0) s (p + 1 + 1) a l) (a', l', q) ∧ OkS l' ∧ p ≤ q ∧ q ≤ p + 40 * ((n + 1 : Nat) : Int) := by
    by_cases c : v = 0
    ·rw [beq_iff_eq.2 c]; exact add (p + 1 + 1) (by omega) (by omega)
    ·rw [beq_eq_false_iff_ne.2 c]; exact turn (by omega) (p + 1 + 1) (by omega) (by omega)
   obtain ⟨a', l', q', h', ok', z0, z1⟩ := h'
   exact ⟨a', l', q', Ev.step (f := fun k => (spec_l20Rd_pick.f k s p 5).bind fun x => (spec_l20Rd_pick.f k s x.2 2).bind fun y => spec_l20Spool.j1 k (wrap64 ((now : Int) + x.1)) ((n + 1 : Nat) : Int) (y.1 == 0) s y.2 a l) (fun k => by rw [spec_l20Spool.l0, if_pos (by omega)]; simp only [if_neg e]) (Ev.bind ht (Ev.bind hv (Ev.congr (fun k => by dsimp only; rw [w]) h'))), ok', z0, z1⟩
theorem spool_ev {s : List Int} (hs : Byt s) : ∃ a l q, Ev (fun k => spec_l20Spool.f k s 0) (a, l, q) ∧ OkS l ∧ 0 ≤ q ∧ q ≤ 400 := by
 obtain ⟨v, hv, v0, v1⟩ := pick_ev hs (p := 0) (by omega) (by omega) (n := 9) (by omega)
 obtain ⟨n, rfl⟩ := Int.eq_ofNat_of_zero_le v0
 obtain ⟨a, l, q, h, ok, q0, q1⟩ := spool_from hs n 0 0 [] (0 + 1) ⟨by simp, fun _ h => by cases h⟩ (by omega) (by omega) (by omega)
 exact ⟨a, l, q, Ev.bind hv h, ok, by omega, by omega⟩
theorem of_spool {s : List Int} (hs : Byt s) {p : Int} (h0 : 0 ≤ p) (h1 : p ≤ 1000) (a : Int) {l : List S117} (hl : OkS l) : ∃ id u d q, Ev (fun k => spec_l20Of.f k s p a l) (id, u, d, q) ∧ Sm u ∧ Sm d ∧ p ≤ q ∧ q ≤ p + 10 := by
 have free : ∀ p', p ≤ p' → p' ≤ p + 1 → ∃ id u d q, Ev (fun k => spec_l20Of.j k true s p' l) (id, u, d, q) ∧ Sm u ∧ Sm d ∧ p ≤ q ∧ q ≤ p + 10 := fun p' l0 l1 => by
  obtain ⟨x, hx, _⟩ := pick_ev hs (p := p') (by omega) (by omega) (n := 4) (by omega)
  obtain ⟨u, d, hu, su, sd⟩ := addr_ev hs (p := p' + 1) (by omega) (by omega)
  exact ⟨x, u, d, p' + 1 + 2, Ev.congr (fun k => by unfold spec_l20Of.j; rw [if_pos rfl]) (Ev.bind hx (Ev.bind hu (Ev.now (x, u, d, p' + 1 + 2)))), su, sd, by omega, by omega⟩
 unfold spec_l20Of.f
 by_cases e : (l.length : Int) = 0
 ·simp only [if_pos e]
  exact free p (by omega) (by omega)
 ·simp only [if_neg e]
  obtain ⟨v, hv, v0, v1⟩ := pick_ev hs h0 (by omega) (n := 6) (by omega)
  by_cases c : v = 0
  ·obtain ⟨id, u, d, q, h, r⟩ := free (p + 1) (by omega) (by omega)
   exact ⟨id, u, d, q, Ev.bind hv (Ev.congr (fun k => by dsimp only; rw [beq_iff_eq.2 c]) h), r⟩
  ·obtain ⟨x, hx, x0, x1⟩ := pick_ev hs (p := p + 1) (by omega) (by omega) (n := (l.length : Int)) (by omega)
   obtain ⟨i, rfl⟩ := Int.eq_ofNat_of_zero_le x0
   have hi : i < l.length := by omega
   have hI := hl.2 _ (List.getElem_mem hi)
   have ht1 := hI.t1
   obtain ⟨y, hy, y0, y1⟩ := pick_ev hs (p := p + 1 + 1) (by omega) (by omega) (n := (l[i].f2.length : Int)) (by omega)
   obtain ⟨j, rfl⟩ := Int.eq_ofNat_of_zero_le y0
   have hj : j < l[i].f2.length := by omega
   have hr := (hI.ts _ (List.getElem_mem hj)).1
   refine ⟨l[i].f0, l[i].f2[j].f0.f0, l[i].f2[j].f0.f1, p + 1 + 1 + 1, Ev.bind hv (Ev.congr (fun k => by dsimp only; rw [beq_eq_false_iff_ne.2 c]; unfold spec_l20Of.j; rw [if_neg (by decide)]) (Ev.bind hx (Ev.congr (fun k => by dsimp only; rw [if_pos (by omega), if_pos (by omega), rd117_at l i hi, if_neg (by omega)]) (Ev.bind hy (Ev.congr (fun k => by dsimp only; rw [if_pos (by omega), if_pos (by omega), rd143_at _ j hj]) (Ev.now _)))))), hr.1, hr.2, by omega, by omega⟩
end Go.Proofs.YtbncnjgflhoneaaGreatDoor.Hand
namespace Go.Proofs.YtbncnjgflhoneaaGreatDoor.F
open Go.RowKit Go.Proofs.YtbncnjgflhoneaaGreatDoor.Hand Go.Proofs.YtbncnjgflhoneaaGreatDoorW.PrintWords Go.Proofs.YtbncnjgflhoneaaGreatDoorW.PrintLast Go.Proofs.YtbncnjgflhoneaaGreatDoorW.PrintMore
set_option linter.unusedVariables false
set_option linter.unusedSimpArgs false

mutual
def spec_l1Cut.l0 : Nat → ByteArray → Int → Int → List ByteArray → Int → Int → Option (List ByteArray)
 | 0, _, _, _, _, _, _ => none
 | k + 1, x0, x1, x2, x7, x8, x9 => if x9 < (x0.size : Int) then (spec_l1Cut.j1 k x0 x1 x2 x7 x8 x9 (decide ((x7.length : Int) < x2))) else (spec_l1Cut.j1 k x0 x1 x2 x7 x8 x9 false)
def spec_l1Cut.j1 : Nat → ByteArray → Int → Int → List ByteArray → Int → Int → Bool → Option (List ByteArray)
 | 0, _, _, _, _, _, _, _ => none
 | k + 1, x0, x1, x2, x7, x8, x9, x20 => if x20 = true then (if 0 ≤ x9 then (if x9 < (x0.size : Int) then (if (bt x0 x9) = x1 then (if 0 ≤ x8 then (if x8 ≤ x9 then (if x9 ≤ (x0.size : Int) then (if x7.length < 8796093022208 then (spec_l1Cut.l0 k x0 x1 x2 (x7 ++ [x0.extract (x8 : Int).toNat (x9 : Int).toNat]) (wrap64 (x9 + 1)) (wrap64 (x9 + 1))) else (none)) else (none)) else (none)) else (none)) else (spec_l1Cut.l0 k x0 x1 x2 x7 x8 (wrap64 (x9 + 1)))) else (none)) else (none)) else (if 0 ≤ x8 then (if x8 ≤ (x0.size : Int) then (if x7.length < 8796093022208 then (some (x7 ++ [x0.extract (x8 : Int).toNat x0.size])) else (none)) else (none)) else (none))
end
def spec_l1Cut.f (k : Nat) (a0 : ByteArray) (a1 : Int) (a2 : Int) : Option (List ByteArray) := spec_l1Cut.l0 k a0 a1 a2 (([] : List ByteArray)) 0 0
set_option maxHeartbeats 8000000 in
set_option maxRecDepth 100000 in
theorem spec_l1Cut.calls (k : Nat) (a0 : ByteArray) (a1 : Int) (a2 : Int) (r : List ByteArray) (w : World) (h : spec_l1Cut.f k a0 a1 a2 = some r) :
  Calls Tryz.prog 84 #[.string a0, .int .u8 a1, .int .i64 a2] w fun e w' => ∃ v0_ : Value, e = .returned (v0_) ∧ Kd.R Kd.string 9 w' w.heap.size (fun _ => True) v0_ r ∧ Below w.heap.size w w' := by
 have HB := Aside0.mk (Below.refl w.heap.size w)
 have H := h
 clear h
 unfold spec_l1Cut.f at H
 first | (with_reducible replace H := bns H; obtain ⟨y101, Ny101, H⟩ := H) | (generalize hy_ : (([] : List ByteArray) : List ByteArray) = y101 at H; have Ny101 := Aside0.mk hy_.symm; clear hy_)
 have H' := Aside0.mk H
 clear H
 go_enter Tryz.func84, Tryz.ntmps84
 go_wp2_with (first | ((with_reducible refine gate_dst (N := 10) rfl ?_); (try (refine gate_guard (by rfl) ?_; dsimp only)); refine Kd.R_lit Kd.string _ 9 ?hg (N := 10) ?hd (xs := ([] : List ByteArray)) (inner := []) (ok := fun _ => True) (okp := fun _ => True) ?hr ?hp (fun _ hk => hk) trivial (Below.refl _ _) (Nat.le_refl _) (by simp) ?_; (case hd => rfl); (case hg => rfl); (case hr => first | (go_simp; done) | (go_simp; rfl)); (case hp => exact (Reps.none _ _)); intro v102 w4 ho5 hb hg_ hnew_; clear hg_ hnew_; (first | rw [← Ny101.out] at ho5 | (simp only [Int.reduceToNat] at ho5; rw [← Ny101.out] at ho5)); have HO103 := lS ho5; replace HB := bS hb; clear hb ho5))
 go_loopg [7, 8, 9] k (fun kq v7 v8 v9 w' => ∃ (x7_1 : List ByteArray) (x8_1 : Int) (x9_1 : Int), v8 = .int .i64 x8_1 ∧ v9 = .int .i64 x9_1 ∧ Aside0 (spec_l1Cut.l0 kq a0 a1 a2 x7_1 x8_1 x9_1 = some r) ∧ Aside0 (kq ≤ k) ∧ Aside0 (Kd.R Kd.string 9 w' w.heap.size (fun _ => True) v7 x7_1) ∧ Aside0 (Below w.heap.size w w'))
 case atStart => exact ⟨(y101), (0), (0), zs, zs, H', ⟨Nat.le_refl _⟩, ⟨rO HO103⟩, ⟨zB⟩⟩
 case round =>
  clear H'
  obtain ⟨x7_1, x8_1, x9_1, rfl, rfl, HA, HK1, HO_7, HB⟩ := hrel
  cases gk with
  | zero => exact absurd HA.out (by simp [spec_l1Cut.l0])
  | succ k1 =>
   have H := HA.out
   clear HA
   simp only [spec_l1Cut.l0] at H
   have HC6 := Aside0.mk H
   clear H
   go_upto_region 4 with (fail)
   go_cut [20] (fun v20 wc => ∃ (kq : Nat) (x20_5 : Bool), v20 = .bool x20_5 ∧ Aside0 (spec_l1Cut.j1 kq a0 a1 a2 x7_1 x8_1 x9_1 x20_5 = some r) ∧ Aside0 (kq ≤ k1) ∧ Aside0 (Kd.R Kd.string 9 wc w.heap.size (fun _ => True) u7 x7_1) ∧ Aside0 (Below w.heap.size w wc))
   case first =>
    have H := HC6.out
    clear HC6
    replace H := its_d_d H; rcases H with ⟨c7b0, H⟩ | ⟨c7b0, H⟩
    ·(first | rw [c7b0] | (simp only [i64_w, i32_w]; rw [c7b0]) | skip)
     have H' := Aside0.mk H
     clear H
     obtain ⟨Ao8, co8, eo8⟩ := Kd.R_slice HO_7.out
     subst eo8
     go_wp2
     go_meet
     case rel => exact ⟨_, (decide ((x7_1.length : Int) < a2)), zs, H', ⟨by have := HK1.out; first | omega | exact Nat.le_refl _⟩, ⟨rO HO_7⟩, ⟨zB⟩⟩
    ·(first | rw [c7b0] | (simp only [i64_w, i32_w]; rw [c7b0]) | skip)
     have H' := Aside0.mk H
     clear H
     go_wp2
     go_meet
     case rel => exact ⟨_, (false), zs, H', ⟨by have := HK1.out; first | omega | exact Nat.le_refl _⟩, ⟨rO HO_7⟩, ⟨zB⟩⟩
   case rest =>
    clear HC6
    obtain ⟨kq, x20_5, rfl, HA, HJ5, HO_7, HB⟩ := hcut
    cases kq with
    | zero => exact absurd HA.out (by simp [spec_l1Cut.j1])
    | succ kj5 =>
     have H := HA.out
     clear HA
     simp only [spec_l1Cut.j1] at H
     replace H := itb H; rcases H with ⟨rfl, H⟩ | ⟨rfl, H⟩
     ·replace H := itn_d H; obtain ⟨c10b0, H⟩ := H
      replace H := itn_d H; obtain ⟨c11b0, H⟩ := H
      replace H := its_qn_qn H; rcases H with ⟨c13b0, c13b1, H⟩ | ⟨c13b0, c13b1, H⟩
      ·replace H := itn_ed H; obtain ⟨c14b0, c14b1, H⟩ := H
       replace H := itn_ed H; obtain ⟨c15b0, c15b1, H⟩ := H
       replace H := itn_ed H; obtain ⟨c16b0, c16b1, H⟩ := H
       replace H := itn_L H; obtain ⟨LMc17, H⟩ := H
       first | (with_reducible replace H := bns H; obtain ⟨y104, Ny104, H⟩ := H) | (generalize hy_ : (x7_1 ++ [a0.extract (x8_1 : Int).toNat (x9_1 : Int).toNat] : List ByteArray) = y104 at H; have Ny104 := Aside0.mk hy_.symm; clear hy_)
       have H' := Aside0.mk H
       clear H
       have p12 : 0 ≤ (x9_1 : Int) := of_decide_eq_true za
       have q12 : x9_1 < (a0.size : Int) := of_decide_eq_true za
       have hx12 := bt_at a0 x9_1
       replace p12 := eq_true p12
       replace q12 := eq_true q12
       go_wp2_with (first | ((with_reducible refine gate_builtin (b := .append) (xs := #[.tmp 28, .tmp 33]) rfl ?_); (try (refine gate_guard (by rfl) ?_; dsimp only)); at_builtin; refine Kd.R_append Kd.string (w0 := w) w.heap.size rfl (.tmp 28) (.tmp 33) 25 9 (.string ⟨#[]⟩) 16 rfl Tryz.underlying25 info9 rfl z0_ (by omega) u7 x7_1 (a0.extract (x8_1 : Int).toNat (x9_1 : Int).toNat) [.string (a0.extract (x8_1 : Int).toNat (x9_1 : Int).toNat)] (fun _ => True) (fun _ => False) rfl rfl ?aP (fun _ hk => hk.elim) ?aF ?aO ?aB ?aS ?aL ?_; (case aP => exact rfl); (case aB => exact zB); (case aF => exact (fun _ _ => trivial)); (case aO => exact (rO HO_7)); (case aS => exact (bZ)); (case aL => have := LMc17.out; omega); intro v105 w18 ho hb hg hat; rw [← Ny104.out] at ho; have n0_ := Aside0.mk (hb); have n1_ := Aside0.mk (ho); clear HB HO_7; have HB := n0_; have HO106 := n1_; clear n0_ n1_ ho hb hg hat))
       go_roundg kj5
       case measure => have := HK1.out; have := HJ5.out; omega
       case rel => exact ⟨(y104), (wrap64 (x9_1 + 1)), (wrap64 (x9_1 + 1)), zs, zs, H', ⟨by have := HK1.out; have := HJ5.out; omega⟩, ⟨rO HO106⟩, ⟨zB⟩⟩
      ·have H' := Aside0.mk H
       clear H
       have p12 : 0 ≤ (x9_1 : Int) := of_decide_eq_true za
       have q12 : x9_1 < (a0.size : Int) := of_decide_eq_true za
       have hx12 := bt_at a0 x9_1
       replace p12 := eq_true p12
       replace q12 := eq_true q12
       go_wp2
       go_roundg kj5
       case measure => have := HK1.out; have := HJ5.out; omega
       case rel => exact ⟨(x7_1), (x8_1), (wrap64 (x9_1 + 1)), zs, zs, H', ⟨by have := HK1.out; have := HJ5.out; omega⟩, ⟨rO HO_7⟩, ⟨zB⟩⟩
     ·replace H := itn_ed H; obtain ⟨c19b0, c19b1, H⟩ := H
      replace H := itn_ed H; obtain ⟨c20b0, c20b1, H⟩ := H
      replace H := itn_L H; obtain ⟨LMc21, H⟩ := H
      first | (with_reducible replace H := bns H; obtain ⟨y107, Ny107, H⟩ := H) | (generalize hy_ : (x7_1 ++ [a0.extract (x8_1 : Int).toNat a0.size] : List ByteArray) = y107 at H; have Ny107 := Aside0.mk hy_.symm; clear hy_)
      obtain rfl := Option.some.inj H
      go_wp2_with (first | ((with_reducible refine gate_builtin (b := .append) (xs := #[.tmp 37, .tmp 41]) rfl ?_); (try (refine gate_guard (by rfl) ?_; dsimp only)); at_builtin; refine Kd.R_append Kd.string (w0 := w) w.heap.size rfl (.tmp 37) (.tmp 41) 25 9 (.string ⟨#[]⟩) 16 rfl Tryz.underlying25 info9 rfl z0_ (by omega) u7 x7_1 (a0.extract (x8_1 : Int).toNat a0.size) [.string (a0.extract (x8_1 : Int).toNat a0.size)] (fun _ => True) (fun _ => False) rfl rfl ?aP (fun _ hk => hk.elim) ?aF ?aO ?aB ?aS ?aL ?_; (case aP => exact rfl); (case aB => exact zB); (case aF => exact (fun _ _ => trivial)); (case aO => exact (rO HO_7)); (case aS => exact (bZ)); (case aL => have := LMc21.out; omega); intro v108 w22 ho hb hg hat; rw [← Ny107.out] at ho; have n0_ := Aside0.mk (hb); have n1_ := Aside0.mk (ho); clear HB HO_7; have HB := n0_; have HO109 := n1_; clear n0_ n1_ ho hb hg hat))
      go_ret
      exact ⟨_, zr, rO HO109, zB⟩
def spec_l1Domain.l0 : Nat → List ByteArray → Int → Option (Bool)
 | 0, _, _ => none
 | k + 1, x3, x4 => if x4 < (x3.length : Int) then (if 0 ≤ x4 then ((spec_l1Word.f k (rdOf ByteArray.empty x3 x4)).bind fun t105 => (if t105 = true then (spec_l1Domain.l0 k x3 (wrap64 (x4 + 1))) else (some false))) else (none)) else (some (decide ((x3.length : Int) ≤ 3)))
def spec_l1Domain.f (k : Nat) (a0 : ByteArray) : Option (Bool) := (spec_l1Cut.f k a0 46 3).bind fun t101 => (spec_l1Domain.l0 k t101 0)
set_option maxHeartbeats 8000000 in
set_option maxRecDepth 100000 in
theorem spec_l1Domain.calls (k : Nat) (a0 : ByteArray) (r : Bool) (w : World) (h : spec_l1Domain.f k a0 = some r) :
  Calls Tryz.prog 102 #[.string a0] w fun e w' => e = .returned (.bool r) ∧ Below w.heap.size w w' := by
 have HB := Aside0.mk (Below.refl w.heap.size w)
 have H := h
 clear h
 unfold spec_l1Domain.f at H
 replace H := bnd H; obtain ⟨t101, A2, H⟩ := H
 have H' := Aside0.mk H
 clear H
 go_enter Tryz.func102, Tryz.ntmps102
 go_wp2_with (first | ((with_reducible refine gate_callee (f := 84) rfl ?_); refine gl 6 Tryz.func84 _ ((spec_l1Cut.calls (w := _) (h := A2.out)).mono ?_); rintro e w3 ⟨v102, rfl, ho0, hb⟩; refine ⟨_, rfl, ?_⟩; have HO103 := lS ho0; replace HB := bS hb; clear hb ho0))
 go_loopg [4] k (fun kq v4 w' => ∃ (x4_1 : Int), v4 = .int .i64 x4_1 ∧ Aside0 (spec_l1Domain.l0 kq t101 x4_1 = some r) ∧ Aside0 (kq ≤ k) ∧ Aside0 (Kd.R Kd.string 9 w' w.heap.size (fun _ => True) v102 t101) ∧ Aside0 (Below w.heap.size w w'))
 case atStart => exact ⟨(0), zs, H', ⟨Nat.le_refl _⟩, ⟨rO HO103⟩, ⟨zB⟩⟩
 case round =>
  clear H'
  obtain ⟨x4_1, rfl, HA, HK1, HO_3, HB⟩ := hrel
  cases gk with
  | zero => exact absurd HA.out (by simp [spec_l1Domain.l0])
  | succ k1 =>
   have H := HA.out
   clear HA
   simp only [spec_l1Domain.l0] at H
   replace H := its_d_d H; rcases H with ⟨c4b0, H⟩ | ⟨c4b0, H⟩
   ·replace H := itn_d H; obtain ⟨c5b0, H⟩ := H
    replace H := bnd H; obtain ⟨t105, A6, H⟩ := H
    replace H := itb H; rcases H with ⟨rfl, H⟩ | ⟨rfl, H⟩
    ·have H' := Aside0.mk H
     clear H
     obtain ⟨Ao8, co8, eo8⟩ := Kd.R_slice HO_3.out
     subst eo8
     have p104 : 0 ≤ (x4_1 : Int) := of_decide_eq_true za
     have q104 : x4_1 < (t101.length : Int) := of_decide_eq_true za
     obtain ⟨ad104, e104, hx104_0⟩ := Kd.at_string (Kd.R_reads' HO_3.out).2.2 x4_1 p104 q104
     cases e104
     replace p104 := eq_true p104
     replace q104 := eq_true q104
     go_wp2_with (first | ((with_reducible refine gate_callee (f := 101) rfl ?_); refine gv 17 Tryz.func101 _ (spec_l1Word.calls (w := _) (h := A6.out)) ?_; rintro w' ⟨nd, rfl⟩))
     go_roundg k1
     case measure => have := HK1.out; omega
     case rel => exact ⟨(wrap64 (x4_1 + 1)), zs, H', ⟨by have := HK1.out; omega⟩, ⟨rO HO_3⟩, ⟨zB⟩⟩
    ·obtain rfl := Option.some.inj H
     obtain ⟨Ao9, co9, eo9⟩ := Kd.R_slice HO_3.out
     subst eo9
     have p104 : 0 ≤ (x4_1 : Int) := of_decide_eq_true za
     have q104 : x4_1 < (t101.length : Int) := of_decide_eq_true za
     obtain ⟨ad104, e104, hx104_0⟩ := Kd.at_string (Kd.R_reads' HO_3.out).2.2 x4_1 p104 q104
     cases e104
     replace p104 := eq_true p104
     replace q104 := eq_true q104
     go_wp2_with (first | ((with_reducible refine gate_callee (f := 101) rfl ?_); refine gv 17 Tryz.func101 _ (spec_l1Word.calls (w := _) (h := A6.out)) ?_; rintro w' ⟨nd, rfl⟩))
     go_ret
     exact ⟨zr, zB⟩
   ·obtain rfl := Option.some.inj H
    obtain ⟨Ao10, co10, eo10⟩ := Kd.R_slice HO_3.out
    subst eo10
    go_wp2
    go_ret
    exact ⟨zr, zB⟩
end Go.Proofs.YtbncnjgflhoneaaGreatDoor.F
namespace Go.Proofs.YtbncnjgflhoneaaGreatDoor.F
open Go.RowKit Go.Proofs.YtbncnjgflhoneaaGreatDoor.Hand Go.Proofs.YtbncnjgflhoneaaGreatDoorW.PrintWords Go.Proofs.YtbncnjgflhoneaaGreatDoorW.PrintLast Go.Proofs.YtbncnjgflhoneaaGreatDoorW.PrintMore
set_option linter.unusedVariables false
set_option linter.unusedSimpArgs false
def spec_l1AddrOk.f (k : Nat) (a0_0 : ByteArray) (a0_1 : ByteArray) : Option (Bool) := (spec_l1Word.f k a0_0).bind fun t102 => (if t102 = true then ((spec_l1Domain.f k a0_1).bind fun t103 => (some t103)) else (some false))
set_option maxHeartbeats 8000000 in
set_option maxRecDepth 100000 in
theorem spec_l1AddrOk.calls (k : Nat) (a0_0 : ByteArray) (a0_1 : ByteArray) (r : Bool) (w : World) (h : spec_l1AddrOk.f k a0_0 a0_1 = some r) :
  Calls Tryz.prog 58 #[.agg #[.string a0_0, .string a0_1]] w fun e w' => e = .returned (.bool r) ∧ Below w.heap.size w w' := by
 have hu32 := Tryz.underlying32
 have HB := Aside0.mk (Below.refl w.heap.size w)
 have H := h
 clear h
 unfold spec_l1AddrOk.f at H
 replace H := bnd H; obtain ⟨t102, A2, H⟩ := H
 replace H := itb H; rcases H with ⟨rfl, H⟩ | ⟨rfl, H⟩
 ·replace H := bnd H; obtain ⟨t103, A4, H⟩ := H
  obtain rfl := Option.some.inj H
  go_enter Tryz.func58, Tryz.ntmps58
  go_wp2_with (first | ((with_reducible refine gate_dst (N := 1) rfl ?_); refine bx (cs := #[.string a0_0, .string a0_1]) (t := 32) ?_; intro gb101 hg w5 hbox hb; have BK101 := Aside0.mk (hbox); have GW101 := gS hg; have GE101 := gS hg; replace HB := bS hb; clear hb hbox hg; have hcz6 := cz2 BK101.out; have hfz6 := fz2 BK101.out) | ((with_reducible refine gate_callee (f := 101) rfl ?_); refine gv 5 Tryz.func101 _ (spec_l1Word.calls (w := _) (h := A2.out)) ?_; rintro w' ⟨nd, rfl⟩) | (go_at_call 102; with_reducible refine (spec_l1Domain.calls (w := _) (h := A4.out)).mono ?_; rintro e w7 ⟨rfl, hb⟩; replace BK101 := kS BK101 hb; replace HB := bS hb; clear hb))
  go_ret
  exact ⟨zr, zB⟩
 ·obtain rfl := Option.some.inj H
  go_enter Tryz.func58, Tryz.ntmps58
  go_wp2_with (first | ((with_reducible refine gate_dst (N := 1) rfl ?_); refine bx (cs := #[.string a0_0, .string a0_1]) (t := 32) ?_; intro gb101 hg w8 hbox hb; have BK101 := Aside0.mk (hbox); have GW101 := gS hg; have GE101 := gS hg; replace HB := bS hb; clear hb hbox hg; have hcz9 := cz2 BK101.out; have hfz9 := fz2 BK101.out) | ((with_reducible refine gate_callee (f := 101) rfl ?_); refine gv 5 Tryz.func101 _ (spec_l1Word.calls (w := _) (h := A2.out)) ?_; rintro w' ⟨nd, rfl⟩))
  go_ret
  exact ⟨zr, zB⟩
end Go.Proofs.YtbncnjgflhoneaaGreatDoor.F
namespace Go.Proofs.YtbncnjgflhoneaaGreatDoor.Hand
open Go.RowKit Go.Proofs.YtbncnjgflhoneaaGreatDoor.F Go.Proofs.YtbncnjgflhoneaaGreatDoorW.PrintWords Go.Proofs.YtbncnjgflhoneaaGreatDoorW.PrintLast Go.Proofs.YtbncnjgflhoneaaGreatDoorW.PrintMore
def B (l : List UInt8) : ByteArray := ⟨l.toArray⟩
theorem B_data (l : List UInt8) : (B l).data.toList = l := by simp [B]
theorem B_size (l : List UInt8) : (B l).size = l.length := by rw [← data_length, B_data]
theorem B_of (s : ByteArray) : B s.data.toList = s := by cases s; simp [B]
theorem toL (s : ByteArray) : s.toList = s.data.toList := Lib.toList_data s
theorem B_toList (l : List UInt8) : (B l).toList = l := by rw [toL, B_data]
theorem eq_B {s : ByteArray} {l : List UInt8} (h : s.data.toList = l) : s = B l := by rw [← h, B_of]
def front (p : List UInt8) : List (List UInt8) → List (List UInt8)
 | [] => [p]
 | x :: r => (p ++ x) :: r
theorem front_front (p q : List UInt8) (L : List (List UInt8)) : front p (front q L) = front (p ++ q) L := by
 cases L <;> simp [front]
theorem front_nil (L : List (List UInt8)) (h : L ≠ []) : front [] L = L := by
 cases L with
 | nil => exact absurd rfl h
 | cons x r => simp [front]
theorem front_length (p : List UInt8) (L : List (List UInt8)) (h : L ≠ []) : (front p L).length = L.length := by
 cases L with
 | nil => exact absurd rfl h
 | cons x r => simp [front]
def cutAt (c : UInt8) : List UInt8 → List (List UInt8)
 | [] => [[]]
 | a :: l => if a = c then [] :: cutAt c l else front [a] (cutAt c l)
def cutM (c : UInt8) : Nat → List UInt8 → List (List UInt8)
 | _, [] => [[]]
 | 0, a :: l => [a :: l]
 | m + 1, a :: l => if a = c then [] :: cutM c m l else front [a] (cutM c (m + 1) l)
theorem cutAt_ne (c : UInt8) (l : List UInt8) : cutAt c l ≠ [] := by
 cases l with
 | nil => simp [cutAt]
 | cons a l =>
  rw [cutAt]
  split
  ·simp
  ·cases cutAt c l <;> simp [front]
theorem cutM_zero (c : UInt8) (l : List UInt8) : cutM c 0 l = [l] := by cases l <;> rfl
theorem cutM_ne (c : UInt8) (m : Nat) (l : List UInt8) : cutM c m l ≠ [] := by
 cases l with
 | nil => cases m <;> simp [cutM]
 | cons a l =>
  cases m with
  | zero => simp [cutM]
  | succ m =>
   rw [cutM]
   split
   ·simp
   ·cases cutM c (m + 1) l <;> simp [front]
theorem cutM_nil (c : UInt8) (m : Nat) : cutM c m [] = [[]] := by cases m <;> rfl
theorem cutM_cutAt (c : UInt8) : ∀ (l : List UInt8) (m : Nat), ((cutAt c l).length ≤ m + 1 → cutM c m l = cutAt c l) ∧ (m + 1 < (cutAt c l).length → (cutM c m l).length = m + 1)
 | [], m => by cases m <;> simp [cutAt, cutM]
 | a :: l, 0 => by
  refine ⟨fun h => ?_, fun _ => by simp [cutM]⟩
  rw [cutM]
  by_cases e : a = c
  ·rw [cutAt, if_pos e] at h
   have := List.length_pos_iff.2 (cutAt_ne c l)
   rw [List.length_cons] at h
   omega
  ·rw [cutAt, if_neg e] at h ⊢
   rw [front_length _ _ (cutAt_ne c l)] at h
   have h2 := (cutM_cutAt c l 0).1 h
   rw [← h2, cutM_zero]
   rfl
 | a :: l, m + 1 => by
  rw [cutM, cutAt]
  by_cases e : a = c
  ·rw [if_pos e, if_pos e]
   obtain ⟨h1, h2⟩ := cutM_cutAt c l m
   refine ⟨fun h => ?_, fun h => ?_⟩
   ·simp at h
    rw [h1 (by omega)]
   ·simp at h
    have := h2 (by omega)
    simp [this]
  ·rw [if_neg e, if_neg e]
   obtain ⟨h1, h2⟩ := cutM_cutAt c l (m + 1)
   rw [front_length _ _ (cutAt_ne c l)]
   refine ⟨fun h => by rw [h1 h], fun h => ?_⟩
   rw [front_length _ _ (cutM_ne c (m + 1) l)]
   exact h2 h
theorem cutAt_miss (c : UInt8) : ∀ l : List UInt8, c ∉ l → cutAt c l = [l]
 | [], _ => rfl
 | a :: l, h => by
  rw [cutAt, if_neg (fun e => h (by simp [e])), cutAt_miss c l (fun hh => h (by simp [hh]))]
  rfl
theorem cutAt_hit (c : UInt8) (b : List UInt8) : ∀ a : List UInt8, c ∉ a → cutAt c (a ++ c :: b) = a :: cutAt c b
 | [], _ => by rw [List.nil_append, cutAt, if_pos rfl]
 | x :: a, h => by
  rw [List.cons_append, cutAt, if_neg (fun e => h (by simp [e])), cutAt_hit c b a (fun hh => h (by simp [hh]))]
  rfl
theorem index_one (c : UInt8) : ∀ l : List UInt8, (Lib.index l [c] = -1 ∧ c ∉ l) ∨ ∃ i : Nat, Lib.index l [c] = i ∧ c ∉ l.take i ∧ ∃ h : i < l.length, l[i] = c
 | [] => by left; simp [Lib.index]
 | b :: l => by
  by_cases e : c = b
  ·right
   refine ⟨0, ?_, by simp, by simp, by simp [e]⟩
   simp [Lib.index, e]
  ·have hp : [c].isPrefixOf (b :: l) = false := by simp [List.isPrefixOf, e]
   rcases index_one c l with ⟨h1, h2⟩ | ⟨i, h1, h2, h3, h4⟩
   ·left
    refine ⟨by rw [Lib.index, hp, h1]; simp, by simp [e, h2]⟩
   ·right
    refine ⟨i + 1, ?_, ?_, by simp; omega, by simpa using h4⟩
    ·rw [Lib.index, hp, h1]
     have : ¬ ((i : Int) == -1) = true := by simp
     rw [if_neg (by simp), if_neg this]
     omega
    ·simp [e, h2]
theorem split_one (c : UInt8) : ∀ (n : Nat) (s : ByteArray), s.size ≤ n → (Lib.splitB (B [c]) 0 (Lib.countB s (B [c])) s).map (·.data.toList) = cutAt c s.data.toList := by
 intro n
 induction n with
 | zero =>
  intro s hs
  have hd : s.data.toList = [] := List.eq_nil_of_length_eq_zero (by rw [data_length]; omega)
  rcases Lib.indexB_cases s (B [c]) with h | ⟨i, _, hr⟩
  ·rw [Lib.countB_miss _ _ h, Lib.splitB_zero, List.map_singleton, hd]
   rfl
  ·rw [B_size] at hr
   simp at hr
   omega
 | succ n ih =>
  intro s hs
  have h1 : 1 ≤ (B [c]).size := by rw [B_size]; simp
  have hix : Lib.indexB s (B [c]) = Lib.index s.data.toList [c] := by
   show Lib.index s.data.toList (B [c]).data.toList = _
   rw [B_data]
  rcases index_one c s.data.toList with ⟨h, hm⟩ | ⟨i, h, hm, hlt, hc⟩
  ·rw [Lib.countB_miss _ _ (hix.trans h), Lib.splitB_zero, List.map_singleton, cutAt_miss c _ hm]
  ·have hi := hix.trans h
   rw [Lib.countB_hit _ _ i h1 hi, Nat.add_comm 1, Lib.splitB_hit _ _ _ _ i hi, List.map_cons, B_size]
   have hl : s.data.toList.length = s.size := data_length s
   rw [ih _ (by simp [ByteArray.size_extract]; omega)]
   have e1 : (s.extract 0 (i + 0)).data.toList = s.data.toList.take i := by rw [Nat.add_zero]; exact Lib.extract_from_zero s i
   have e2 : (s.extract (i + [c].length) s.size).data.toList = s.data.toList.drop (i + 1) := Lib.extract_to_end s (i + 1)
   rw [e1, e2]
   have e3 : s.data.toList = s.data.toList.take i ++ c :: s.data.toList.drop (i + 1) := by
    rw [← hc, ← List.drop_eq_getElem_cons hlt, List.take_append_drop]
   conv => rhs; rw [e3]
   rw [cutAt_hit c _ _ hm]
theorem labels_cut (d : ByteArray) : labelsOf d = (cutAt 46 d.data.toList).map B := by
 have h := split_one 46 _ d (Nat.le_refl _)
 unfold labelsOf
 rw [← h, List.map_map]
 refine (List.map_id _).symm.trans (List.map_congr_left fun x _ => ?_)
 exact (B_of x).symm
theorem extract_data' (s : ByteArray) (a b : Nat) : (s.extract a b).data.toList = (s.data.toList.take b).drop a := by
 rw [Lib.extract_data]
 simp [List.drop_take]
theorem cut_from (s : ByteArray) (hs : s.size ≤ 1099511627776) (c : UInt8) (most : Nat) (hmost : most ≤ 1000) : ∀ (d i f : Nat) (out : List ByteArray), s.size = i + d → f ≤ i → out.length ≤ most →
  Ev (fun k => spec_l1Cut.l0 k s (c.toNat : Int) (most : Int) out (f : Int) (i : Int)) (out ++ (front ((s.data.toList.take i).drop f) (cutM c (most - out.length) (s.data.toList.drop i))).map B) := by
 intro d
 induction d with
 | zero =>
  intro i f out hi hf ho
  have hdl : s.data.toList.length = s.size := data_length s
  refine Ev.step (f := fun k => spec_l1Cut.j1 k s (c.toNat : Int) (most : Int) out (f : Int) (i : Int) false) (fun k => by rw [spec_l1Cut.l0, if_neg (by omega)]) ?_
  refine Ev.step (f := fun _ => some (out ++ [s.extract f s.size])) (fun k => by rw [spec_l1Cut.j1, if_neg (by decide), if_pos (by omega), if_pos (by omega), if_pos (by omega)]; rfl) ?_
  rw [show s.data.toList.drop i = [] from List.drop_eq_nil_of_le (by omega), cutM_nil]
  have : front ((s.data.toList.take i).drop f) [[]] = [(s.data.toList.take i).drop f] := by simp [front]
  rw [this, List.map_singleton, ← eq_B (extract_data' s f i), show i = s.size by omega]
  exact Ev.now _
 | succ d ih =>
  intro i f out hi hf ho
  have hdl : s.data.toList.length = s.size := data_length s
  have hlt : i < s.data.toList.length := by omega
  refine Ev.step (f := fun k => spec_l1Cut.j1 k s (c.toNat : Int) (most : Int) out (f : Int) (i : Int) (decide ((out.length : Int) < most))) (fun k => by rw [spec_l1Cut.l0, if_pos (by omega)]) ?_
  by_cases hm : out.length < most
  ·rw [decide_eq_true (by omega)]
   obtain ⟨m, hmm⟩ : ∃ m, most - out.length = m + 1 := ⟨most - out.length - 1, by omega⟩
   by_cases hc : s.data.toList[i] = c
   ·refine Ev.step (f := fun k => spec_l1Cut.l0 k s (c.toNat : Int) (most : Int) (out ++ [s.extract f i]) ((i + 1 : Nat) : Int) ((i + 1 : Nat) : Int)) (fun k => by
     rw [spec_l1Cut.j1, if_pos rfl, if_pos (by omega), if_pos (by omega), if_pos (by rw [bt_get s i hlt, hc]), if_pos (by omega), if_pos (by omega), if_pos (by omega), if_pos (by omega), wrapIn (x := (i : Int) + 1) (by omega) (by omega)]
     rfl) ?_
    have h2 := ih (i + 1) (i + 1) (out ++ [s.extract f i]) (by omega) (Nat.le_refl _) (by simp; omega)
    rw [List.length_append, List.length_singleton, show most - (out.length + 1) = m by omega] at h2
    have e : (s.data.toList.take (i + 1)).drop (i + 1) = [] := List.drop_eq_nil_of_le (by rw [List.length_take]; omega)
    rw [e, front_nil _ (cutM_ne _ _ _)] at h2
    rw [hmm, List.drop_eq_getElem_cons hlt, cutM, if_pos hc]
    have e2 : front ((s.data.toList.take i).drop f) ([] :: cutM c m (s.data.toList.drop (i + 1))) = ((s.data.toList.take i).drop f) :: cutM c m (s.data.toList.drop (i + 1)) := by simp [front]
    rw [e2, List.map_cons, ← eq_B (extract_data' s f i)]
    simpa using h2
   ·refine Ev.step (f := fun k => spec_l1Cut.l0 k s (c.toNat : Int) (most : Int) out (f : Int) ((i + 1 : Nat) : Int)) (fun k => by
     rw [spec_l1Cut.j1, if_pos rfl, if_pos (by omega), if_pos (by omega), if_neg (by rw [bt_get s i hlt]; intro h; exact hc (UInt8.toNat_inj.1 (by omega))), wrapIn (x := (i : Int) + 1) (by omega) (by omega)]
     rfl) ?_
    have h2 := ih (i + 1) f out (by omega) (by omega) ho
    rw [hmm] at h2 ⊢
    rw [List.drop_eq_getElem_cons hlt, cutM, if_neg hc, front_front]
    have e : (s.data.toList.take i).drop f ++ [s.data.toList[i]] = (s.data.toList.take (i + 1)).drop f := by
     rw [List.take_succ_eq_append_getElem hlt, List.drop_append_of_le_length (by rw [List.length_take]; omega)]
    rw [e]
    exact h2
  ·rw [decide_eq_false (by omega)]
   refine Ev.step (f := fun _ => some (out ++ [s.extract f s.size])) (fun k => by rw [spec_l1Cut.j1, if_neg (by decide), if_pos (by omega), if_pos (by omega), if_pos (by omega)]; rfl) ?_
   rw [show most - out.length = 0 by omega, cutM_zero]
   have e : front ((s.data.toList.take i).drop f) [s.data.toList.drop i] = [(s.extract f s.size).data.toList] := by
    rw [extract_data']
    simp only [front]
    rw [← List.drop_append_of_le_length (by rw [List.length_take]; omega), List.take_append_drop, List.take_of_length_le (by omega)]
   rw [e, List.map_singleton, B_of]
   exact Ev.now _
theorem cut_tells (s : ByteArray) (hs : s.size ≤ 1099511627776) (c : UInt8) (most : Nat) (hmost : most ≤ 1000) : Ev (fun k => spec_l1Cut.f k s (c.toNat : Int) (most : Int)) ((cutM c most s.data.toList).map B) := by
 have h := cut_from s hs c most hmost s.size 0 0 [] (by omega) (Nat.le_refl _) (by simp)
 simp only [List.take_zero, List.drop_nil, List.drop_zero, List.length_nil, Nat.sub_zero, List.nil_append] at h
 rw [front_nil _ (cutM_ne _ _ _)] at h
 exact h
theorem sdomain_from (L : List ByteArray) (hL : L.length ≤ 1099511627776) (hs : ∀ s ∈ L, s.size ≤ 1099511627776) : ∀ (d i : Nat), L.length = i + d → Ev (fun k => spec_l1Domain.l0 k L (i : Int)) ((L.drop i).all labelB && decide (L.length ≤ 3)) := by
 intro d
 induction d with
 | zero =>
  intro i hi
  refine Ev.step (f := fun _ => some (decide ((L.length : Int) ≤ 3))) (fun k => by rw [spec_l1Domain.l0, if_neg (by omega)]) ?_
  rw [List.drop_eq_nil_of_le (by omega), List.all_nil, Bool.true_and, show decide ((L.length : Int) ≤ 3) = decide (L.length ≤ 3) from decide_eq_decide.2 (by omega)]
  exact Ev.now _
 | succ d ih =>
  intro i hi
  have hlt : i < L.length := by omega
  refine Ev.step (f := fun k => (spec_l1Word.f k L[i]).bind fun t => if t = true then spec_l1Domain.l0 k L ((i + 1 : Nat) : Int) else some false)
   (fun k => by rw [spec_l1Domain.l0, if_pos (by omega), if_pos (by omega), rdOf_mem _ _ _ hlt, wrapIn (x := (i : Int) + 1) (by omega) (by omega)]; rfl) ?_
  rw [List.drop_eq_getElem_cons hlt, List.all_cons]
  have h1 := word_tells L[i] (hs _ (List.getElem_mem hlt))
  cases hb : labelB L[i]
  ·rw [hb] at h1
   exact Ev.call h1 (h := fun _ => some false) (fun n => by rw [if_neg (by decide)]) (Ev.now _)
  ·rw [hb] at h1
   rw [Bool.true_and]
   exact Ev.call h1 (fun n => by rw [if_pos rfl]) (ih (i + 1) (by omega))
theorem mem_front {p : List UInt8} {L : List (List UInt8)} {x : List UInt8} {n : Nat} (hL : ∀ y ∈ L, y.length ≤ n) (hx : x ∈ front p L) : x.length ≤ p.length + n := by
 cases L with
 | nil =>
  simp [front] at hx
  subst hx
  omega
 | cons y r =>
  simp only [front, List.mem_cons] at hx
  rcases hx with rfl | hx
  ·have := hL y (by simp)
   rw [List.length_append]
   omega
  ·have := hL x (by simp [hx])
   omega
theorem cutM_short (c : UInt8) : ∀ (m : Nat) (l x : List UInt8), x ∈ cutM c m l → x.length ≤ l.length
 | m, [], x, h => by rw [cutM_nil] at h; simp at h; subst h; simp
 | 0, a :: l, x, h => by simp [cutM] at h; subst h; simp
 | m + 1, a :: l, x, h => by
  rw [cutM] at h
  split at h
  ·rcases List.mem_cons.1 h with rfl | h
   ·simp
   ·have := cutM_short c m l x h
    simp
    omega
  ·have := mem_front (fun y hy => cutM_short c (m + 1) l y hy) h
   simp at this ⊢
   omega
theorem cutM_few (c : UInt8) (m : Nat) (l : List UInt8) : (cutM c m l).length ≤ m + 1 := by
 obtain ⟨h1, h2⟩ := cutM_cutAt c l m
 by_cases h : (cutAt c l).length ≤ m + 1
 ·rw [h1 h]; exact h
 ·rw [h2 (by omega)]; exact Nat.le_refl _
theorem sdomain_tells (d : ByteArray) (hd : d.size ≤ 1099511627776) : Ev (fun k => spec_l1Domain.f k d) (domainB d) := by
 have hc := cut_tells d hd 46 3 (by omega)
 have hf := cutM_few 46 3 d.data.toList
 have h := sdomain_from ((cutM 46 3 d.data.toList).map B) (by rw [List.length_map]; omega) (fun s hs => by
  obtain ⟨x, hx, rfl⟩ := List.mem_map.1 hs
  have := cutM_short 46 3 _ x hx
  rw [B_size]
  rw [data_length] at this
  omega) _ 0 (Nat.zero_add _).symm
 rw [List.drop_zero] at h
 have e : (((cutM 46 3 d.data.toList).map B).all labelB && decide (((cutM 46 3 d.data.toList).map B).length ≤ 3)) = domainB d := by
  unfold domainB
  rw [labels_cut]
  obtain ⟨h1, h2⟩ := cutM_cutAt 46 d.data.toList 3
  by_cases g : (cutAt 46 d.data.toList).length ≤ 3 + 1
  ·rw [h1 g]
  ·rw [decide_eq_false (p := ((cutM 46 3 d.data.toList).map B).length ≤ 3) (by rw [List.length_map, h2 (by omega)]; omega), decide_eq_false (p := ((cutAt 46 d.data.toList).map B).length ≤ 3) (by rw [List.length_map]; omega), Bool.and_false, Bool.and_false]
 rw [e] at h
 exact Ev.call hc (fun n => rfl) h
theorem saddr_tells (u d : ByteArray) (hu : u.size ≤ 1099511627776) (hd : d.size ≤ 1099511627776) : Ev (fun k => spec_l1AddrOk.f k u d) (addrB u d) := by
 unfold addrB
 have h1 := word_tells u hu
 cases hb : labelB u
 ·rw [hb] at h1
  exact Ev.call h1 (h := fun _ => some false) (fun n => by rw [if_neg (by decide)]) (Ev.now _)
 ·rw [hb] at h1
  rw [Bool.true_and]
  exact Ev.call h1 (fun n => by rw [if_pos rfl]) (Ev.call (sdomain_tells d hd) (h := fun _ => some (domainB d)) (fun n => rfl) (Ev.now _))
end Go.Proofs.YtbncnjgflhoneaaGreatDoor.Hand
namespace Go.Proofs.YtbncnjgflhoneaaGreatDoor.F
open Go.RowKit Go.Proofs.YtbncnjgflhoneaaGreatDoor.Hand Go.Proofs.YtbncnjgflhoneaaGreatDoorW.PrintWords Go.Proofs.YtbncnjgflhoneaaGreatDoorW.PrintLast Go.Proofs.YtbncnjgflhoneaaGreatDoorW.PrintMore
set_option linter.unusedVariables false
set_option linter.unusedSimpArgs false
attribute [local go_sem high] eqA32
mutual
def spec_l2Ok.l0 : Nat → Int → ByteArray → ByteArray → List (S32) → List ByteArray → Option (Bool)
 | 0, _, _, _, _, _ => none
 | k + 1, x3, x102000, x102001, x102002, x102003 => if x3 < (x102002.length : Int) then (if 0 ≤ x3 then ((spec_l1AddrOk.f k ((rd_T32 x102002 x3).f0) ((rd_T32 x102002 x3).f1)).bind fun t103 => (if t103 = true then (spec_l2Ok.l1 k x3 0 x102000 x102001 x102002 x102003) else (some false))) else (none)) else ((spec_l1AddrOk.f k x102000 x102001).bind fun t106 => (if t106 = true then ((spec_l1In.f (x102002.length : Int) 1 4).bind fun t107 => (if t107 = true then ((spec_l2BodyOk.f k x102003).bind fun t108 => (some t108)) else (some false))) else ((spec_l1Null.f x102000 x102001).bind fun t109 => (if t109 = true then ((spec_l1In.f (x102002.length : Int) 1 4).bind fun t110 => (if t110 = true then ((spec_l2BodyOk.f k x102003).bind fun t111 => (some t111)) else (some false))) else (some false)))))
def spec_l2Ok.l1 : Nat → Int → Int → ByteArray → ByteArray → List (S32) → List ByteArray → Option (Bool)
 | 0, _, _, _, _, _, _ => none
 | k + 1, x3, x4, x102000, x102001, x102002, x102003 => if x4 < x3 then (if 0 ≤ x4 then (if x4 < (x102002.length : Int) then (if 0 ≤ x3 then (if x3 < (x102002.length : Int) then (if ((((rd_T32 x102002 x4).f0).toList) == (((rd_T32 x102002 x3).f0).toList) && ((((rd_T32 x102002 x4).f1).toList) == (((rd_T32 x102002 x3).f1).toList))) = true then (some false) else (spec_l2Ok.l1 k x3 (wrap64 (x4 + 1)) x102000 x102001 x102002 x102003)) else (none)) else (none)) else (none)) else (none)) else (spec_l2Ok.l0 k (wrap64 (x3 + 1)) x102000 x102001 x102002 x102003)
end
def spec_l2Ok.f (k : Nat) (a0_0 : ByteArray) (a0_1 : ByteArray) (l0_2 : List (S32)) (l0_3 : List ByteArray) : Option (Bool) := spec_l2Ok.l0 k 0 a0_0 a0_1 l0_2 l0_3
set_option maxHeartbeats 8000000 in
set_option maxRecDepth 100000 in
theorem spec_l2Ok.calls (k : Nat) (a0_0 : ByteArray) (a0_1 : ByteArray) (A0_2 : Option Addr) (c0_2 : Nat) (l0_2 : List (S32)) (A0_3 : Option Addr) (c0_3 : Nat) (l0_3 : List ByteArray) (r : Bool) (w : World) (hr0_2 : Kd.C k32 w A0_2 l0_2.length l0_2) (hc0_2 : l0_2.length ≤ c0_2) (hr0_3 : Kd.C Kd.string w A0_3 l0_3.length l0_3) (hc0_3 : l0_3.length ≤ c0_3) (h : spec_l2Ok.f k a0_0 a0_1 l0_2 l0_3 = some r) :
  Calls Tryz.prog 56 #[.agg #[.string a0_0, .string a0_1, .slice A0_2 l0_2.length c0_2, .slice A0_3 l0_3.length c0_3]] w fun e w' => e = .returned (.bool r) ∧ Below w.heap.size w w' := by
 have hu35 := Tryz.underlying35
 have hu32 := Tryz.underlying32
 have HR0_2 := Aside0.mk hr0_2
 have HC0_2 := Aside0.mk hc0_2
 clear hr0_2 hc0_2
 have HR0_3 := Aside0.mk hr0_3
 have HC0_3 := Aside0.mk hc0_3
 clear hr0_3 hc0_3
 have HB := Aside0.mk (Below.refl w.heap.size w)
 have H := h
 clear h
 unfold spec_l2Ok.f at H
 have H' := Aside0.mk H
 clear H
 go_enter Tryz.func56, Tryz.ntmps56
 go_wp2_with (first | ((with_reducible refine gate_dst (N := 1) rfl ?_); (try (refine gate_guard (by rfl) ?_; dsimp only)); refine bx (cs := #[.string a0_0, .string a0_1, .slice A0_2 l0_2.length c0_2, .slice A0_3 l0_3.length c0_3]) (t := 35) ?_; intro gb101 hg w2 hbox hb; have BK101 := Aside0.mk (hbox); have GW101 := gS hg; have GE101 := gS hg; replace HB := bS hb; clear hb hbox hg))
 repeat (go_quiet (first | ((with_reducible refine gate_dst (N := 1) rfl ?_); (try (refine gate_guard (by rfl) ?_; dsimp only)); refine bx (cs := #[.string a0_0, .string a0_1, .slice A0_2 l0_2.length c0_2, .slice A0_3 l0_3.length c0_3]) (t := 35) ?_; intro gb101 hg w2 hbox hb; have BK101 := Aside0.mk (hbox); have GW101 := gS hg; have GE101 := gS hg; replace HB := bS hb; clear hb hbox hg)); try go_wp2_with (first | ((with_reducible refine gate_dst (N := 1) rfl ?_); (try (refine gate_guard (by rfl) ?_; dsimp only)); refine box_event ?hg (N := 1) ?hd (cs := #[.string a0_0, .string a0_1, .slice A0_2 l0_2.length c0_2, .slice A0_3 l0_3.length c0_3]) (t := 35) ?hr ?_; (case hd => rfl); (case hg => rfl); (case hr => first | (go_simp; done) | (go_simp; rfl)); intro gb101 hg w2 hbox hb; have n0_ := bS hb; have n1_ := Aside0.mk (hbox); have n2_ := gS hg; have n3_ := gS hg; clear HB; have HB := n0_; have BK101 := n1_; have GW101 := n2_; have GE101 := n3_; clear n0_ n1_ n2_ n3_; clear hb hbox hg)))
 go_loopg [3] k (fun kq v3 w' => ∃ (x3_1 : Int), v3 = .int .i64 x3_1 ∧ Aside0 (spec_l2Ok.l0 kq x3_1 a0_0 a0_1 l0_2 l0_3 = some r) ∧ Aside0 (kq ≤ k) ∧ Aside0 (w'.heap[gb101]? = some (.cells #[.string a0_0, .string a0_1, (.slice A0_2 l0_2.length c0_2), (.slice A0_3 l0_3.length c0_3)] 35 (0, 0))) ∧ Aside0 (Below w.heap.size w w'))
 case atStart => exact ⟨(0), zs, H', ⟨Nat.le_refl _⟩, ⟨kQ BK101⟩, ⟨zB⟩⟩
 case round =>
  clear H'
  obtain ⟨x3_1, rfl, HA, HK1, BK101, HB⟩ := hrel
  cases gk with
  | zero => exact absurd HA.out (by simp [spec_l2Ok.l0])
  | succ k1 =>
   have H := HA.out
   clear HA
   simp only [spec_l2Ok.l0] at H
   replace H := its_d_d H; rcases H with ⟨c3b0, H⟩ | ⟨c3b0, H⟩
   ·replace H := itn_d H; obtain ⟨c4b0, H⟩ := H
    replace H := bnd H; obtain ⟨t103, A5, H⟩ := H
    replace H := itb H; rcases H with ⟨rfl, H⟩ | ⟨rfl, H⟩
    ·have H' := Aside0.mk H
     clear H
     have hcz7 := cz4 BK101.out
     have hfz7 := fz4 BK101.out
     have p102 : 0 ≤ (x3_1 : Int) := of_decide_eq_true za
     have q102 : x3_1 < (l0_2.length : Int) := of_decide_eq_true za
     obtain ⟨ad102, e102, hx102_0, hx102_1⟩ := at_T32 HR0_2.out x3_1 p102 q102
     cases e102
     replace hx102_0 := kx HB hx102_0
     replace hx102_1 := kx HB hx102_1
     replace p102 := eq_true p102
     replace q102 := eq_true q102
     go_wp2_with (first | (go_at_call 58; with_reducible refine (spec_l1AddrOk.calls (w := _) (h := A5.out)).mono ?_; rintro e w8 ⟨rfl, hb⟩; replace BK101 := kS BK101 hb; replace HB := bS hb; clear hb))
     repeat (go_quiet (first | (go_at_call 58; with_reducible refine (spec_l1AddrOk.calls (w := _) (h := A5.out)).mono ?_; rintro e w8 ⟨rfl, hb⟩; replace BK101 := kS BK101 hb; replace HB := bS hb; clear hb)); try go_wp2_with (first | (go_at_call 58; (with_reducible refine (spec_l1AddrOk.calls k1 ((rd_T32 l0_2 x3_1).f0) ((rd_T32 l0_2 x3_1).f1) true _ A5.out).mono ?_); rintro e w8 ⟨rfl, hb⟩; have n0_ := kS BK101 hb; have n1_ := bS hb; clear BK101; clear HB; have BK101 := n0_; have HB := n1_; clear n0_ n1_; (try clear hb); (try clear hb2); (try clear hk); (try clear hi))))
     go_loopg [4] k1 (fun kq v4 w' => ∃ (x4_2 : Int), v4 = .int .i64 x4_2 ∧ Aside0 (spec_l2Ok.l1 kq x3_1 x4_2 a0_0 a0_1 l0_2 l0_3 = some r) ∧ Aside0 (kq ≤ k1) ∧ Aside0 (w'.heap[gb101]? = some (.cells #[.string a0_0, .string a0_1, (.slice (some ad102) l0_2.length c0_2), (.slice A0_3 l0_3.length c0_3)] 35 (0, 0))) ∧ Aside0 (Below w.heap.size w w'))
     case atStart => exact ⟨(0), zs, H', ⟨Nat.le_refl _⟩, ⟨kQ BK101⟩, ⟨zB⟩⟩
     case round =>
      clear H'
      obtain ⟨x4_2, rfl, HA, HK2, BK101, HB⟩ := hrel
      cases gk with
      | zero => exact absurd HA.out (by simp [spec_l2Ok.l1])
      | succ k2 =>
       have H := HA.out
       clear HA
       simp only [spec_l2Ok.l1] at H
       replace H := its_d_d H; rcases H with ⟨c9b0, H⟩ | ⟨c9b0, H⟩
       ·replace H := itn_d H; obtain ⟨c10b0, H⟩ := H
        replace H := itn_d H; obtain ⟨c11b0, H⟩ := H
        replace H := itn_d H; obtain ⟨c12b0, H⟩ := H
        replace H := itn_d H; obtain ⟨c13b0, H⟩ := H
        replace H := its_c_c H; rcases H with ⟨c14, H⟩ | ⟨c14, H⟩
        ·have c14b0 : ((((rd_T32 l0_2 x4_2).f0).toList) == (((rd_T32 l0_2 x3_1).f0).toList) && ((((rd_T32 l0_2 x4_2).f1).toList) == (((rd_T32 l0_2 x3_1).f1).toList))) = true := c14
         (try (have c14b1 : decide ((((rd_T32 l0_2 x4_2).f0).toList) = (((rd_T32 l0_2 x3_1).f0).toList) && ((((rd_T32 l0_2 x4_2).f1).toList) == (((rd_T32 l0_2 x3_1).f1).toList))) = true := by simpa using c14))
         (try (have c14b2 : ((((rd_T32 l0_2 x4_2).f0).toList) == (((rd_T32 l0_2 x3_1).f0).toList) && ((((rd_T32 l0_2 x4_2).f1).toList) == (((rd_T32 l0_2 x3_1).f1).toList))) = true := by simpa using c14))
         clear c14
         obtain rfl := Option.some.inj H
         have hcz15 := cz4 BK101.out
         have hfz15 := fz4 BK101.out
         have p104 : 0 ≤ (x4_2 : Int) := of_decide_eq_true za
         have q104 : x4_2 < (l0_2.length : Int) := of_decide_eq_true za
         obtain ⟨ad104, e104, hx104_0, hx104_1⟩ := at_T32 HR0_2.out x4_2 p104 q104
         obtain rfl : ad102 = ad104 := (by injection e104)
         replace hx104_0 := kx HB hx104_0
         replace hx104_1 := kx HB hx104_1
         replace p104 := eq_true p104
         replace q104 := eq_true q104
         have p105 : 0 ≤ (x3_1 : Int) := of_decide_eq_true za
         have q105 : x3_1 < (l0_2.length : Int) := of_decide_eq_true za
         obtain ⟨ad105, e105, hx105_0, hx105_1⟩ := at_T32 HR0_2.out x3_1 p105 q105
         obtain rfl : ad102 = ad105 := (by injection e105)
         replace hx105_0 := kx HB hx105_0
         replace hx105_1 := kx HB hx105_1
         replace p105 := eq_true p105
         replace q105 := eq_true q105
         go_wp2
         repeat (go_quiet (fail); try go_wp2)
         go_ret
         exact ⟨zr, zB⟩
        ·have c14b0 : ((((rd_T32 l0_2 x4_2).f0).toList) == (((rd_T32 l0_2 x3_1).f0).toList) && ((((rd_T32 l0_2 x4_2).f1).toList) == (((rd_T32 l0_2 x3_1).f1).toList))) = false := by simpa using c14
         (try (have c14b1 : decide ((((rd_T32 l0_2 x4_2).f0).toList) = (((rd_T32 l0_2 x3_1).f0).toList) && ((((rd_T32 l0_2 x4_2).f1).toList) == (((rd_T32 l0_2 x3_1).f1).toList))) = false := by simpa using c14))
         (try (have c14b2 : ((((rd_T32 l0_2 x4_2).f0).toList) == (((rd_T32 l0_2 x3_1).f0).toList) && ((((rd_T32 l0_2 x4_2).f1).toList) == (((rd_T32 l0_2 x3_1).f1).toList))) = false := by simpa using c14))
         (try (have c14b3 : ¬ ((((rd_T32 l0_2 x4_2).f0).toList) = (((rd_T32 l0_2 x3_1).f0).toList) && ((((rd_T32 l0_2 x4_2).f1).toList) == (((rd_T32 l0_2 x3_1).f1).toList))) := by simpa using c14))
         clear c14
         have H' := Aside0.mk H
         clear H
         have hcz16 := cz4 BK101.out
         have hfz16 := fz4 BK101.out
         have p104 : 0 ≤ (x4_2 : Int) := of_decide_eq_true za
         have q104 : x4_2 < (l0_2.length : Int) := of_decide_eq_true za
         obtain ⟨ad104, e104, hx104_0, hx104_1⟩ := at_T32 HR0_2.out x4_2 p104 q104
         obtain rfl : ad102 = ad104 := (by injection e104)
         replace hx104_0 := kx HB hx104_0
         replace hx104_1 := kx HB hx104_1
         replace p104 := eq_true p104
         replace q104 := eq_true q104
         have p105 : 0 ≤ (x3_1 : Int) := of_decide_eq_true za
         have q105 : x3_1 < (l0_2.length : Int) := of_decide_eq_true za
         obtain ⟨ad105, e105, hx105_0, hx105_1⟩ := at_T32 HR0_2.out x3_1 p105 q105
         obtain rfl : ad102 = ad105 := (by injection e105)
         replace hx105_0 := kx HB hx105_0
         replace hx105_1 := kx HB hx105_1
         replace p105 := eq_true p105
         replace q105 := eq_true q105
         go_wp2
         repeat (go_quiet (fail); try go_wp2)
         go_roundg k2
         case measure => have := HK1.out; have := HK2.out; omega
         case rel => exact ⟨(wrap64 (x4_2 + 1)), zs, H', ⟨by have := HK1.out; have := HK2.out; omega⟩, ⟨kQ BK101⟩, ⟨zB⟩⟩
       ·have H' := Aside0.mk H
        clear H
        go_wp2
        repeat (go_quiet (fail); try go_wp2)
        go_roundg k2
        case measure => have := HK1.out; have := HK2.out; omega
        case rel => exact ⟨(wrap64 (x3_1 + 1)), zs, H', ⟨by have := HK1.out; have := HK2.out; omega⟩, ⟨kQ BK101⟩, ⟨zB⟩⟩
    ·obtain rfl := Option.some.inj H
     have hcz17 := cz4 BK101.out
     have hfz17 := fz4 BK101.out
     have p102 : 0 ≤ (x3_1 : Int) := of_decide_eq_true za
     have q102 : x3_1 < (l0_2.length : Int) := of_decide_eq_true za
     obtain ⟨ad102, e102, hx102_0, hx102_1⟩ := at_T32 HR0_2.out x3_1 p102 q102
     cases e102
     replace hx102_0 := kx HB hx102_0
     replace hx102_1 := kx HB hx102_1
     replace p102 := eq_true p102
     replace q102 := eq_true q102
     go_wp2_with (first | (go_at_call 58; with_reducible refine (spec_l1AddrOk.calls (w := _) (h := A5.out)).mono ?_; rintro e w18 ⟨rfl, hb⟩; replace BK101 := kS BK101 hb; replace HB := bS hb; clear hb))
     repeat (go_quiet (first | (go_at_call 58; with_reducible refine (spec_l1AddrOk.calls (w := _) (h := A5.out)).mono ?_; rintro e w18 ⟨rfl, hb⟩; replace BK101 := kS BK101 hb; replace HB := bS hb; clear hb)); try go_wp2_with (first | (go_at_call 58; (with_reducible refine (spec_l1AddrOk.calls k1 ((rd_T32 l0_2 x3_1).f0) ((rd_T32 l0_2 x3_1).f1) false _ A5.out).mono ?_); rintro e w18 ⟨rfl, hb⟩; have n0_ := kS BK101 hb; have n1_ := bS hb; clear BK101; clear HB; have BK101 := n0_; have HB := n1_; clear n0_ n1_; (try clear hb); (try clear hb2); (try clear hk); (try clear hi))))
     go_ret
     exact ⟨zr, zB⟩
   ·replace H := bnd H; obtain ⟨t106, A19, H⟩ := H
    replace H := itb H; rcases H with ⟨rfl, H⟩ | ⟨rfl, H⟩
    ·replace H := bnd H; obtain ⟨t107, A21, H⟩ := H
     replace H := itb H; rcases H with ⟨rfl, H⟩ | ⟨rfl, H⟩
     ·replace H := bnd H; obtain ⟨t108, A23, H⟩ := H
      obtain rfl := Option.some.inj H
      have hcz24 := cz4 BK101.out
      have hfz24 := fz4 BK101.out
      go_wp2_with (first | (go_at_call 58; with_reducible refine (spec_l1AddrOk.calls (w := _) (h := A19.out)).mono ?_; rintro e w25 ⟨rfl, hb⟩; replace BK101 := kS BK101 hb; replace HB := bS hb; clear hb; obtain ⟨hcz26_0, hcz26_1, hcz26_2, hcz26_3⟩ := cz4 BK101.out; obtain ⟨hfz26_0, hfz26_1, hfz26_2, hfz26_3⟩ := fz4 BK101.out) | (go_at_call 57; with_reducible refine (spec_l1In.calls (w := _) (h := A21.out)).mono ?_; rintro e w' ⟨rfl, ⟨nd, rfl⟩⟩; (try first | exact ⟨rfl, _, World.drewN_drewN _ _ _⟩ | exact ⟨rfl, _, Eq.trans (World.drewN_drewN _ _ _) (congrArg (World.drewN _) (Nat.add_assoc _ _ _))⟩)) | (go_at_call 100; refine (spec_l2BodyOk.calls (w := _) (hr0 := by repeat (first | exact (Kd.C_below HR0_3.out zB) | (with_reducible refine Kd.C_alloc ?_ _) | (with_reducible refine Kd.C_drewN ?_ _) | (with_reducible refine Kd.C_drew ?_))) (hc0 := HC0_3.out) (h := A23.out)).mono ?_; rintro e w' ⟨rfl, ⟨nd, rfl⟩⟩; (try first | exact ⟨rfl, _, World.drewN_drewN _ _ _⟩ | exact ⟨rfl, _, Eq.trans (World.drewN_drewN _ _ _) (congrArg (World.drewN _) (Nat.add_assoc _ _ _))⟩)))
      repeat (go_quiet (first | (go_at_call 58; with_reducible refine (spec_l1AddrOk.calls (w := _) (h := A19.out)).mono ?_; rintro e w25 ⟨rfl, hb⟩; replace BK101 := kS BK101 hb; replace HB := bS hb; clear hb; obtain ⟨hcz26_0, hcz26_1, hcz26_2, hcz26_3⟩ := cz4 BK101.out; obtain ⟨hfz26_0, hfz26_1, hfz26_2, hfz26_3⟩ := fz4 BK101.out) | (go_at_call 57; with_reducible refine (spec_l1In.calls (w := _) (h := A21.out)).mono ?_; rintro e w' ⟨rfl, ⟨nd, rfl⟩⟩; (try first | exact ⟨rfl, _, World.drewN_drewN _ _ _⟩ | exact ⟨rfl, _, Eq.trans (World.drewN_drewN _ _ _) (congrArg (World.drewN _) (Nat.add_assoc _ _ _))⟩)) | (go_at_call 100; refine (spec_l2BodyOk.calls (w := _) (hr0 := by repeat (first | exact (Kd.C_below HR0_3.out zB) | (with_reducible refine Kd.C_alloc ?_ _) | (with_reducible refine Kd.C_drewN ?_ _) | (with_reducible refine Kd.C_drew ?_))) (hc0 := HC0_3.out) (h := A23.out)).mono ?_; rintro e w' ⟨rfl, ⟨nd, rfl⟩⟩; (try first | exact ⟨rfl, _, World.drewN_drewN _ _ _⟩ | exact ⟨rfl, _, Eq.trans (World.drewN_drewN _ _ _) (congrArg (World.drewN _) (Nat.add_assoc _ _ _))⟩))); try go_wp2_with (first | (go_at_call 58; (with_reducible refine (spec_l1AddrOk.calls k1 a0_0 a0_1 true _ A19.out).mono ?_); rintro e w25 ⟨rfl, hb⟩; have n0_ := kS BK101 hb; have n1_ := bS hb; clear BK101; clear HB; have BK101 := n0_; have HB := n1_; clear n0_ n1_; (try clear hb); (try clear hb2); (try clear hk); (try clear hi); have hcz26_0 : w25.cell? ⟨gb101, 0, none⟩ = some (.string a0_0) := (blk_cell BK101.out 0).trans rfl; have hcz26_1 : w25.cell? ⟨gb101, 1, none⟩ = some (.string a0_1) := (blk_cell BK101.out 1).trans rfl; have hcz26_2 : w25.cell? ⟨gb101, 2, none⟩ = some (.slice A0_2 l0_2.length c0_2) := (blk_cell BK101.out 2).trans rfl; have hcz26_3 : w25.cell? ⟨gb101, 3, none⟩ = some (.slice A0_3 l0_3.length c0_3) := (blk_cell BK101.out 3).trans rfl; have hfz26_0 := blk_frozen BK101.out 0; have hfz26_1 := blk_frozen BK101.out 1; have hfz26_2 := blk_frozen BK101.out 2; have hfz26_3 := blk_frozen BK101.out 3) | (go_at_call 57; (with_reducible refine (spec_l1In.calls (l0_2.length : Int) 1 4 true _ A21.out).mono ?_); rintro e w' ⟨rfl, ⟨nd, rfl⟩⟩; (try first | exact ⟨rfl, _, World.drewN_drewN _ _ _⟩ | exact ⟨rfl, _, Eq.trans (World.drewN_drewN _ _ _) (congrArg (World.drewN _) (Nat.add_assoc _ _ _))⟩)) | (go_at_call 100; (with_reducible refine (spec_l2BodyOk.calls k1 _ _ l0_3 t108 _ ?side1 ?side2 A23.out).mono ?_); (case side1 => exact (by repeat (first | exact (Kd.C_below HR0_3.out zB) | (with_reducible refine Kd.C_alloc ?_ _) | (with_reducible refine Kd.C_drewN ?_ _) | (with_reducible refine Kd.C_drew ?_)))); (case side2 => exact HC0_3.out); rintro e w' ⟨rfl, ⟨nd, rfl⟩⟩; (try first | exact ⟨rfl, _, World.drewN_drewN _ _ _⟩ | exact ⟨rfl, _, Eq.trans (World.drewN_drewN _ _ _) (congrArg (World.drewN _) (Nat.add_assoc _ _ _))⟩))))
      go_ret
      exact ⟨zr, zB⟩
     ·obtain rfl := Option.some.inj H
      have hcz27 := cz4 BK101.out
      have hfz27 := fz4 BK101.out
      go_wp2_with (first | (go_at_call 58; with_reducible refine (spec_l1AddrOk.calls (w := _) (h := A19.out)).mono ?_; rintro e w28 ⟨rfl, hb⟩; replace BK101 := kS BK101 hb; replace HB := bS hb; clear hb; obtain ⟨hcz29_0, hcz29_1, hcz29_2, hcz29_3⟩ := cz4 BK101.out; obtain ⟨hfz29_0, hfz29_1, hfz29_2, hfz29_3⟩ := fz4 BK101.out) | (go_at_call 57; with_reducible refine (spec_l1In.calls (w := _) (h := A21.out)).mono ?_; rintro e w' ⟨rfl, ⟨nd, rfl⟩⟩; (try first | exact ⟨rfl, _, World.drewN_drewN _ _ _⟩ | exact ⟨rfl, _, Eq.trans (World.drewN_drewN _ _ _) (congrArg (World.drewN _) (Nat.add_assoc _ _ _))⟩)))
      repeat (go_quiet (first | (go_at_call 58; with_reducible refine (spec_l1AddrOk.calls (w := _) (h := A19.out)).mono ?_; rintro e w28 ⟨rfl, hb⟩; replace BK101 := kS BK101 hb; replace HB := bS hb; clear hb; obtain ⟨hcz29_0, hcz29_1, hcz29_2, hcz29_3⟩ := cz4 BK101.out; obtain ⟨hfz29_0, hfz29_1, hfz29_2, hfz29_3⟩ := fz4 BK101.out) | (go_at_call 57; with_reducible refine (spec_l1In.calls (w := _) (h := A21.out)).mono ?_; rintro e w' ⟨rfl, ⟨nd, rfl⟩⟩; (try first | exact ⟨rfl, _, World.drewN_drewN _ _ _⟩ | exact ⟨rfl, _, Eq.trans (World.drewN_drewN _ _ _) (congrArg (World.drewN _) (Nat.add_assoc _ _ _))⟩))); try go_wp2_with (first | (go_at_call 58; (with_reducible refine (spec_l1AddrOk.calls k1 a0_0 a0_1 true _ A19.out).mono ?_); rintro e w28 ⟨rfl, hb⟩; have n0_ := kS BK101 hb; have n1_ := bS hb; clear BK101; clear HB; have BK101 := n0_; have HB := n1_; clear n0_ n1_; (try clear hb); (try clear hb2); (try clear hk); (try clear hi); have hcz29_0 : w28.cell? ⟨gb101, 0, none⟩ = some (.string a0_0) := (blk_cell BK101.out 0).trans rfl; have hcz29_1 : w28.cell? ⟨gb101, 1, none⟩ = some (.string a0_1) := (blk_cell BK101.out 1).trans rfl; have hcz29_2 : w28.cell? ⟨gb101, 2, none⟩ = some (.slice A0_2 l0_2.length c0_2) := (blk_cell BK101.out 2).trans rfl; have hcz29_3 : w28.cell? ⟨gb101, 3, none⟩ = some (.slice A0_3 l0_3.length c0_3) := (blk_cell BK101.out 3).trans rfl; have hfz29_0 := blk_frozen BK101.out 0; have hfz29_1 := blk_frozen BK101.out 1; have hfz29_2 := blk_frozen BK101.out 2; have hfz29_3 := blk_frozen BK101.out 3) | (go_at_call 57; (with_reducible refine (spec_l1In.calls (l0_2.length : Int) 1 4 false _ A21.out).mono ?_); rintro e w' ⟨rfl, ⟨nd, rfl⟩⟩; (try first | exact ⟨rfl, _, World.drewN_drewN _ _ _⟩ | exact ⟨rfl, _, Eq.trans (World.drewN_drewN _ _ _) (congrArg (World.drewN _) (Nat.add_assoc _ _ _))⟩))))
      go_ret
      exact ⟨zr, zB⟩
    ·replace H := bnd H; obtain ⟨t109, A30, H⟩ := H
     replace H := itb H; rcases H with ⟨rfl, H⟩ | ⟨rfl, H⟩
     ·replace H := bnd H; obtain ⟨t110, A32, H⟩ := H
      replace H := itb H; rcases H with ⟨rfl, H⟩ | ⟨rfl, H⟩
      ·replace H := bnd H; obtain ⟨t111, A34, H⟩ := H
       obtain rfl := Option.some.inj H
       have hcz35 := cz4 BK101.out
       have hfz35 := fz4 BK101.out
       go_wp2_with (first | (go_at_call 58; with_reducible refine (spec_l1AddrOk.calls (w := _) (h := A19.out)).mono ?_; rintro e w36 ⟨rfl, hb⟩; replace BK101 := kS BK101 hb; replace HB := bS hb; clear hb; obtain ⟨hcz37_0, hcz37_1, hcz37_2, hcz37_3⟩ := cz4 BK101.out; obtain ⟨hfz37_0, hfz37_1, hfz37_2, hfz37_3⟩ := fz4 BK101.out) | (go_at_call 55; with_reducible refine (spec_l1Null.calls (w := _) (h := A30.out)).mono ?_; rintro e w38 ⟨rfl, hb⟩; replace BK101 := kS BK101 hb; replace HB := bS hb; clear hb; obtain ⟨hcz39_0, hcz39_1, hcz39_2, hcz39_3⟩ := cz4 BK101.out; obtain ⟨hfz39_0, hfz39_1, hfz39_2, hfz39_3⟩ := fz4 BK101.out) | (go_at_call 57; with_reducible refine (spec_l1In.calls (w := _) (h := A32.out)).mono ?_; rintro e w' ⟨rfl, ⟨nd, rfl⟩⟩; (try first | exact ⟨rfl, _, World.drewN_drewN _ _ _⟩ | exact ⟨rfl, _, Eq.trans (World.drewN_drewN _ _ _) (congrArg (World.drewN _) (Nat.add_assoc _ _ _))⟩)) | (go_at_call 100; refine (spec_l2BodyOk.calls (w := _) (hr0 := by repeat (first | exact (Kd.C_below HR0_3.out zB) | (with_reducible refine Kd.C_alloc ?_ _) | (with_reducible refine Kd.C_drewN ?_ _) | (with_reducible refine Kd.C_drew ?_))) (hc0 := HC0_3.out) (h := A34.out)).mono ?_; rintro e w' ⟨rfl, ⟨nd, rfl⟩⟩; (try first | exact ⟨rfl, _, World.drewN_drewN _ _ _⟩ | exact ⟨rfl, _, Eq.trans (World.drewN_drewN _ _ _) (congrArg (World.drewN _) (Nat.add_assoc _ _ _))⟩)))
       repeat (go_quiet (first | (go_at_call 58; with_reducible refine (spec_l1AddrOk.calls (w := _) (h := A19.out)).mono ?_; rintro e w36 ⟨rfl, hb⟩; replace BK101 := kS BK101 hb; replace HB := bS hb; clear hb; obtain ⟨hcz37_0, hcz37_1, hcz37_2, hcz37_3⟩ := cz4 BK101.out; obtain ⟨hfz37_0, hfz37_1, hfz37_2, hfz37_3⟩ := fz4 BK101.out) | (go_at_call 55; with_reducible refine (spec_l1Null.calls (w := _) (h := A30.out)).mono ?_; rintro e w38 ⟨rfl, hb⟩; replace BK101 := kS BK101 hb; replace HB := bS hb; clear hb; obtain ⟨hcz39_0, hcz39_1, hcz39_2, hcz39_3⟩ := cz4 BK101.out; obtain ⟨hfz39_0, hfz39_1, hfz39_2, hfz39_3⟩ := fz4 BK101.out) | (go_at_call 57; with_reducible refine (spec_l1In.calls (w := _) (h := A32.out)).mono ?_; rintro e w' ⟨rfl, ⟨nd, rfl⟩⟩; (try first | exact ⟨rfl, _, World.drewN_drewN _ _ _⟩ | exact ⟨rfl, _, Eq.trans (World.drewN_drewN _ _ _) (congrArg (World.drewN _) (Nat.add_assoc _ _ _))⟩)) | (go_at_call 100; refine (spec_l2BodyOk.calls (w := _) (hr0 := by repeat (first | exact (Kd.C_below HR0_3.out zB) | (with_reducible refine Kd.C_alloc ?_ _) | (with_reducible refine Kd.C_drewN ?_ _) | (with_reducible refine Kd.C_drew ?_))) (hc0 := HC0_3.out) (h := A34.out)).mono ?_; rintro e w' ⟨rfl, ⟨nd, rfl⟩⟩; (try first | exact ⟨rfl, _, World.drewN_drewN _ _ _⟩ | exact ⟨rfl, _, Eq.trans (World.drewN_drewN _ _ _) (congrArg (World.drewN _) (Nat.add_assoc _ _ _))⟩))); try go_wp2_with (first | (go_at_call 58; (with_reducible refine (spec_l1AddrOk.calls k1 a0_0 a0_1 false _ A19.out).mono ?_); rintro e w36 ⟨rfl, hb⟩; have n0_ := kS BK101 hb; have n1_ := bS hb; clear BK101; clear HB; have BK101 := n0_; have HB := n1_; clear n0_ n1_; (try clear hb); (try clear hb2); (try clear hk); (try clear hi); have hcz37_0 : w36.cell? ⟨gb101, 0, none⟩ = some (.string a0_0) := (blk_cell BK101.out 0).trans rfl; have hcz37_1 : w36.cell? ⟨gb101, 1, none⟩ = some (.string a0_1) := (blk_cell BK101.out 1).trans rfl; have hcz37_2 : w36.cell? ⟨gb101, 2, none⟩ = some (.slice A0_2 l0_2.length c0_2) := (blk_cell BK101.out 2).trans rfl; have hcz37_3 : w36.cell? ⟨gb101, 3, none⟩ = some (.slice A0_3 l0_3.length c0_3) := (blk_cell BK101.out 3).trans rfl; have hfz37_0 := blk_frozen BK101.out 0; have hfz37_1 := blk_frozen BK101.out 1; have hfz37_2 := blk_frozen BK101.out 2; have hfz37_3 := blk_frozen BK101.out 3) | (go_at_call 55; (with_reducible refine (spec_l1Null.calls a0_0 a0_1 true _ A30.out).mono ?_); rintro e w38 ⟨rfl, hb⟩; have n0_ := kS BK101 hb; have n1_ := bS hb; clear BK101; clear HB; have BK101 := n0_; have HB := n1_; clear n0_ n1_; (try clear hb); (try clear hb2); (try clear hk); (try clear hi); have hcz39_0 : w38.cell? ⟨gb101, 0, none⟩ = some (.string a0_0) := (blk_cell BK101.out 0).trans rfl; have hcz39_1 : w38.cell? ⟨gb101, 1, none⟩ = some (.string a0_1) := (blk_cell BK101.out 1).trans rfl; have hcz39_2 : w38.cell? ⟨gb101, 2, none⟩ = some (.slice A0_2 l0_2.length c0_2) := (blk_cell BK101.out 2).trans rfl; have hcz39_3 : w38.cell? ⟨gb101, 3, none⟩ = some (.slice A0_3 l0_3.length c0_3) := (blk_cell BK101.out 3).trans rfl; have hfz39_0 := blk_frozen BK101.out 0; have hfz39_1 := blk_frozen BK101.out 1; have hfz39_2 := blk_frozen BK101.out 2; have hfz39_3 := blk_frozen BK101.out 3) | (go_at_call 57; (with_reducible refine (spec_l1In.calls (l0_2.length : Int) 1 4 true _ A32.out).mono ?_); rintro e w' ⟨rfl, ⟨nd, rfl⟩⟩; (try first | exact ⟨rfl, _, World.drewN_drewN _ _ _⟩ | exact ⟨rfl, _, Eq.trans (World.drewN_drewN _ _ _) (congrArg (World.drewN _) (Nat.add_assoc _ _ _))⟩)) | (go_at_call 100; (with_reducible refine (spec_l2BodyOk.calls k1 _ _ l0_3 t111 _ ?side1 ?side2 A34.out).mono ?_); (case side1 => exact (by repeat (first | exact (Kd.C_below HR0_3.out zB) | (with_reducible refine Kd.C_alloc ?_ _) | (with_reducible refine Kd.C_drewN ?_ _) | (with_reducible refine Kd.C_drew ?_)))); (case side2 => exact HC0_3.out); rintro e w' ⟨rfl, ⟨nd, rfl⟩⟩; (try first | exact ⟨rfl, _, World.drewN_drewN _ _ _⟩ | exact ⟨rfl, _, Eq.trans (World.drewN_drewN _ _ _) (congrArg (World.drewN _) (Nat.add_assoc _ _ _))⟩))))
       go_ret
       exact ⟨zr, zB⟩
      ·obtain rfl := Option.some.inj H
       have hcz40 := cz4 BK101.out
       have hfz40 := fz4 BK101.out
       go_wp2_with (first | (go_at_call 58; with_reducible refine (spec_l1AddrOk.calls (w := _) (h := A19.out)).mono ?_; rintro e w41 ⟨rfl, hb⟩; replace BK101 := kS BK101 hb; replace HB := bS hb; clear hb; obtain ⟨hcz42_0, hcz42_1, hcz42_2, hcz42_3⟩ := cz4 BK101.out; obtain ⟨hfz42_0, hfz42_1, hfz42_2, hfz42_3⟩ := fz4 BK101.out) | (go_at_call 55; with_reducible refine (spec_l1Null.calls (w := _) (h := A30.out)).mono ?_; rintro e w43 ⟨rfl, hb⟩; replace BK101 := kS BK101 hb; replace HB := bS hb; clear hb; obtain ⟨hcz44_0, hcz44_1, hcz44_2, hcz44_3⟩ := cz4 BK101.out; obtain ⟨hfz44_0, hfz44_1, hfz44_2, hfz44_3⟩ := fz4 BK101.out) | (go_at_call 57; with_reducible refine (spec_l1In.calls (w := _) (h := A32.out)).mono ?_; rintro e w' ⟨rfl, ⟨nd, rfl⟩⟩; (try first | exact ⟨rfl, _, World.drewN_drewN _ _ _⟩ | exact ⟨rfl, _, Eq.trans (World.drewN_drewN _ _ _) (congrArg (World.drewN _) (Nat.add_assoc _ _ _))⟩)))
       repeat (go_quiet (first | (go_at_call 58; with_reducible refine (spec_l1AddrOk.calls (w := _) (h := A19.out)).mono ?_; rintro e w41 ⟨rfl, hb⟩; replace BK101 := kS BK101 hb; replace HB := bS hb; clear hb; obtain ⟨hcz42_0, hcz42_1, hcz42_2, hcz42_3⟩ := cz4 BK101.out; obtain ⟨hfz42_0, hfz42_1, hfz42_2, hfz42_3⟩ := fz4 BK101.out) | (go_at_call 55; with_reducible refine (spec_l1Null.calls (w := _) (h := A30.out)).mono ?_; rintro e w43 ⟨rfl, hb⟩; replace BK101 := kS BK101 hb; replace HB := bS hb; clear hb; obtain ⟨hcz44_0, hcz44_1, hcz44_2, hcz44_3⟩ := cz4 BK101.out; obtain ⟨hfz44_0, hfz44_1, hfz44_2, hfz44_3⟩ := fz4 BK101.out) | (go_at_call 57; with_reducible refine (spec_l1In.calls (w := _) (h := A32.out)).mono ?_; rintro e w' ⟨rfl, ⟨nd, rfl⟩⟩; (try first | exact ⟨rfl, _, World.drewN_drewN _ _ _⟩ | exact ⟨rfl, _, Eq.trans (World.drewN_drewN _ _ _) (congrArg (World.drewN _) (Nat.add_assoc _ _ _))⟩))); try go_wp2_with (first | (go_at_call 58; (with_reducible refine (spec_l1AddrOk.calls k1 a0_0 a0_1 false _ A19.out).mono ?_); rintro e w41 ⟨rfl, hb⟩; have n0_ := kS BK101 hb; have n1_ := bS hb; clear BK101; clear HB; have BK101 := n0_; have HB := n1_; clear n0_ n1_; (try clear hb); (try clear hb2); (try clear hk); (try clear hi); have hcz42_0 : w41.cell? ⟨gb101, 0, none⟩ = some (.string a0_0) := (blk_cell BK101.out 0).trans rfl; have hcz42_1 : w41.cell? ⟨gb101, 1, none⟩ = some (.string a0_1) := (blk_cell BK101.out 1).trans rfl; have hcz42_2 : w41.cell? ⟨gb101, 2, none⟩ = some (.slice A0_2 l0_2.length c0_2) := (blk_cell BK101.out 2).trans rfl; have hcz42_3 : w41.cell? ⟨gb101, 3, none⟩ = some (.slice A0_3 l0_3.length c0_3) := (blk_cell BK101.out 3).trans rfl; have hfz42_0 := blk_frozen BK101.out 0; have hfz42_1 := blk_frozen BK101.out 1; have hfz42_2 := blk_frozen BK101.out 2; have hfz42_3 := blk_frozen BK101.out 3) | (go_at_call 55; (with_reducible refine (spec_l1Null.calls a0_0 a0_1 true _ A30.out).mono ?_); rintro e w43 ⟨rfl, hb⟩; have n0_ := kS BK101 hb; have n1_ := bS hb; clear BK101; clear HB; have BK101 := n0_; have HB := n1_; clear n0_ n1_; (try clear hb); (try clear hb2); (try clear hk); (try clear hi); have hcz44_0 : w43.cell? ⟨gb101, 0, none⟩ = some (.string a0_0) := (blk_cell BK101.out 0).trans rfl; have hcz44_1 : w43.cell? ⟨gb101, 1, none⟩ = some (.string a0_1) := (blk_cell BK101.out 1).trans rfl; have hcz44_2 : w43.cell? ⟨gb101, 2, none⟩ = some (.slice A0_2 l0_2.length c0_2) := (blk_cell BK101.out 2).trans rfl; have hcz44_3 : w43.cell? ⟨gb101, 3, none⟩ = some (.slice A0_3 l0_3.length c0_3) := (blk_cell BK101.out 3).trans rfl; have hfz44_0 := blk_frozen BK101.out 0; have hfz44_1 := blk_frozen BK101.out 1; have hfz44_2 := blk_frozen BK101.out 2; have hfz44_3 := blk_frozen BK101.out 3) | (go_at_call 57; (with_reducible refine (spec_l1In.calls (l0_2.length : Int) 1 4 false _ A32.out).mono ?_); rintro e w' ⟨rfl, ⟨nd, rfl⟩⟩; (try first | exact ⟨rfl, _, World.drewN_drewN _ _ _⟩ | exact ⟨rfl, _, Eq.trans (World.drewN_drewN _ _ _) (congrArg (World.drewN _) (Nat.add_assoc _ _ _))⟩))))
       go_ret
       exact ⟨zr, zB⟩
     ·obtain rfl := Option.some.inj H
      have hcz45 := cz4 BK101.out
      have hfz45 := fz4 BK101.out
      go_wp2_with (first | (go_at_call 58; with_reducible refine (spec_l1AddrOk.calls (w := _) (h := A19.out)).mono ?_; rintro e w46 ⟨rfl, hb⟩; replace BK101 := kS BK101 hb; replace HB := bS hb; clear hb; obtain ⟨hcz47_0, hcz47_1, hcz47_2, hcz47_3⟩ := cz4 BK101.out; obtain ⟨hfz47_0, hfz47_1, hfz47_2, hfz47_3⟩ := fz4 BK101.out) | (go_at_call 55; with_reducible refine (spec_l1Null.calls (w := _) (h := A30.out)).mono ?_; rintro e w48 ⟨rfl, hb⟩; replace BK101 := kS BK101 hb; replace HB := bS hb; clear hb))
      repeat (go_quiet (first | (go_at_call 58; with_reducible refine (spec_l1AddrOk.calls (w := _) (h := A19.out)).mono ?_; rintro e w46 ⟨rfl, hb⟩; replace BK101 := kS BK101 hb; replace HB := bS hb; clear hb; obtain ⟨hcz47_0, hcz47_1, hcz47_2, hcz47_3⟩ := cz4 BK101.out; obtain ⟨hfz47_0, hfz47_1, hfz47_2, hfz47_3⟩ := fz4 BK101.out) | (go_at_call 55; with_reducible refine (spec_l1Null.calls (w := _) (h := A30.out)).mono ?_; rintro e w48 ⟨rfl, hb⟩; replace BK101 := kS BK101 hb; replace HB := bS hb; clear hb)); try go_wp2_with (first | (go_at_call 58; (with_reducible refine (spec_l1AddrOk.calls k1 a0_0 a0_1 false _ A19.out).mono ?_); rintro e w46 ⟨rfl, hb⟩; have n0_ := kS BK101 hb; have n1_ := bS hb; clear BK101; clear HB; have BK101 := n0_; have HB := n1_; clear n0_ n1_; (try clear hb); (try clear hb2); (try clear hk); (try clear hi); have hcz47_0 : w46.cell? ⟨gb101, 0, none⟩ = some (.string a0_0) := (blk_cell BK101.out 0).trans rfl; have hcz47_1 : w46.cell? ⟨gb101, 1, none⟩ = some (.string a0_1) := (blk_cell BK101.out 1).trans rfl; have hcz47_2 : w46.cell? ⟨gb101, 2, none⟩ = some (.slice A0_2 l0_2.length c0_2) := (blk_cell BK101.out 2).trans rfl; have hcz47_3 : w46.cell? ⟨gb101, 3, none⟩ = some (.slice A0_3 l0_3.length c0_3) := (blk_cell BK101.out 3).trans rfl; have hfz47_0 := blk_frozen BK101.out 0; have hfz47_1 := blk_frozen BK101.out 1; have hfz47_2 := blk_frozen BK101.out 2; have hfz47_3 := blk_frozen BK101.out 3) | (go_at_call 55; (with_reducible refine (spec_l1Null.calls a0_0 a0_1 false _ A30.out).mono ?_); rintro e w48 ⟨rfl, hb⟩; have n0_ := kS BK101 hb; have n1_ := bS hb; clear BK101; clear HB; have BK101 := n0_; have HB := n1_; clear n0_ n1_; (try clear hb); (try clear hb2); (try clear hk); (try clear hi))))
      go_ret
      exact ⟨zr, zB⟩
end Go.Proofs.YtbncnjgflhoneaaGreatDoor.F
