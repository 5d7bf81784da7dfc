/- Of this claim, merged by program: QD2, F84, F102, F58, Q2, F56. -/
import Derived.Test.YtbncnjgflhoneaaGreatDoorN02
import Derived.Test.YtbncnjgflhoneaaGreatDoorN03
import Derived.Test.YtbncnjgflhoneaaGreatDoorN05
import Derived.Test.YtbncnjgflhoneaaGreatDoorN11
set_option linter.unusedVariables false
set_option linter.unusedSimpArgs false
namespace Go.Proofs.YtbncnjgflhoneaaGreatDoor.Hand
open Go.RowKit Go.Proofs.YtbncnjgflhoneaaGreatDoor.F Go.Proofs.YtbncnjgflhoneaaGreatDoorW.l8 Go.Proofs.YtbncnjgflhoneaaGreatDoorW.s9 Go.Proofs.YtbncnjgflhoneaaGreatDoorW.y9
structure OkI (x : G9) : Prop where
 a : Sa x.f1
 t1 : 1 ≤ x.f2.length
 t4 : x.f2.length ≤ 4
 ts : ∀ r ∈ x.f2, Sa r.f0 ∧ 0 ≤ r.f1 ∧ r.f1 ≤ 3
 body : Few x.f3
def OkS (l : List G9) : Prop := l.length ≤ 10 ∧ ∀ x ∈ l, OkI x
theorem aO2 (l : List G9) (i : Nat) (h : i < l.length) : o9 l (i : Int) = l[i] := by
 unfold o9
 rw [Int.toNat_natCast, List.getD_eq_getElem?_getD, List.getElem?_eq_getElem h]
 rfl
theorem bs1 (l : List X1) (i : Nat) (h : i < l.length) : G8 l (i : Int) = l[i] := by
 unfold G8
 rw [Int.toNat_natCast, List.getD_eq_getElem?_getD, List.getElem?_eq_getElem h]
 rfl
theorem aK1 (x : G9) (h : OkI x) : I0.f x.f0 x.f1.f0 x.f1.f1 x.f2 x.f3 = some (x.f0, x.f1.f0, x.f1.f1, x.f2, x.f3) := by
 have h4 := h.t4
 have h9 := h.body.1
 unfold I0.f
 rw [Option.bind_some, if_pos (by simp; omega), Option.bind_some, if_pos (by simp; omega), List.nil_append, List.nil_append]
theorem bs2 (a : Int) (l : List G9) : aj6.f a l = some (decide ((l.length : Int) < 10) && decide (a < 999)) := by
 unfold aj6.f
 by_cases h : (l.length : Int) < 10
 ·rw [if_pos h, decide_eq_true h, Bool.true_and]
 ·rw [if_neg h, decide_eq_false h, Bool.false_and]
def dy3 (now : Int) (a : G6) : X1 := ⟨⟨a.f0, a.f1⟩, 0, now⟩
theorem bT4 (a : Int) (l : List G9) (hl : l.length ≤ 10) (u d : ByteArray) (ts : List G6) (ht : ts.length ≤ 4) (body : List ByteArray) (now a' : Int) : ∀ (e i : Nat), ts.length = i + e →
  Ev (fun k => F2.l0 k now (i : Int) a l u d ts body a' u d ((ts.take i).map (dy3 now)) body) (wrap64 (a + 1), l ++ [⟨a', ⟨u, d⟩, ts.map (dy3 now), body⟩])
 | 0, i, hi => by
  obtain rfl : i = ts.length := by omega
  refine Ev.step (f := fun _ => some (wrap64 (a + 1), l ++ [⟨a', ⟨u, d⟩, ts.map (dy3 now), body⟩])) (fun k => ?_) (Ev.now _)
  rw [F2.l0, if_neg (by omega), Option.bind_some, if_pos (by simp; omega), Option.bind_some, Option.bind_some, if_pos (by simp; omega), List.nil_append, List.take_length]
 | e + 1, i, hi => by
  have hlt : i < ts.length := by omega
  have h := bT4 a l hl u d ts ht body now a' e (i + 1) (by omega)
  have w : wrap64 ((i : Int) + 1) = ((i + 1 : Nat) : Int) := by unfold wrap64; omega
  rw [List.take_succ_eq_append_getElem hlt, List.map_append] at h
  refine Ev.step (fun k => ?_) h
  rw [F2.l0, if_pos (by omega), if_pos (by omega), Option.bind_some, if_pos (by simp; omega), w, ao9 _ _ hlt]
  rfl
theorem dy4 (a : Int) (l : List G9) (hl : OkS l) (h9 : l.length < 10) {u d : ByteArray} {ts : List G6} {body : List ByteArray} (hm : bZ8 u d ts body) (now : Int) : ∃ a' l', Ev (fun k => F2.f k a l u d ts body now) (a', l') ∧ OkS l' := by
 have hb := hm.body.1
 refine ⟨_, _, Ev.congr (fun k => ?_) (bT4 a l hl.1 u d ts hm.t4 body now (wrap64 (a + 1)) ts.length 0 (by omega)), ?_, fun x hx => ?_⟩
 ·unfold F2.f
  rw [Option.bind_some, if_pos (by simp; omega), List.nil_append]
  rfl
 ·rw [List.length_append, List.length_singleton]; omega
 ·rcases List.mem_append.1 hx with hx | hx
  ·exact hl.2 x hx
  ·rw [List.mem_singleton.1 hx]
   refine ⟨⟨hm.u, hm.d⟩, by rw [List.length_map]; exact hm.t1, by rw [List.length_map]; exact hm.t4, fun r hr => ?_, hm.body⟩
   obtain ⟨y, hy, rfl⟩ := List.mem_map.1 hr
   exact ⟨hm.ts y hy, by show (0 : Int) ≤ 0; omega, by show (0 : Int) ≤ 3; omega⟩
theorem c43 (a : Int) (l : List G9) (hl : OkS l) (at_ k : Nat) (h1 : at_ < l.length) (h2 : k < l[at_].f2.length) : ∃ l', Q0.f a l (at_ : Int) (k : Int) = some (a, l') ∧ OkS l' := by
 have hx := hl.2 _ (List.getElem_mem h1)
 have h4 := hx.t4
 have h10 := hl.1
 have w1 : wrap64 ((k : Int) + 1) = ((k + 1 : Nat) : Int) := by unfold wrap64; omega
 have w2 : wrap64 ((at_ : Int) + 1) = ((at_ + 1 : Nat) : Int) := by unfold wrap64; omega
 obtain ⟨ts, hts⟩ : ∃ ts, ts = l[at_].f2.take k ++ l[at_].f2.drop (k + 1) := ⟨_, rfl⟩
 have tl : ts.length = l[at_].f2.length - 1 := by rw [hts, List.length_append, List.length_take, List.length_drop]; omega
 have tm : ∀ r ∈ ts, Sa r.f0 ∧ 0 ≤ r.f1 ∧ r.f1 ≤ 3 := fun r hr => by
  rw [hts] at hr
  rcases List.mem_append.1 hr with hr | hr
  ·exact hx.ts r (List.mem_of_mem_take hr)
  ·exact hx.ts r (List.mem_of_mem_drop hr)
 have lt : (l.take at_).length = at_ := by rw [List.length_take]; omega
 have ld : (l.drop (at_ + 1)).length = l.length - (at_ + 1) := List.length_drop
 unfold Q0.f
 rw [if_pos (by omega), if_pos (by omega), aO2 l at_ h1, aK1 _ hx]
 simp only [Option.bind_some, List.nil_append, Int.toNat_natCast, w1, w2, List.length_nil]
 rw [if_pos (by omega), if_pos (by omega), if_pos (by rw [List.length_take]; omega), if_pos (by omega), if_pos (by omega), if_pos (by rw [List.length_take, List.length_drop]; omega), if_pos (by omega), if_pos (by omega), ← hts]
 by_cases z : (ts.length : Int) > 0
 ·rw [if_pos z, if_pos (by omega), if_pos (by omega), if_pos (by omega), if_pos (by rw [List.length_append, List.length_singleton]; omega)]
  refine ⟨_, rfl, by rw [List.length_append, List.length_append, List.length_singleton]; omega, fun x hm => ?_⟩
  rcases List.mem_append.1 hm with hm | hm
  ·rcases List.mem_append.1 hm with hm | hm
   ·exact hl.2 x (List.mem_of_mem_take hm)
   ·rw [List.mem_singleton.1 hm]
    exact ⟨hx.a, by show 1 ≤ ts.length; omega, by show ts.length ≤ 4; omega, tm, hx.body⟩
  ·exact hl.2 x (List.mem_of_mem_drop hm)
 ·rw [if_neg z, if_pos (by omega), if_pos (by omega), if_pos (by omega)]
  refine ⟨_, rfl, by rw [List.length_append]; omega, fun x hm => ?_⟩
  rcases List.mem_append.1 hm with hm | hm
  ·exact hl.2 x (List.mem_of_mem_take hm)
  ·exact hl.2 x (List.mem_of_mem_drop hm)
theorem bs3 : ∀ (e i : Nat) (n t : Int), t ≤ 100 → 1 ≤ i → i + e ≤ 1000 → t ≤ i + e → ∃ v, Ev (fun k => R6.l0 k t n (i : Int)) v
 | 0, i, n, t, ht, h1, h2, h3 => ⟨n, Ev.step (f := fun _ => some n) (fun k => by rw [R6.l0, if_neg (by omega)]) (Ev.now _)⟩
 | e + 1, i, n, t, ht, h1, h2, h3 => by
  have w : wrap64 ((i : Int) + 1) = ((i + 1 : Nat) : Int) := by unfold wrap64; omega
  by_cases c : (i : Int) < t
  ·obtain ⟨v, hv⟩ := bs3 e (i + 1) (wrap64 (n * 2)) t ht (by omega) (by omega) (by omega)
   exact ⟨v, Ev.step (fun k => by rw [R6.l0, if_pos c, w]) hv⟩
  ·exact ⟨n, Ev.step (f := fun _ => some n) (fun k => by rw [R6.l0, if_neg c]) (Ev.now _)⟩
theorem cL1 (a : Int) (l : List G9) (hl : OkS l) (at_ k now : Nat) (h1 : at_ < l.length) (h2 : k < l[at_].f2.length) : ∃ a' l' b, Ev (fun n => Z4.f n a l (at_ : Int) (k : Int) (now : Int)) (a', l', b) ∧ OkS l' := by
 have hx := hl.2 _ (List.getElem_mem h1)
 have h4 := hx.t4
 have h10 := hl.1
 have hr := hx.ts _ (List.getElem_mem h2)
 have w1 : wrap64 (l[at_].f2[k].f1 + 1) = l[at_].f2[k].f1 + 1 := by unfold wrap64; omega
 obtain ⟨v, K, hv⟩ := bs3 10 1 2 (l[at_].f2[k].f1 + 1) (by omega) (by omega) (by omega) (by omega)
 have hp : ∀ n, K ≤ n → R6.f n (l[at_].f2[k].f1 + 1) = some v := hv
 have e : ∀ n, K ≤ n → Z4.f n a l (at_ : Int) (k : Int) (now : Int) = if l[at_].f2[k].f1 + 1 ≥ 4 then some (a, l, false) else if wrap64 ((now : Int) + v) > 9999 then some (a, l, false) else some (a, l.set at_ ⟨l[at_].f0, ⟨l[at_].f1.f0, l[at_].f1.f1⟩, (l[at_].f2.set k ⟨⟨l[at_].f2[k].f0.f0, l[at_].f2[k].f0.f1⟩, l[at_].f2[k].f1 + 1, l[at_].f2[k].f2⟩).set k ⟨⟨l[at_].f2[k].f0.f0, l[at_].f2[k].f0.f1⟩, l[at_].f2[k].f1 + 1, wrap64 ((now : Int) + v)⟩, l[at_].f3⟩, true) := by
  intro n hn
  unfold Z4.f
  have g := bs1 (l[at_].f2.set k ⟨⟨l[at_].f2[k].f0.f0, l[at_].f2[k].f0.f1⟩, l[at_].f2[k].f1 + 1, l[at_].f2[k].f2⟩) k (by rw [List.length_set]; exact h2)
  simp only [aO2 l at_ h1, aK1 _ hx, Option.bind_some, bs1 _ k h2, w1, hp n hn, List.nil_append, Int.toNat_natCast, g, List.getElem_set_self]
  rw [if_pos (by omega), if_pos (by omega), if_pos (by omega), if_pos (by omega)]
  by_cases c1 : l[at_].f2[k].f1 + 1 ≥ 4
  ·rw [if_pos c1, if_pos c1]
  rw [if_neg c1, if_neg c1]
  by_cases c2 : wrap64 ((now : Int) + v) > 9999
  ·rw [if_pos c2, if_pos c2]
  rw [if_neg c2, if_neg c2, if_pos (by simp; omega), if_pos (by omega)]
 by_cases c1 : l[at_].f2[k].f1 + 1 ≥ 4
 ·exact ⟨a, l, false, Ev.exact K fun n hn => by rw [e n hn, if_pos c1], hl⟩
 by_cases c2 : wrap64 ((now : Int) + v) > 9999
 ·exact ⟨a, l, false, Ev.exact K fun n hn => by rw [e n hn, if_neg c1, if_pos c2], hl⟩
 refine ⟨_, _, true, Ev.exact K fun n hn => by rw [e n hn, if_neg c1, if_neg c2], by rw [List.length_set]; omega, fun x hm => ?_⟩
 rcases List.mem_or_eq_of_mem_set hm with hm | rfl
 ·exact hl.2 x hm
 ·refine ⟨hx.a, by show 1 ≤ (List.set _ _ _).length; rw [List.length_set, List.length_set]; exact hx.t1, by show (List.set _ _ _).length ≤ 4; rw [List.length_set, List.length_set]; exact h4, fun r hm => ?_, hx.body⟩
  rcases List.mem_or_eq_of_mem_set hm with hm | rfl
  ·rcases List.mem_or_eq_of_mem_set hm with hm | rfl
   ·exact hx.ts r hm
   ·exact ⟨hr.1, by show 0 ≤ l[at_].f2[k].f1 + 1; omega, by show l[at_].f2[k].f1 + 1 ≤ 3; omega⟩
  ·exact ⟨hr.1, by show 0 ≤ l[at_].f2[k].f1 + 1; omega, by show l[at_].f2[k].f1 + 1 ≤ 3; omega⟩
theorem bC5 (a : Int) (l : List G9) (hl : OkS l) (b : Int) : ∀ (e i : Nat), l.length = i + e → Ev (fun k => N7.l0 k (i : Int) b l a (l.take i)) (a, l)
 | 0, i, hi => Ev.step (f := fun _ => some (a, l)) (fun k => by rw [N7.l0, if_neg (by omega), List.take_of_length_le (by omega)]) (Ev.now _)
 | e + 1, i, hi => by
  have hlt : i < l.length := by omega
  have h10 := hl.1
  have w : wrap64 ((i : Int) + 1) = ((i + 1 : Nat) : Int) := by unfold wrap64; omega
  have h := bC5 a l hl b e (i + 1) (by omega)
  rw [List.take_succ_eq_append_getElem hlt] at h
  refine Ev.step (fun k => ?_) h
  rw [N7.l0, if_pos (by omega), if_pos (by omega), aO2 l i hlt, aK1 _ (hl.2 _ (List.getElem_mem hlt)), Option.bind_some, if_pos (by rw [List.length_take]; omega), w]
theorem cZ7 (a : Int) (l : List G9) (hl : OkS l) : Ev (fun k => N7.f k a l) (a, l) := bC5 a l hl a l.length 0 (by omega)
theorem bs4 {s : List Int} (hs : Byt s) : ∀ (n : Nat) (now : Nat) (a : Int) (l : List G9) (p : Int), OkS l → now + 5 * n ≤ 1000 → 0 ≤ p → p + 40 * n ≤ 500000 → ∃ a' l' q, Ev (fun k => B0.l0 k (now : Int) (n : Int) s p a l) (a', l', q) ∧ OkS l' ∧ p ≤ q ∧ q ≤ p + 40 * n
 | 0, now, a, l, p, hl, hn, h0, h1 => ⟨a, l, p, Ev.step (f := fun k => (N7.f k a l).bind fun t => some (t.1, t.2, p)) (fun k => by rw [B0.l0, if_neg (by omega)]) (Ev.bind (cZ7 a l hl) (Ev.now _)), hl, by omega, by omega⟩
 | n + 1, now, a, l, p, hl, hn, h0, h1 => by
  obtain ⟨t, ht, t0, t1⟩ := a68 hs h0 (by omega) (n := 5) (by omega)
  obtain ⟨m, rfl⟩ := Int.eq_ofNat_of_zero_le t0
  have w : wrap64 ((now : Int) + (m : Int)) = ((now + m : Nat) : Int) := by unfold wrap64; omega
  have w2 : wrap64 (((n + 1 : Nat) : Int) - 1) = (n : Int) := by unfold wrap64; omega
  have nxt : ∀ (a : Int) (l : List G9) (p' : Int), OkS l → p ≤ p' → p' ≤ p + 36 → ∃ a' l' q, Ev (fun k => B0.l0 k ((now + m : Nat) : Int) (n : Int) s p' a l) (a', l', q) ∧ OkS l' ∧ p ≤ q ∧ q ≤ p + 40 * ((n + 1 : Nat) : Int) := fun a l p' hl l0 l1 => by
   obtain ⟨a', l', q, h, h2, h3, h4⟩ := bs4 hs n (now + m) a l p' hl (by omega) (by omega) (by omega)
   exact ⟨a', l', q, h, h2, by omega, by omega⟩
  have add : ∀ p', p ≤ p' → p' ≤ p + 2 → ∃ a' l' q, Ev (fun k => B0.j1 k ((now + m : Nat) : Int) ((n + 1 : Nat) : Int) true s p' a l) (a', l', q) ∧ OkS l' ∧ p ≤ q ∧ q ≤ p + 40 * ((n + 1 : Nat) : Int) := fun p' l0 l1 => by
   by_cases r : (decide ((l.length : Int) < 10) && decide (a < 999)) = true
   ·have r' := r
    rw [Bool.and_eq_true, decide_eq_true_eq] at r'
    obtain ⟨u, d, ts, body, q, hq, hm, q0, q1⟩ := cf6 hs (p := p') (by omega) (by omega)
    obtain ⟨a1, l1', h1', ok1⟩ := dy4 a l hl (by omega) hm ((now + m : Nat) : Int)
    obtain ⟨a', l', q', h', ok', z0, z1⟩ := nxt a1 l1' q ok1 (by omega) (by omega)
    refine ⟨a', l', q', Ev.step (f := fun k => (C4.f k s p').bind fun x => (F2.f k a l x.1 x.2.1 x.2.2.1 x.2.2.2.1 ((now + m : Nat) : Int)).bind fun y => B0.l0 k ((now + m : Nat) : Int) (wrap64 (((n + 1 : Nat) : Int) - 1)) s x.2.2.2.2 y.1 y.2) (fun k => by rw [B0.j1, if_pos rfl, bs2, Option.bind_some, if_pos r]) (Ev.bind hq (Ev.bind h1' ?_)), ok', z0, z1⟩
    rw [w2]
    exact h'
   ·obtain ⟨a', l', q', h', ok', z0, z1⟩ := nxt a l p' hl (by omega) (by omega)
    refine ⟨a', l', q', Ev.step (f := fun k => B0.l0 k ((now + m : Nat) : Int) (wrap64 (((n + 1 : Nat) : Int) - 1)) s p' a l) (fun k => by rw [B0.j1, if_pos rfl, bs2, Option.bind_some, if_neg r]) ?_, ok', z0, z1⟩
    rw [w2]
    exact h'
  have turn : 1 ≤ l.length → ∀ p', p ≤ p' → p' ≤ p + 2 → ∃ a' l' q, Ev (fun k => B0.j1 k ((now + m : Nat) : Int) ((n + 1 : Nat) : Int) false s p' a l) (a', l', q) ∧ OkS l' ∧ p ≤ q ∧ q ≤ p + 40 * ((n + 1 : Nat) : Int) := fun hne p' l0 l1 => by
   obtain ⟨x, hx, x0, x1⟩ := a68 hs (p := p') (by omega) (by omega) (n := (l.length : Int)) (by omega)
   obtain ⟨i, rfl⟩ := Int.eq_ofNat_of_zero_le x0
   have hi : i < l.length := by omega
   have hI := hl.2 _ (List.getElem_mem hi)
   have ht1 := hI.t1
   obtain ⟨y, hy, y0, y1⟩ := a68 hs (p := p' + 1) (by omega) (by omega) (n := (l[i].f2.length : Int)) (by omega)
   obtain ⟨j, rfl⟩ := Int.eq_ofNat_of_zero_le y0
   obtain ⟨z, hz, z0, z1⟩ := a68 hs (p := p' + 1 + 1) (by omega) (by omega) (n := 2) (by omega)
   by_cases c : z = 0
   ·obtain ⟨l1', h1', ok1⟩ := c43 a l hl i j hi (by omega)
    obtain ⟨a', l', q', h', ok', e0, e1⟩ := nxt a l1' (p' + 1 + 1 + 1) ok1 (by omega) (by omega)
    refine ⟨a', l', q', Ev.step (f := fun k => (l6.f k s p' (l.length : Int)).bind fun x => if 0 ≤ x.1 then (if x.1 < (l.length : Int) then (l6.f k s x.2 (((o9 l x.1).f2).length : Int)).bind fun y => (l6.f k s y.2 2).bind fun z => if z.1 = 0 then (Q0.f a l x.1 y.1).bind fun t => B0.l0 k ((now + m : Nat) : Int) (wrap64 (((n + 1 : Nat) : Int) - 1)) s z.2 t.1 t.2 else (Z4.f k a l x.1 y.1 ((now + m : Nat) : Int)).bind fun t => B0.l0 k ((now + m : Nat) : Int) (wrap64 (((n + 1 : Nat) : Int) - 1)) s z.2 t.1 t.2.1 else none) else none) (fun k => by rw [B0.j1, if_neg (by decide)]) ?_, ok', e0, e1⟩
    refine Ev.bind hx (Ev.congr (f := fun k => (l6.f k s (p' + 1) (l[i].f2.length : Int)).bind fun y => (l6.f k s y.2 2).bind fun z => if z.1 = 0 then (Q0.f a l (i : Int) y.1).bind fun t => B0.l0 k ((now + m : Nat) : Int) (wrap64 (((n + 1 : Nat) : Int) - 1)) s z.2 t.1 t.2 else (Z4.f k a l (i : Int) y.1 ((now + m : Nat) : Int)).bind fun t => B0.l0 k ((now + m : Nat) : Int) (wrap64 (((n + 1 : Nat) : Int) - 1)) s z.2 t.1 t.2.1) (fun k => by dsimp only; rw [if_pos (by omega), if_pos (by omega), aO2 l i hi]) ?_)
    refine Ev.bind hy (Ev.bind hz (Ev.congr (fun k => ?_) h'))
    dsimp only
    rw [if_pos c, h1', Option.bind_some, w2]
   ·obtain ⟨a1, l1', b1, h1', ok1⟩ := cL1 a l hl i j (now + m) hi (by omega)
    obtain ⟨a', l', q', h', ok', e0, e1⟩ := nxt a1 l1' (p' + 1 + 1 + 1) ok1 (by omega) (by omega)
    refine ⟨a', l', q', Ev.step (f := fun k => (l6.f k s p' (l.length : Int)).bind fun x => if 0 ≤ x.1 then (if x.1 < (l.length : Int) then (l6.f k s x.2 (((o9 l x.1).f2).length : Int)).bind fun y => (l6.f k s y.2 2).bind fun z => if z.1 = 0 then (Q0.f a l x.1 y.1).bind fun t => B0.l0 k ((now + m : Nat) : Int) (wrap64 (((n + 1 : Nat) : Int) - 1)) s z.2 t.1 t.2 else (Z4.f k a l x.1 y.1 ((now + m : Nat) : Int)).bind fun t => B0.l0 k ((now + m : Nat) : Int) (wrap64 (((n + 1 : Nat) : Int) - 1)) s z.2 t.1 t.2.1 else none) else none) (fun k => by rw [B0.j1, if_neg (by decide)]) ?_, ok', e0, e1⟩
    refine Ev.bind hx (Ev.congr (f := fun k => (l6.f k s (p' + 1) (l[i].f2.length : Int)).bind fun y => (l6.f k s y.2 2).bind fun z => if z.1 = 0 then (Q0.f a l (i : Int) y.1).bind fun t => B0.l0 k ((now + m : Nat) : Int) (wrap64 (((n + 1 : Nat) : Int) - 1)) s z.2 t.1 t.2 else (Z4.f k a l (i : Int) y.1 ((now + m : Nat) : Int)).bind fun t => B0.l0 k ((now + m : Nat) : Int) (wrap64 (((n + 1 : Nat) : Int) - 1)) s z.2 t.1 t.2.1) (fun k => by dsimp only; rw [if_pos (by omega), if_pos (by omega), aO2 l i hi]) ?_)
    refine Ev.bind hy (Ev.bind hz (Ev.congr (f := fun k => (Z4.f k a l (i : Int) (j : Int) ((now + m : Nat) : Int)).bind fun t => B0.l0 k ((now + m : Nat) : Int) (n : Int) s (p' + 1 + 1 + 1) t.1 t.2.1) (fun k => ?_) (Ev.bind h1' h')))
    dsimp only
    rw [if_neg c, w2]
  by_cases e : (l.length : Int) = 0
  ·obtain ⟨a', l', q', h', ok', z0, z1⟩ := add (p + 1) (by omega) (by omega)
   exact ⟨a', l', q', Ev.step (f := fun k => (l6.f k s p 5).bind fun x => B0.j1 k (wrap64 ((now : Int) + x.1)) ((n + 1 : Nat) : Int) true s x.2 a l) (fun k => by rw [B0.l0, if_pos (by omega)]; simp only [if_pos e]) (Ev.bind ht (Ev.congr (fun k => by dsimp only; rw [w]) h')), ok', z0, z1⟩
  ·obtain ⟨v, hv, v0, v1⟩ := a68 hs (p := p + 1) (by omega) (by omega) (n := 2) (by omega)
   have h' : ∃ a' l' q, Ev (fun k => B0.j1 k ((now + m : Nat) : Int) ((n + 1 : Nat) : Int) (v == 0) s (p + 1 + 1) a l) (a', l', q) ∧ OkS l' ∧ p ≤ q ∧ q ≤ p + 40 * ((n + 1 : Nat) : Int) := by
    by_cases c : v = 0
    ·rw [beq_iff_eq.2 c]; exact add (p + 1 + 1) (by omega) (by omega)
    ·rw [beq_eq_false_iff_ne.2 c]; exact turn (by omega) (p + 1 + 1) (by omega) (by omega)
   obtain ⟨a', l', q', h', ok', z0, z1⟩ := h'
   exact ⟨a', l', q', Ev.step (f := fun k => (l6.f k s p 5).bind fun x => (l6.f k s x.2 2).bind fun y => B0.j1 k (wrap64 ((now : Int) + x.1)) ((n + 1 : Nat) : Int) (y.1 == 0) s y.2 a l) (fun k => by rw [B0.l0, if_pos (by omega)]; simp only [if_neg e]) (Ev.bind ht (Ev.bind hv (Ev.congr (fun k => by dsimp only; rw [w]) h'))), ok', z0, z1⟩
theorem cL2 {s : List Int} (hs : Byt s) : ∃ a l q, Ev (fun k => B0.f k s 0) (a, l, q) ∧ OkS l ∧ 0 ≤ q ∧ q ≤ 400 := by
 obtain ⟨v, hv, v0, v1⟩ := a68 hs (p := 0) (by omega) (by omega) (n := 9) (by omega)
 obtain ⟨n, rfl⟩ := Int.eq_ofNat_of_zero_le v0
 obtain ⟨a, l, q, h, ok, q0, q1⟩ := bs4 hs n 0 0 [] (0 + 1) ⟨by simp, fun _ h => by cases h⟩ (by omega) (by omega) (by omega)
 exact ⟨a, l, q, Ev.bind hv h, ok, by omega, by omega⟩
theorem cL3 {s : List Int} (hs : Byt s) {p : Int} (h0 : 0 ≤ p) (h1 : p ≤ 1000) (a : Int) {l : List G9} (hl : OkS l) : ∃ id u d q, Ev (fun k => Y7.f k s p a l) (id, u, d, q) ∧ Sm u ∧ Sm d ∧ p ≤ q ∧ q ≤ p + 10 := by
 have free : ∀ p', p ≤ p' → p' ≤ p + 1 → ∃ id u d q, Ev (fun k => Y7.j k true s p' l) (id, u, d, q) ∧ Sm u ∧ Sm d ∧ p ≤ q ∧ q ≤ p + 10 := fun p' l0 l1 => by
  obtain ⟨x, hx, _⟩ := a68 hs (p := p') (by omega) (by omega) (n := 4) (by omega)
  obtain ⟨u, d, hu, su, sd⟩ := bI0 hs (p := p' + 1) (by omega) (by omega)
  exact ⟨x, u, d, p' + 1 + 2, Ev.congr (fun k => by unfold Y7.j; rw [if_pos rfl]) (Ev.bind hx (Ev.bind hu (Ev.now (x, u, d, p' + 1 + 2)))), su, sd, by omega, by omega⟩
 unfold Y7.f
 by_cases e : (l.length : Int) = 0
 ·simp only [if_pos e]
  exact free p (by omega) (by omega)
 ·simp only [if_neg e]
  obtain ⟨v, hv, v0, v1⟩ := a68 hs h0 (by omega) (n := 6) (by omega)
  by_cases c : v = 0
  ·obtain ⟨id, u, d, q, h, r⟩ := free (p + 1) (by omega) (by omega)
   exact ⟨id, u, d, q, Ev.bind hv (Ev.congr (fun k => by dsimp only; rw [beq_iff_eq.2 c]) h), r⟩
  ·obtain ⟨x, hx, x0, x1⟩ := a68 hs (p := p + 1) (by omega) (by omega) (n := (l.length : Int)) (by omega)
   obtain ⟨i, rfl⟩ := Int.eq_ofNat_of_zero_le x0
   have hi : i < l.length := by omega
   have hI := hl.2 _ (List.getElem_mem hi)
   have ht1 := hI.t1
   obtain ⟨y, hy, y0, y1⟩ := a68 hs (p := p + 1 + 1) (by omega) (by omega) (n := (l[i].f2.length : Int)) (by omega)
   obtain ⟨j, rfl⟩ := Int.eq_ofNat_of_zero_le y0
   have hj : j < l[i].f2.length := by omega
   have hr := (hI.ts _ (List.getElem_mem hj)).1
   refine ⟨l[i].f0, l[i].f2[j].f0.f0, l[i].f2[j].f0.f1, p + 1 + 1 + 1, Ev.bind hv (Ev.congr (fun k => by dsimp only; rw [beq_eq_false_iff_ne.2 c]; unfold Y7.j; rw [if_neg (by decide)]) (Ev.bind hx (Ev.congr (fun k => by dsimp only; rw [if_pos (by omega), if_pos (by omega), aO2 l i hi, if_neg (by omega)]) (Ev.bind hy (Ev.congr (fun k => by dsimp only; rw [if_pos (by omega), if_pos (by omega), bs1 _ j hj]) (Ev.now _)))))), hr.1, hr.2, by omega, by omega⟩
end Go.Proofs.YtbncnjgflhoneaaGreatDoor.Hand
namespace Go.Proofs.YtbncnjgflhoneaaGreatDoor.F
open Go.RowKit Go.Proofs.YtbncnjgflhoneaaGreatDoor.Hand Go.Proofs.YtbncnjgflhoneaaGreatDoorW.l8 Go.Proofs.YtbncnjgflhoneaaGreatDoorW.s9 Go.Proofs.YtbncnjgflhoneaaGreatDoorW.y9
mutual
def G5.l0 : Nat → ByteArray → Int → Int → List ByteArray → Int → Int → Option (List ByteArray)
 | 0, _, _, _, _, _, _ => none
 | k + 1, x0, x1, x2, x7, x8, x9 => if x9 < (x0.size : Int) then (G5.j1 k x0 x1 x2 x7 x8 x9 (decide ((x7.length : Int) < x2))) else (G5.j1 k x0 x1 x2 x7 x8 x9 false)
def G5.j1 : Nat → ByteArray → Int → Int → List ByteArray → Int → Int → Bool → Option (List ByteArray)
 | 0, _, _, _, _, _, _, _ => none
 | k + 1, x0, x1, x2, x7, x8, x9, x20 => if x20 = true then (if 0 ≤ x9 then (if x9 < (x0.size : Int) then (if (bt x0 x9) = x1 then (if 0 ≤ x8 then (if x8 ≤ x9 then (if x9 ≤ (x0.size : Int) then (if x7.length < 8796093022208 then (G5.l0 k x0 x1 x2 (x7 ++ [x0.extract (x8 : Int).toNat (x9 : Int).toNat]) (wrap64 (x9 + 1)) (wrap64 (x9 + 1))) else (none)) else (none)) else (none)) else (none)) else (G5.l0 k x0 x1 x2 x7 x8 (wrap64 (x9 + 1)))) else (none)) else (none)) else (if 0 ≤ x8 then (if x8 ≤ (x0.size : Int) then (if x7.length < 8796093022208 then (some (x7 ++ [x0.extract (x8 : Int).toNat x0.size])) else (none)) else (none)) else (none))
end
def G5.f (k : Nat) (a0 : ByteArray) (a1 : Int) (a2 : Int) : Option (List ByteArray) := G5.l0 k a0 a1 a2 (([] : List ByteArray)) 0 0
set_option maxHeartbeats 8000000 in
set_option maxRecDepth 100000 in
theorem G5.calls (k : Nat) (a0 : ByteArray) (a1 : Int) (a2 : Int) (r : List ByteArray) (w : World) (h : G5.f k a0 a1 a2 = some r) :
  Calls Tryz.prog 84 #[.string a0, .int .u8 a1, .int .i64 a2] w fun e w' => ∃ v0_ : Value, e = .returned (v0_) ∧ Kd.R Kd.string 9 w' w.heap.size (fun _ => True) v0_ r ∧ Below w.heap.size w w' := by
 have HB := j4.mk (Below.refl w.heap.size w)
 have H := h
 clear h
 unfold G5.f at H
 first | (with_reducible replace H := bns H; obtain ⟨b69, ap3, H⟩ := H) | (generalize V5 : (([] : List ByteArray) : List ByteArray) = b69 at H; have ap3 := j4.mk V5.symm; clear V5)
 have H' := j4.mk H
 clear H
 go_enter Tryz.func84, Tryz.ntmps84
 go_wp2_with (first | ((with_reducible refine l9 (N := 10) rfl ?_); (try (refine Q4 (by rfl) ?_; dsimp only)); refine Kd.aI8 Kd.string _ 9 ?hg (N := 10) ?hd (xs := ([] : List ByteArray)) (inner := []) (ok := fun _ => True) (okp := fun _ => True) ?hr ?hp (fun _ hk => hk) trivial (Below.refl _ _) (Nat.le_refl _) (by simp) ?_; (case hd => rfl); (case hg => rfl); (case hr => first | (go_simp; done) | (go_simp; rfl)); (case hp => exact (M4.none _ _)); intro bH4 w4 ho5 hb hg_ X3; clear hg_ X3; (first | rw [← ap3.out] at ho5 | (simp only [Int.reduceToNat] at ho5; rw [← ap3.out] at ho5)); have af4 := lS ho5; replace HB := bS hb; clear hb ho5))
 go_loopg [7, 8, 9] k (fun kq v7 v8 v9 w' => ∃ (a26 : List ByteArray) (a13 : Int) (aZ9 : Int), v8 = .int .i64 a13 ∧ v9 = .int .i64 aZ9 ∧ j4 (G5.l0 kq a0 a1 a2 a26 a13 aZ9 = some r) ∧ j4 (kq ≤ k) ∧ j4 (Kd.R Kd.string 9 w' w.heap.size (fun _ => True) v7 a26) ∧ j4 (Below w.heap.size w w'))
 case atStart => exact ⟨(b69), (0), (0), zs, zs, H', ⟨Nat.le_refl _⟩, ⟨rO af4⟩, ⟨zB⟩⟩
 case round =>
  clear H'
  obtain ⟨a26, a13, aZ9, rfl, rfl, HA, HK1, bJ5, HB⟩ := hrel
  cases gk with
  | zero => exact absurd HA.out (by simp [G5.l0])
  | succ k1 =>
   have H := HA.out
   clear HA
   simp only [G5.l0] at H
   have HC6 := j4.mk H
   clear H
   go_upto_region 4 with (fail)
   go_cut [20] (fun v20 wc => ∃ (kq : Nat) (cL4 : Bool), v20 = .bool cL4 ∧ j4 (G5.j1 kq a0 a1 a2 a26 a13 aZ9 cL4 = some r) ∧ j4 (kq ≤ k1) ∧ j4 (Kd.R Kd.string 9 wc w.heap.size (fun _ => True) u7 a26) ∧ j4 (Below w.heap.size w wc))
   case first =>
    have H := HC6.out
    clear HC6
    replace H := K2 H; rcases H with ⟨ak6, H⟩ | ⟨ak6, H⟩
    ·(first | rw [ak6] | (simp only [Z1, aa5]; rw [ak6]) | skip)
     have H' := j4.mk H
     clear H
     obtain ⟨Ao8, co8, eo8⟩ := Kd.s7 bJ5.out
     subst eo8
     go_wp2
     go_meet
     case rel => exact ⟨_, (decide ((a26.length : Int) < a2)), zs, H', ⟨by have := HK1.out; first | omega | exact Nat.le_refl _⟩, ⟨rO bJ5⟩, ⟨zB⟩⟩
    ·(first | rw [ak6] | (simp only [Z1, aa5]; rw [ak6]) | skip)
     have H' := j4.mk H
     clear H
     go_wp2
     go_meet
     case rel => exact ⟨_, (false), zs, H', ⟨by have := HK1.out; first | omega | exact Nat.le_refl _⟩, ⟨rO bJ5⟩, ⟨zB⟩⟩
   case rest =>
    clear HC6
    obtain ⟨kq, cL4, rfl, HA, HJ5, bJ5, HB⟩ := hcut
    cases kq with
    | zero => exact absurd HA.out (by simp [G5.j1])
    | succ kj5 =>
     have H := HA.out
     clear HA
     simp only [G5.j1] at H
     replace H := itb H; rcases H with ⟨rfl, H⟩ | ⟨rfl, H⟩
     ·replace H := S1 H; obtain ⟨aF1, H⟩ := H
      replace H := S1 H; obtain ⟨aV1, H⟩ := H
      replace H := F6 H; rcases H with ⟨al5, aV3, H⟩ | ⟨al5, aV3, H⟩
      ·replace H := Q5 H; obtain ⟨aL5, b24, H⟩ := H
       replace H := Q5 H; obtain ⟨aN7, b79, H⟩ := H
       replace H := Q5 H; obtain ⟨b21, b90, H⟩ := H
       replace H := aj5 H; obtain ⟨dR0, H⟩ := H
       first | (with_reducible replace H := bns H; obtain ⟨aU4, aL4, H⟩ := H) | (generalize V5 : (a26 ++ [a0.extract (a13 : Int).toNat (aZ9 : Int).toNat] : List ByteArray) = aU4 at H; have aL4 := j4.mk V5.symm; clear V5)
       have H' := j4.mk H
       clear H
       have p12 : 0 ≤ (aZ9 : Int) := of_decide_eq_true za
       have q12 : aZ9 < (a0.size : Int) := of_decide_eq_true za
       have cV0 := V4 a0 aZ9
       replace p12 := eq_true p12
       replace q12 := eq_true q12
       go_wp2_with (first | ((with_reducible refine N8 (b := .append) (xs := #[.tmp 28, .tmp 33]) rfl ?_); (try (refine Q4 (by rfl) ?_; dsimp only)); at_builtin; refine Kd.a89 Kd.string (w0 := w) w.heap.size rfl (.tmp 28) (.tmp 33) 25 9 (.string ⟨#[]⟩) 16 rfl Tryz.underlying25 aF0 rfl I1 (by omega) u7 a26 (a0.extract (a13 : Int).toNat (aZ9 : Int).toNat) [.string (a0.extract (a13 : Int).toNat (aZ9 : Int).toNat)] (fun _ => True) (fun _ => False) rfl rfl ?aP (fun _ hk => hk.elim) ?aF ?aO ?aB ?aS ?aL ?_; (case aP => exact rfl); (case aB => exact zB); (case aF => exact (fun _ _ => trivial)); (case aO => exact (rO bJ5)); (case aS => exact (bZ)); (case aL => have := dR0.out; omega); intro v105 w18 ho hb hg hat; rw [← aL4.out] at ho; have P5 := j4.mk (hb); have P6 := j4.mk (ho); clear HB bJ5; have HB := P5; have N0 := P6; clear P5 P6 ho hb hg hat))
       go_roundg kj5
       case measure => have := HK1.out; have := HJ5.out; omega
       case rel => exact ⟨(aU4), (wrap64 (aZ9 + 1)), (wrap64 (aZ9 + 1)), zs, zs, H', ⟨by have := HK1.out; have := HJ5.out; omega⟩, ⟨rO N0⟩, ⟨zB⟩⟩
      ·have H' := j4.mk H
       clear H
       have p12 : 0 ≤ (aZ9 : Int) := of_decide_eq_true za
       have q12 : aZ9 < (a0.size : Int) := of_decide_eq_true za
       have cV0 := V4 a0 aZ9
       replace p12 := eq_true p12
       replace q12 := eq_true q12
       go_wp2
       go_roundg kj5
       case measure => have := HK1.out; have := HJ5.out; omega
       case rel => exact ⟨(a26), (a13), (wrap64 (aZ9 + 1)), zs, zs, H', ⟨by have := HK1.out; have := HJ5.out; omega⟩, ⟨rO bJ5⟩, ⟨zB⟩⟩
     ·replace H := Q5 H; obtain ⟨aD4, bf3, H⟩ := H
      replace H := Q5 H; obtain ⟨aL3, b22, H⟩ := H
      replace H := aj5 H; obtain ⟨cL5, H⟩ := H
      first | (with_reducible replace H := bns H; obtain ⟨aa4, bq1, H⟩ := H) | (generalize V5 : (a26 ++ [a0.extract (a13 : Int).toNat a0.size] : List ByteArray) = aa4 at H; have bq1 := j4.mk V5.symm; clear V5)
      obtain rfl := Option.some.inj H
      go_wp2_with (first | ((with_reducible refine N8 (b := .append) (xs := #[.tmp 37, .tmp 41]) rfl ?_); (try (refine Q4 (by rfl) ?_; dsimp only)); at_builtin; refine Kd.a89 Kd.string (w0 := w) w.heap.size rfl (.tmp 37) (.tmp 41) 25 9 (.string ⟨#[]⟩) 16 rfl Tryz.underlying25 aF0 rfl I1 (by omega) u7 a26 (a0.extract (a13 : Int).toNat a0.size) [.string (a0.extract (a13 : Int).toNat a0.size)] (fun _ => True) (fun _ => False) rfl rfl ?aP (fun _ hk => hk.elim) ?aF ?aO ?aB ?aS ?aL ?_; (case aP => exact rfl); (case aB => exact zB); (case aF => exact (fun _ _ => trivial)); (case aO => exact (rO bJ5)); (case aS => exact (bZ)); (case aL => have := cL5.out; omega); intro aV9 w22 ho hb hg hat; rw [← bq1.out] at ho; have P5 := j4.mk (hb); have P6 := j4.mk (ho); clear HB bJ5; have HB := P5; have y8 := P6; clear P5 P6 ho hb hg hat))
      go_ret
      exact ⟨_, zr, rO y8, zB⟩
def S0.l0 : Nat → List ByteArray → Int → Option (Bool)
 | 0, _, _ => none
 | k + 1, x3, x4 => if x4 < (x3.length : Int) then (if 0 ≤ x4 then ((P9.f k (H9 ByteArray.empty x3 x4)).bind fun t105 => (if t105 = true then (S0.l0 k x3 (wrap64 (x4 + 1))) else (some false))) else (none)) else (some (decide ((x3.length : Int) ≤ 3)))
def S0.f (k : Nat) (a0 : ByteArray) : Option (Bool) := (G5.f k a0 46 3).bind fun t101 => (S0.l0 k t101 0)
set_option maxHeartbeats 8000000 in
set_option maxRecDepth 100000 in
theorem S0.calls (k : Nat) (a0 : ByteArray) (r : Bool) (w : World) (h : S0.f k a0 = some r) :
  Calls Tryz.prog 102 #[.string a0] w fun e w' => e = .returned (.bool r) ∧ Below w.heap.size w w' := by
 have HB := j4.mk (Below.refl w.heap.size w)
 have H := h
 clear h
 unfold S0.f at H
 replace H := S2 H; obtain ⟨t101, A2, H⟩ := H
 have H' := j4.mk H
 clear H
 go_enter Tryz.func102, Tryz.ntmps102
 go_wp2_with (first | ((with_reducible refine j6 (f := 84) rfl ?_); refine gl 6 Tryz.func84 _ ((G5.calls (w := _) (h := A2.out)).mono ?_); rintro e w3 ⟨bH4, rfl, ho0, hb⟩; refine ⟨_, rfl, ?_⟩; have af4 := lS ho0; replace HB := bS hb; clear hb ho0))
 go_loopg [4] k (fun kq v4 w' => ∃ (I3 : Int), v4 = .int .i64 I3 ∧ j4 (S0.l0 kq t101 I3 = some r) ∧ j4 (kq ≤ k) ∧ j4 (Kd.R Kd.string 9 w' w.heap.size (fun _ => True) bH4 t101) ∧ j4 (Below w.heap.size w w'))
 case atStart => exact ⟨(0), zs, H', ⟨Nat.le_refl _⟩, ⟨rO af4⟩, ⟨zB⟩⟩
 case round =>
  clear H'
  obtain ⟨I3, rfl, HA, HK1, aN0, HB⟩ := hrel
  cases gk with
  | zero => exact absurd HA.out (by simp [S0.l0])
  | succ k1 =>
   have H := HA.out
   clear HA
   simp only [S0.l0] at H
   replace H := K2 H; rcases H with ⟨aD2, H⟩ | ⟨aD2, H⟩
   ·replace H := S1 H; obtain ⟨ap1, H⟩ := H
    replace H := S2 H; obtain ⟨t105, A6, H⟩ := H
    replace H := itb H; rcases H with ⟨rfl, H⟩ | ⟨rfl, H⟩
    ·have H' := j4.mk H
     clear H
     obtain ⟨Ao8, co8, eo8⟩ := Kd.s7 aN0.out
     subst eo8
     have au1 : 0 ≤ (I3 : Int) := of_decide_eq_true za
     have au2 : I3 < (t101.length : Int) := of_decide_eq_true za
     obtain ⟨av1, b40, af5⟩ := Kd.E5 (Kd.y7 aN0.out).2.2 I3 au1 au2
     cases b40
     replace au1 := eq_true au1
     replace au2 := eq_true au2
     go_wp2_with (first | ((with_reducible refine j6 (f := 101) rfl ?_); refine gv 17 Tryz.func101 _ (P9.calls (w := _) (h := A6.out)) ?_; rintro w' ⟨nd, rfl⟩))
     go_roundg k1
     case measure => have := HK1.out; omega
     case rel => exact ⟨(wrap64 (I3 + 1)), zs, H', ⟨by have := HK1.out; omega⟩, ⟨rO aN0⟩, ⟨zB⟩⟩
    ·obtain rfl := Option.some.inj H
     obtain ⟨Ao9, co9, eo9⟩ := Kd.s7 aN0.out
     subst eo9
     have au1 : 0 ≤ (I3 : Int) := of_decide_eq_true za
     have au2 : I3 < (t101.length : Int) := of_decide_eq_true za
     obtain ⟨av1, b40, af5⟩ := Kd.E5 (Kd.y7 aN0.out).2.2 I3 au1 au2
     cases b40
     replace au1 := eq_true au1
     replace au2 := eq_true au2
     go_wp2_with (first | ((with_reducible refine j6 (f := 101) rfl ?_); refine gv 17 Tryz.func101 _ (P9.calls (w := _) (h := A6.out)) ?_; rintro w' ⟨nd, rfl⟩))
     go_ret
     exact ⟨zr, zB⟩
   ·obtain rfl := Option.some.inj H
    obtain ⟨cL6, cv7, cL7⟩ := Kd.s7 aN0.out
    subst cL7
    go_wp2
    go_ret
    exact ⟨zr, zB⟩
end Go.Proofs.YtbncnjgflhoneaaGreatDoor.F
namespace Go.Proofs.YtbncnjgflhoneaaGreatDoor.F
open Go.RowKit Go.Proofs.YtbncnjgflhoneaaGreatDoor.Hand Go.Proofs.YtbncnjgflhoneaaGreatDoorW.l8 Go.Proofs.YtbncnjgflhoneaaGreatDoorW.s9 Go.Proofs.YtbncnjgflhoneaaGreatDoorW.y9
def D4.f (k : Nat) (r0 : ByteArray) (D2 : ByteArray) : Option (Bool) := (P9.f k r0).bind fun t102 => (if t102 = true then ((S0.f k D2).bind fun t103 => (some t103)) else (some false))
set_option maxHeartbeats 8000000 in
set_option maxRecDepth 100000 in
theorem D4.calls (k : Nat) (r0 : ByteArray) (D2 : ByteArray) (r : Bool) (w : World) (h : D4.f k r0 D2 = some r) :
  Calls Tryz.prog 58 #[.agg #[.string r0, .string D2]] w fun e w' => e = .returned (.bool r) ∧ Below w.heap.size w w' := by
 have as2 := Tryz.underlying32
 have HB := j4.mk (Below.refl w.heap.size w)
 have H := h
 clear h
 unfold D4.f at H
 replace H := S2 H; obtain ⟨t102, A2, H⟩ := H
 replace H := itb H; rcases H with ⟨rfl, H⟩ | ⟨rfl, H⟩
 ·replace H := S2 H; obtain ⟨t103, A4, H⟩ := H
  obtain rfl := Option.some.inj H
  go_enter Tryz.func58, Tryz.ntmps58
  go_wp2_with (first | ((with_reducible refine l9 (N := 1) rfl ?_); refine bx (cs := #[.string r0, .string D2]) (t := 32) ?_; intro j8 hg w5 o8 hb; have j5 := j4.mk (o8); have L8 := gS hg; have J7 := gS hg; replace HB := bS hb; clear hb o8 hg; have ct4 := cz2 j5.out; have ct5 := fz2 j5.out) | ((with_reducible refine j6 (f := 101) rfl ?_); refine gv 5 Tryz.func101 _ (P9.calls (w := _) (h := A2.out)) ?_; rintro w' ⟨nd, rfl⟩) | (go_at_call 102; with_reducible refine (S0.calls (w := _) (h := A4.out)).mono ?_; rintro e w7 ⟨rfl, hb⟩; replace j5 := kS j5 hb; replace HB := bS hb; clear hb))
  go_ret
  exact ⟨zr, zB⟩
 ·obtain rfl := Option.some.inj H
  go_enter Tryz.func58, Tryz.ntmps58
  go_wp2_with (first | ((with_reducible refine l9 (N := 1) rfl ?_); refine bx (cs := #[.string r0, .string D2]) (t := 32) ?_; intro j8 hg w8 o8 hb; have j5 := j4.mk (o8); have L8 := gS hg; have J7 := gS hg; replace HB := bS hb; clear hb o8 hg; have bZ0 := cz2 j5.out; have bZ1 := fz2 j5.out) | ((with_reducible refine j6 (f := 101) rfl ?_); refine gv 5 Tryz.func101 _ (P9.calls (w := _) (h := A2.out)) ?_; rintro w' ⟨nd, rfl⟩))
  go_ret
  exact ⟨zr, zB⟩
end Go.Proofs.YtbncnjgflhoneaaGreatDoor.F
namespace Go.Proofs.YtbncnjgflhoneaaGreatDoor.Hand
open Go.RowKit Go.Proofs.YtbncnjgflhoneaaGreatDoor.F Go.Proofs.YtbncnjgflhoneaaGreatDoorW.l8 Go.Proofs.YtbncnjgflhoneaaGreatDoorW.s9 Go.Proofs.YtbncnjgflhoneaaGreatDoorW.y9
def B (l : List UInt8) : ByteArray := ⟨l.toArray⟩
theorem M5 (l : List UInt8) : (B l).data.toList = l := by simp [B]
theorem D8 (l : List UInt8) : (B l).size = l.length := by rw [← E3, M5]
theorem aW5 (s : ByteArray) : B s.data.toList = s := by cases s; simp [B]
theorem toL (s : ByteArray) : s.toList = s.data.toList := Lib.toList_data s
theorem ab7 (l : List UInt8) : (B l).toList = l := by rw [toL, M5]
theorem as9 {s : ByteArray} {l : List UInt8} (h : s.data.toList = l) : s = B l := by rw [← h, aW5]
def front (p : List UInt8) : List (List UInt8) → List (List UInt8)
 | [] => [p]
 | x :: r => (p ++ x) :: r
theorem bT5 (p q : List UInt8) (L : List (List UInt8)) : front p (front q L) = front (p ++ q) L := by
 cases L <;> simp [front]
theorem bC6 (L : List (List UInt8)) (h : L ≠ []) : front [] L = L := by
 cases L with
 | nil => exact absurd rfl h
 | cons x r => simp [front]
theorem aS2 (p : List UInt8) (L : List (List UInt8)) (h : L ≠ []) : (front p L).length = L.length := by
 cases L with
 | nil => exact absurd rfl h
 | cons x r => simp [front]
def cutAt (c : UInt8) : List UInt8 → List (List UInt8)
 | [] => [[]]
 | a :: l => if a = c then [] :: cutAt c l else front [a] (cutAt c l)
def ab3 (c : UInt8) : Nat → List UInt8 → List (List UInt8)
 | _, [] => [[]]
 | 0, a :: l => [a :: l]
 | m + 1, a :: l => if a = c then [] :: ab3 c m l else front [a] (ab3 c (m + 1) l)
theorem aO3 (c : UInt8) (l : List UInt8) : cutAt c l ≠ [] := by
 cases l with
 | nil => simp [cutAt]
 | cons a l =>
  rw [cutAt]
  split
  ·simp
  ·cases cutAt c l <;> simp [front]
theorem bc1 (c : UInt8) (l : List UInt8) : ab3 c 0 l = [l] := by cases l <;> rfl
theorem bk1 (c : UInt8) (m : Nat) (l : List UInt8) : ab3 c m l ≠ [] := by
 cases l with
 | nil => cases m <;> simp [ab3]
 | cons a l =>
  cases m with
  | zero => simp [ab3]
  | succ m =>
   rw [ab3]
   split
   ·simp
   ·cases ab3 c (m + 1) l <;> simp [front]
theorem bT6 (c : UInt8) (m : Nat) : ab3 c m [] = [[]] := by cases m <;> rfl
theorem au4 (c : UInt8) : ∀ (l : List UInt8) (m : Nat), ((cutAt c l).length ≤ m + 1 → ab3 c m l = cutAt c l) ∧ (m + 1 < (cutAt c l).length → (ab3 c m l).length = m + 1)
 | [], m => by cases m <;> simp [cutAt, ab3]
 | a :: l, 0 => by
  refine ⟨fun h => ?_, fun _ => by simp [ab3]⟩
  rw [ab3]
  by_cases e : a = c
  ·rw [cutAt, if_pos e] at h
   have := List.length_pos_iff.2 (aO3 c l)
   rw [List.length_cons] at h
   omega
  ·rw [cutAt, if_neg e] at h ⊢
   rw [aS2 _ _ (aO3 c l)] at h
   have h2 := (au4 c l 0).1 h
   rw [← h2, bc1]
   rfl
 | a :: l, m + 1 => by
  rw [ab3, cutAt]
  by_cases e : a = c
  ·rw [if_pos e, if_pos e]
   obtain ⟨h1, h2⟩ := au4 c l m
   refine ⟨fun h => ?_, fun h => ?_⟩
   ·simp at h
    rw [h1 (by omega)]
   ·simp at h
    have := h2 (by omega)
    simp [this]
  ·rw [if_neg e, if_neg e]
   obtain ⟨h1, h2⟩ := au4 c l (m + 1)
   rw [aS2 _ _ (aO3 c l)]
   refine ⟨fun h => by rw [h1 h], fun h => ?_⟩
   rw [aS2 _ _ (bk1 c (m + 1) l)]
   exact h2 h
theorem bs5 (c : UInt8) : ∀ l : List UInt8, c ∉ l → cutAt c l = [l]
 | [], _ => rfl
 | a :: l, h => by
  rw [cutAt, if_neg (fun e => h (by simp [e])), bs5 c l (fun hh => h (by simp [hh]))]
  rfl
theorem bC7 (c : UInt8) (b : List UInt8) : ∀ a : List UInt8, c ∉ a → cutAt c (a ++ c :: b) = a :: cutAt c b
 | [], _ => by rw [List.nil_append, cutAt, if_pos rfl]
 | x :: a, h => by
  rw [List.cons_append, cutAt, if_neg (fun e => h (by simp [e])), bC7 c b a (fun hh => h (by simp [hh]))]
  rfl
theorem index_one (c : UInt8) : ∀ l : List UInt8, (Lib.index l [c] = -1 ∧ c ∉ l) ∨ ∃ i : Nat, Lib.index l [c] = i ∧ c ∉ l.take i ∧ ∃ h : i < l.length, l[i] = c
 | [] => by left; simp [Lib.index]
 | b :: l => by
  by_cases e : c = b
  ·right
   refine ⟨0, ?_, by simp, by simp, by simp [e]⟩
   simp [Lib.index, e]
  ·have hp : [c].isPrefixOf (b :: l) = false := by simp [List.isPrefixOf, e]
   rcases index_one c l with ⟨h1, h2⟩ | ⟨i, h1, h2, h3, h4⟩
   ·left
    refine ⟨by rw [Lib.index, hp, h1]; simp, by simp [e, h2]⟩
   ·right
    refine ⟨i + 1, ?_, ?_, by simp; omega, by simpa using h4⟩
    ·rw [Lib.index, hp, h1]
     have : ¬ ((i : Int) == -1) = true := by simp
     rw [if_neg (by simp), if_neg this]
     omega
    ·simp [e, h2]
theorem bc2 (c : UInt8) : ∀ (n : Nat) (s : ByteArray), s.size ≤ n → (Lib.splitB (B [c]) 0 (Lib.countB s (B [c])) s).map (·.data.toList) = cutAt c s.data.toList := by
 intro n
 induction n with
 | zero =>
  intro s hs
  have hd : s.data.toList = [] := List.eq_nil_of_length_eq_zero (by rw [E3]; omega)
  rcases Lib.indexB_cases s (B [c]) with h | ⟨i, _, hr⟩
  ·rw [Lib.countB_miss _ _ h, Lib.splitB_zero, List.map_singleton, hd]
   rfl
  ·rw [D8] at hr
   simp at hr
   omega
 | succ n ih =>
  intro s hs
  have h1 : 1 ≤ (B [c]).size := by rw [D8]; simp
  have hix : Lib.indexB s (B [c]) = Lib.index s.data.toList [c] := by
   show Lib.index s.data.toList (B [c]).data.toList = _
   rw [M5]
  rcases index_one c s.data.toList with ⟨h, hm⟩ | ⟨i, h, hm, hlt, hc⟩
  ·rw [Lib.countB_miss _ _ (hix.trans h), Lib.splitB_zero, List.map_singleton, bs5 c _ hm]
  ·have hi := hix.trans h
   rw [Lib.countB_hit _ _ i h1 hi, Nat.add_comm 1, Lib.splitB_hit _ _ _ _ i hi, List.map_cons, D8]
   have hl : s.data.toList.length = s.size := E3 s
   rw [ih _ (by simp [ByteArray.size_extract]; omega)]
   have e1 : (s.extract 0 (i + 0)).data.toList = s.data.toList.take i := by rw [Nat.add_zero]; exact Lib.extract_from_zero s i
   have e2 : (s.extract (i + [c].length) s.size).data.toList = s.data.toList.drop (i + 1) := Lib.extract_to_end s (i + 1)
   rw [e1, e2]
   have e3 : s.data.toList = s.data.toList.take i ++ c :: s.data.toList.drop (i + 1) := by
    rw [← hc, ← List.drop_eq_getElem_cons hlt, List.take_append_drop]
   conv => rhs; rw [e3]
   rw [bC7 c _ _ hm]
theorem c47 (d : ByteArray) : ap2 d = (cutAt 46 d.data.toList).map B := by
 have h := bc2 46 _ d (Nat.le_refl _)
 unfold ap2
 rw [← h, List.map_map]
 refine (List.map_id _).symm.trans (List.map_congr_left fun x _ => ?_)
 exact (aW5 x).symm
theorem Z0 (s : ByteArray) (a b : Nat) : (s.extract a b).data.toList = (s.data.toList.take b).drop a := by
 rw [Lib.extract_data]
 simp [List.drop_take]
theorem aN3 (s : ByteArray) (hs : s.size ≤ 1099511627776) (c : UInt8) (most : Nat) (dl7 : most ≤ 1000) : ∀ (d i f : Nat) (out : List ByteArray), s.size = i + d → f ≤ i → out.length ≤ most →
  Ev (fun k => G5.l0 k s (c.toNat : Int) (most : Int) out (f : Int) (i : Int)) (out ++ (front ((s.data.toList.take i).drop f) (ab3 c (most - out.length) (s.data.toList.drop i))).map B) := by
 intro d
 induction d with
 | zero =>
  intro i f out hi hf ho
  have hdl : s.data.toList.length = s.size := E3 s
  refine Ev.step (f := fun k => G5.j1 k s (c.toNat : Int) (most : Int) out (f : Int) (i : Int) false) (fun k => by rw [G5.l0, if_neg (by omega)]) ?_
  refine Ev.step (f := fun _ => some (out ++ [s.extract f s.size])) (fun k => by rw [G5.j1, if_neg (by decide), if_pos (by omega), if_pos (by omega), if_pos (by omega)]; rfl) ?_
  rw [show s.data.toList.drop i = [] from List.drop_eq_nil_of_le (by omega), bT6]
  have : front ((s.data.toList.take i).drop f) [[]] = [(s.data.toList.take i).drop f] := by simp [front]
  rw [this, List.map_singleton, ← as9 (Z0 s f i), show i = s.size by omega]
  exact Ev.now _
 | succ d ih =>
  intro i f out hi hf ho
  have hdl : s.data.toList.length = s.size := E3 s
  have hlt : i < s.data.toList.length := by omega
  refine Ev.step (f := fun k => G5.j1 k s (c.toNat : Int) (most : Int) out (f : Int) (i : Int) (decide ((out.length : Int) < most))) (fun k => by rw [G5.l0, if_pos (by omega)]) ?_
  by_cases hm : out.length < most
  ·rw [decide_eq_true (by omega)]
   obtain ⟨m, hmm⟩ : ∃ m, most - out.length = m + 1 := ⟨most - out.length - 1, by omega⟩
   by_cases hc : s.data.toList[i] = c
   ·refine Ev.step (f := fun k => G5.l0 k s (c.toNat : Int) (most : Int) (out ++ [s.extract f i]) ((i + 1 : Nat) : Int) ((i + 1 : Nat) : Int)) (fun k => by
     rw [G5.j1, if_pos rfl, if_pos (by omega), if_pos (by omega), if_pos (by rw [au0 s i hlt, hc]), if_pos (by omega), if_pos (by omega), if_pos (by omega), if_pos (by omega), Y5 (x := (i : Int) + 1) (by omega) (by omega)]
     rfl) ?_
    have h2 := ih (i + 1) (i + 1) (out ++ [s.extract f i]) (by omega) (Nat.le_refl _) (by simp; omega)
    rw [List.length_append, List.length_singleton, show most - (out.length + 1) = m by omega] at h2
    have e : (s.data.toList.take (i + 1)).drop (i + 1) = [] := List.drop_eq_nil_of_le (by rw [List.length_take]; omega)
    rw [e, bC6 _ (bk1 _ _ _)] at h2
    rw [hmm, List.drop_eq_getElem_cons hlt, ab3, if_pos hc]
    have e2 : front ((s.data.toList.take i).drop f) ([] :: ab3 c m (s.data.toList.drop (i + 1))) = ((s.data.toList.take i).drop f) :: ab3 c m (s.data.toList.drop (i + 1)) := by simp [front]
    rw [e2, List.map_cons, ← as9 (Z0 s f i)]
    simpa using h2
   ·refine Ev.step (f := fun k => G5.l0 k s (c.toNat : Int) (most : Int) out (f : Int) ((i + 1 : Nat) : Int)) (fun k => by
     rw [G5.j1, if_pos rfl, if_pos (by omega), if_pos (by omega), if_neg (by rw [au0 s i hlt]; intro h; exact hc (UInt8.toNat_inj.1 (by omega))), Y5 (x := (i : Int) + 1) (by omega) (by omega)]
     rfl) ?_
    have h2 := ih (i + 1) f out (by omega) (by omega) ho
    rw [hmm] at h2 ⊢
    rw [List.drop_eq_getElem_cons hlt, ab3, if_neg hc, bT5]
    have e : (s.data.toList.take i).drop f ++ [s.data.toList[i]] = (s.data.toList.take (i + 1)).drop f := by
     rw [List.take_succ_eq_append_getElem hlt, List.drop_append_of_le_length (by rw [List.length_take]; omega)]
    rw [e]
    exact h2
  ·rw [decide_eq_false (by omega)]
   refine Ev.step (f := fun _ => some (out ++ [s.extract f s.size])) (fun k => by rw [G5.j1, if_neg (by decide), if_pos (by omega), if_pos (by omega), if_pos (by omega)]; rfl) ?_
   rw [show most - out.length = 0 by omega, bc1]
   have e : front ((s.data.toList.take i).drop f) [s.data.toList.drop i] = [(s.extract f s.size).data.toList] := by
    rw [Z0]
    simp only [front]
    rw [← List.drop_append_of_le_length (by rw [List.length_take]; omega), List.take_append_drop, List.take_of_length_le (by omega)]
   rw [e, List.map_singleton, aW5]
   exact Ev.now _
theorem aY7 (s : ByteArray) (hs : s.size ≤ 1099511627776) (c : UInt8) (most : Nat) (dl7 : most ≤ 1000) : Ev (fun k => G5.f k s (c.toNat : Int) (most : Int)) ((ab3 c most s.data.toList).map B) := by
 have h := aN3 s hs c most dl7 s.size 0 0 [] (by omega) (Nat.le_refl _) (by simp)
 simp only [List.take_zero, List.drop_nil, List.drop_zero, List.length_nil, Nat.sub_zero, List.nil_append] at h
 rw [bC6 _ (bk1 _ _ _)] at h
 exact h
theorem bJ6 (L : List ByteArray) (hL : L.length ≤ 1099511627776) (hs : ∀ s ∈ L, s.size ≤ 1099511627776) : ∀ (d i : Nat), L.length = i + d → Ev (fun k => S0.l0 k L (i : Int)) ((L.drop i).all ap0 && decide (L.length ≤ 3)) := by
 intro d
 induction d with
 | zero =>
  intro i hi
  refine Ev.step (f := fun _ => some (decide ((L.length : Int) ≤ 3))) (fun k => by rw [S0.l0, if_neg (by omega)]) ?_
  rw [List.drop_eq_nil_of_le (by omega), List.all_nil, Bool.true_and, show decide ((L.length : Int) ≤ 3) = decide (L.length ≤ 3) from decide_eq_decide.2 (by omega)]
  exact Ev.now _
 | succ d ih =>
  intro i hi
  have hlt : i < L.length := by omega
  refine Ev.step (f := fun k => (P9.f k L[i]).bind fun t => if t = true then S0.l0 k L ((i + 1 : Nat) : Int) else some false)
   (fun k => by rw [S0.l0, if_pos (by omega), if_pos (by omega), aU9 _ _ _ hlt, Y5 (x := (i : Int) + 1) (by omega) (by omega)]; rfl) ?_
  rw [List.drop_eq_getElem_cons hlt, List.all_cons]
  have h1 := bp2 L[i] (hs _ (List.getElem_mem hlt))
  cases hb : ap0 L[i]
  ·rw [hb] at h1
   exact Ev.call h1 (h := fun _ => some false) (fun n => by rw [if_neg (by decide)]) (Ev.now _)
  ·rw [hb] at h1
   rw [Bool.true_and]
   exact Ev.call h1 (fun n => by rw [if_pos rfl]) (ih (i + 1) (by omega))
theorem cv8 {p : List UInt8} {L : List (List UInt8)} {x : List UInt8} {n : Nat} (hL : ∀ y ∈ L, y.length ≤ n) (hx : x ∈ front p L) : x.length ≤ p.length + n := by
 cases L with
 | nil =>
  simp [front] at hx
  subst hx
  omega
 | cons y r =>
  simp only [front, List.mem_cons] at hx
  rcases hx with rfl | hx
  ·have := hL y (by simp)
   rw [List.length_append]
   omega
  ·have := hL x (by simp [hx])
   omega
theorem b47 (c : UInt8) : ∀ (m : Nat) (l x : List UInt8), x ∈ ab3 c m l → x.length ≤ l.length
 | m, [], x, h => by rw [bT6] at h; simp at h; subst h; simp
 | 0, a :: l, x, h => by simp [ab3] at h; subst h; simp
 | m + 1, a :: l, x, h => by
  rw [ab3] at h
  split at h
  ·rcases List.mem_cons.1 h with rfl | h
   ·simp
   ·have := b47 c m l x h
    simp
    omega
  ·have := cv8 (fun y hy => b47 c (m + 1) l y hy) h
   simp at this ⊢
   omega
theorem cL8 (c : UInt8) (m : Nat) (l : List UInt8) : (ab3 c m l).length ≤ m + 1 := by
 obtain ⟨h1, h2⟩ := au4 c l m
 by_cases h : (cutAt c l).length ≤ m + 1
 ·rw [h1 h]; exact h
 ·rw [h2 (by omega)]; exact Nat.le_refl _
theorem by0 (d : ByteArray) (hd : d.size ≤ 1099511627776) : Ev (fun k => S0.f k d) (aC6 d) := by
 have hc := aY7 d hd 46 3 (by omega)
 have hf := cL8 46 3 d.data.toList
 have h := bJ6 ((ab3 46 3 d.data.toList).map B) (by rw [List.length_map]; omega) (fun s hs => by
  obtain ⟨x, hx, rfl⟩ := List.mem_map.1 hs
  have := b47 46 3 _ x hx
  rw [D8]
  rw [E3] at this
  omega) _ 0 (Nat.zero_add _).symm
 rw [List.drop_zero] at h
 have e : (((ab3 46 3 d.data.toList).map B).all ap0 && decide (((ab3 46 3 d.data.toList).map B).length ≤ 3)) = aC6 d := by
  unfold aC6
  rw [c47]
  obtain ⟨h1, h2⟩ := au4 46 d.data.toList 3
  by_cases g : (cutAt 46 d.data.toList).length ≤ 3 + 1
  ·rw [h1 g]
  ·rw [decide_eq_false (p := ((ab3 46 3 d.data.toList).map B).length ≤ 3) (by rw [List.length_map, h2 (by omega)]; omega), decide_eq_false (p := ((cutAt 46 d.data.toList).map B).length ≤ 3) (by rw [List.length_map]; omega), Bool.and_false, Bool.and_false]
 rw [e] at h
 exact Ev.call hc (fun n => rfl) h
theorem aL6 (u d : ByteArray) (hu : u.size ≤ 1099511627776) (hd : d.size ≤ 1099511627776) : Ev (fun k => D4.f k u d) (U9 u d) := by
 unfold U9
 have h1 := bp2 u hu
 cases hb : ap0 u
 ·rw [hb] at h1
  exact Ev.call h1 (h := fun _ => some false) (fun n => by rw [if_neg (by decide)]) (Ev.now _)
 ·rw [hb] at h1
  rw [Bool.true_and]
  exact Ev.call h1 (fun n => by rw [if_pos rfl]) (Ev.call (by0 d hd) (h := fun _ => some (aC6 d)) (fun n => rfl) (Ev.now _))
end Go.Proofs.YtbncnjgflhoneaaGreatDoor.Hand
namespace Go.Proofs.YtbncnjgflhoneaaGreatDoor.F
open Go.RowKit Go.Proofs.YtbncnjgflhoneaaGreatDoor.Hand Go.Proofs.YtbncnjgflhoneaaGreatDoorW.l8 Go.Proofs.YtbncnjgflhoneaaGreatDoorW.s9 Go.Proofs.YtbncnjgflhoneaaGreatDoorW.y9
attribute [local go_sem high] bz9
mutual
def K7.l0 : Nat → Int → ByteArray → ByteArray → List (G6) → List ByteArray → Option (Bool)
 | 0, _, _, _, _, _ => none
 | k + 1, x3, a14, X5, Y3, ad9 => if x3 < (Y3.length : Int) then (if 0 ≤ x3 then ((D4.f k ((E6 Y3 x3).f0) ((E6 Y3 x3).f1)).bind fun t103 => (if t103 = true then (K7.l1 k x3 0 a14 X5 Y3 ad9) else (some false))) else (none)) else ((D4.f k a14 X5).bind fun t106 => (if t106 = true then ((I9.f (Y3.length : Int) 1 4).bind fun t107 => (if t107 = true then ((F8.f k ad9).bind fun t108 => (some t108)) else (some false))) else ((K1.f a14 X5).bind fun t109 => (if t109 = true then ((I9.f (Y3.length : Int) 1 4).bind fun t110 => (if t110 = true then ((F8.f k ad9).bind fun t111 => (some t111)) else (some false))) else (some false)))))
def K7.l1 : Nat → Int → Int → ByteArray → ByteArray → List (G6) → List ByteArray → Option (Bool)
 | 0, _, _, _, _, _, _ => none
 | k + 1, x3, x4, a14, X5, Y3, ad9 => if x4 < x3 then (if 0 ≤ x4 then (if x4 < (Y3.length : Int) then (if 0 ≤ x3 then (if x3 < (Y3.length : Int) then (if ((((E6 Y3 x4).f0).toList) == (((E6 Y3 x3).f0).toList) && ((((E6 Y3 x4).f1).toList) == (((E6 Y3 x3).f1).toList))) = true then (some false) else (K7.l1 k x3 (wrap64 (x4 + 1)) a14 X5 Y3 ad9)) else (none)) else (none)) else (none)) else (none)) else (K7.l0 k (wrap64 (x3 + 1)) a14 X5 Y3 ad9)
end
def K7.f (k : Nat) (r0 : ByteArray) (D2 : ByteArray) (J2 : List (G6)) (P8 : List ByteArray) : Option (Bool) := K7.l0 k 0 r0 D2 J2 P8
set_option maxHeartbeats 8000000 in
set_option maxRecDepth 100000 in
theorem K7.calls (k : Nat) (r0 : ByteArray) (D2 : ByteArray) (ae6 : Option Addr) (ae1 : Nat) (J2 : List (G6)) (a71 : Option Addr) (a73 : Nat) (P8 : List ByteArray) (r : Bool) (w : World) (a90 : Kd.C k32 w ae6 J2.length J2) (aj7 : J2.length ≤ ae1) (a09 : Kd.C Kd.string w a71 P8.length P8) (a10 : P8.length ≤ a73) (h : K7.f k r0 D2 J2 P8 = some r) :
  Calls Tryz.prog 56 #[.agg #[.string r0, .string D2, .slice ae6 J2.length ae1, .slice a71 P8.length a73]] w fun e w' => e = .returned (.bool r) ∧ Below w.heap.size w w' := by
 have aV0 := Tryz.underlying35
 have as2 := Tryz.underlying32
 have aF5 := j4.mk a90
 have bf4 := j4.mk aj7
 clear a90 aj7
 have ax6 := j4.mk a09
 have aF3 := j4.mk a10
 clear a09 a10
 have HB := j4.mk (Below.refl w.heap.size w)
 have H := h
 clear h
 unfold K7.f at H
 have H' := j4.mk H
 clear H
 go_enter Tryz.func56, Tryz.ntmps56
 go_wp2_with (first | ((with_reducible refine l9 (N := 1) rfl ?_); (try (refine Q4 (by rfl) ?_; dsimp only)); refine bx (cs := #[.string r0, .string D2, .slice ae6 J2.length ae1, .slice a71 P8.length a73]) (t := 35) ?_; intro j8 hg w2 o8 hb; have j5 := j4.mk (o8); have L8 := gS hg; have J7 := gS hg; replace HB := bS hb; clear hb o8 hg))
 repeat (go_quiet (first | ((with_reducible refine l9 (N := 1) rfl ?_); (try (refine Q4 (by rfl) ?_; dsimp only)); refine bx (cs := #[.string r0, .string D2, .slice ae6 J2.length ae1, .slice a71 P8.length a73]) (t := 35) ?_; intro j8 hg w2 o8 hb; have j5 := j4.mk (o8); have L8 := gS hg; have J7 := gS hg; replace HB := bS hb; clear hb o8 hg)); try go_wp2_with (first | ((with_reducible refine l9 (N := 1) rfl ?_); (try (refine Q4 (by rfl) ?_; dsimp only)); refine aN4 ?hg (N := 1) ?hd (cs := #[.string r0, .string D2, .slice ae6 J2.length ae1, .slice a71 P8.length a73]) (t := 35) ?hr ?_; (case hd => rfl); (case hg => rfl); (case hr => first | (go_simp; done) | (go_simp; rfl)); intro j8 hg w2 o8 hb; have P5 := bS hb; have P6 := j4.mk (o8); have n2_ := gS hg; have n3_ := gS hg; clear HB; have HB := P5; have j5 := P6; have L8 := n2_; have J7 := n3_; clear P5 P6 n2_ n3_; clear hb o8 hg)))
 go_loopg [3] k (fun kq v3 w' => ∃ (E8 : Int), v3 = .int .i64 E8 ∧ j4 (K7.l0 kq E8 r0 D2 J2 P8 = some r) ∧ j4 (kq ≤ k) ∧ j4 (w'.heap[j8]? = some (.cells #[.string r0, .string D2, (.slice ae6 J2.length ae1), (.slice a71 P8.length a73)] 35 (0, 0))) ∧ j4 (Below w.heap.size w w'))
 case atStart => exact ⟨(0), zs, H', ⟨Nat.le_refl _⟩, ⟨kQ j5⟩, ⟨zB⟩⟩
 case round =>
  clear H'
  obtain ⟨E8, rfl, HA, HK1, j5, HB⟩ := hrel
  cases gk with
  | zero => exact absurd HA.out (by simp [K7.l0])
  | succ k1 =>
   have H := HA.out
   clear HA
   simp only [K7.l0] at H
   replace H := K2 H; rcases H with ⟨aD1, H⟩ | ⟨aD1, H⟩
   ·replace H := S1 H; obtain ⟨aD2, H⟩ := H
    replace H := S2 H; obtain ⟨t103, A5, H⟩ := H
    replace H := itb H; rcases H with ⟨rfl, H⟩ | ⟨rfl, H⟩
    ·have H' := j4.mk H
     clear H
     have dx2 := cz4 j5.out
     have dx3 := fz4 j5.out
     have aA4 : 0 ≤ (E8 : Int) := of_decide_eq_true za
     have aA5 : E8 < (J2.length : Int) := of_decide_eq_true za
     obtain ⟨aT8, bb5, at2, aS3⟩ := as1 aF5.out E8 aA4 aA5
     cases bb5
     replace at2 := kx HB at2
     replace aS3 := kx HB aS3
     replace aA4 := eq_true aA4
     replace aA5 := eq_true aA5
     go_wp2_with (first | (go_at_call 58; with_reducible refine (D4.calls (w := _) (h := A5.out)).mono ?_; rintro e w8 ⟨rfl, hb⟩; replace j5 := kS j5 hb; replace HB := bS hb; clear hb))
     repeat (go_quiet (first | (go_at_call 58; with_reducible refine (D4.calls (w := _) (h := A5.out)).mono ?_; rintro e w8 ⟨rfl, hb⟩; replace j5 := kS j5 hb; replace HB := bS hb; clear hb)); try go_wp2_with (first | (go_at_call 58; (with_reducible refine (D4.calls k1 ((E6 J2 E8).f0) ((E6 J2 E8).f1) true _ A5.out).mono ?_); rintro e w8 ⟨rfl, hb⟩; have P5 := kS j5 hb; have P6 := bS hb; clear j5; clear HB; have j5 := P5; have HB := P6; clear P5 P6; (try clear hb); (try clear hb2); (try clear hk); (try clear hi))))
     go_loopg [4] k1 (fun kq v4 w' => ∃ (au3 : Int), v4 = .int .i64 au3 ∧ j4 (K7.l1 kq E8 au3 r0 D2 J2 P8 = some r) ∧ j4 (kq ≤ k1) ∧ j4 (w'.heap[j8]? = some (.cells #[.string r0, .string D2, (.slice (some aT8) J2.length ae1), (.slice a71 P8.length a73)] 35 (0, 0))) ∧ j4 (Below w.heap.size w w'))
     case atStart => exact ⟨(0), zs, H', ⟨Nat.le_refl _⟩, ⟨kQ j5⟩, ⟨zB⟩⟩
     case round =>
      clear H'
      obtain ⟨au3, rfl, HA, HK2, j5, HB⟩ := hrel
      cases gk with
      | zero => exact absurd HA.out (by simp [K7.l1])
      | succ k2 =>
       have H := HA.out
       clear HA
       simp only [K7.l1] at H
       replace H := K2 H; rcases H with ⟨aF9, H⟩ | ⟨aF9, H⟩
       ·replace H := S1 H; obtain ⟨aF1, H⟩ := H
        replace H := S1 H; obtain ⟨aV1, H⟩ := H
        replace H := S1 H; obtain ⟨ax7, H⟩ := H
        replace H := S1 H; obtain ⟨al5, H⟩ := H
        replace H := aY5 H; rcases H with ⟨c14, H⟩ | ⟨c14, H⟩
        ·have aL5 : ((((E6 J2 au3).f0).toList) == (((E6 J2 E8).f0).toList) && ((((E6 J2 au3).f1).toList) == (((E6 J2 E8).f1).toList))) = true := c14
         (try (have b24 : decide ((((E6 J2 au3).f0).toList) = (((E6 J2 E8).f0).toList) && ((((E6 J2 au3).f1).toList) == (((E6 J2 E8).f1).toList))) = true := by simpa using c14))
         (try (have cL9 : ((((E6 J2 au3).f0).toList) == (((E6 J2 E8).f0).toList) && ((((E6 J2 au3).f1).toList) == (((E6 J2 E8).f1).toList))) = true := by simpa using c14))
         clear c14
         obtain rfl := Option.some.inj H
         have bB7 := cz4 j5.out
         have bB8 := fz4 j5.out
         have au1 : 0 ≤ (au3 : Int) := of_decide_eq_true za
         have au2 : au3 < (J2.length : Int) := of_decide_eq_true za
         obtain ⟨av1, b40, af5, aq8⟩ := as1 aF5.out au3 au1 au2
         obtain rfl : aT8 = av1 := (by injection b40)
         replace af5 := kx HB af5
         replace aq8 := kx HB aq8
         replace au1 := eq_true au1
         replace au2 := eq_true au2
         have aS4 : 0 ≤ (E8 : Int) := of_decide_eq_true za
         have aS5 : E8 < (J2.length : Int) := of_decide_eq_true za
         obtain ⟨ay5, bJ7, ae0, b91⟩ := as1 aF5.out E8 aS4 aS5
         obtain rfl : aT8 = ay5 := (by injection bJ7)
         replace ae0 := kx HB ae0
         replace b91 := kx HB b91
         replace aS4 := eq_true aS4
         replace aS5 := eq_true aS5
         go_wp2
         repeat (go_quiet (fail); try go_wp2)
         go_ret
         exact ⟨zr, zB⟩
        ·have aL5 : ((((E6 J2 au3).f0).toList) == (((E6 J2 E8).f0).toList) && ((((E6 J2 au3).f1).toList) == (((E6 J2 E8).f1).toList))) = false := by simpa using c14
         (try (have b24 : decide ((((E6 J2 au3).f0).toList) = (((E6 J2 E8).f0).toList) && ((((E6 J2 au3).f1).toList) == (((E6 J2 E8).f1).toList))) = false := by simpa using c14))
         (try (have cL9 : ((((E6 J2 au3).f0).toList) == (((E6 J2 E8).f0).toList) && ((((E6 J2 au3).f1).toList) == (((E6 J2 E8).f1).toList))) = false := by simpa using c14))
         (try (have cM0 : ¬ ((((E6 J2 au3).f0).toList) = (((E6 J2 E8).f0).toList) && ((((E6 J2 au3).f1).toList) == (((E6 J2 E8).f1).toList))) := by simpa using c14))
         clear c14
         have H' := j4.mk H
         clear H
         have br3 := cz4 j5.out
         have br4 := fz4 j5.out
         have au1 : 0 ≤ (au3 : Int) := of_decide_eq_true za
         have au2 : au3 < (J2.length : Int) := of_decide_eq_true za
         obtain ⟨av1, b40, af5, aq8⟩ := as1 aF5.out au3 au1 au2
         obtain rfl : aT8 = av1 := (by injection b40)
         replace af5 := kx HB af5
         replace aq8 := kx HB aq8
         replace au1 := eq_true au1
         replace au2 := eq_true au2
         have aS4 : 0 ≤ (E8 : Int) := of_decide_eq_true za
         have aS5 : E8 < (J2.length : Int) := of_decide_eq_true za
         obtain ⟨ay5, bJ7, ae0, b91⟩ := as1 aF5.out E8 aS4 aS5
         obtain rfl : aT8 = ay5 := (by injection bJ7)
         replace ae0 := kx HB ae0
         replace b91 := kx HB b91
         replace aS4 := eq_true aS4
         replace aS5 := eq_true aS5
         go_wp2
         repeat (go_quiet (fail); try go_wp2)
         go_roundg k2
         case measure => have := HK1.out; have := HK2.out; omega
         case rel => exact ⟨(wrap64 (au3 + 1)), zs, H', ⟨by have := HK1.out; have := HK2.out; omega⟩, ⟨kQ j5⟩, ⟨zB⟩⟩
       ·have H' := j4.mk H
        clear H
        go_wp2
        repeat (go_quiet (fail); try go_wp2)
        go_roundg k2
        case measure => have := HK1.out; have := HK2.out; omega
        case rel => exact ⟨(wrap64 (E8 + 1)), zs, H', ⟨by have := HK1.out; have := HK2.out; omega⟩, ⟨kQ j5⟩, ⟨zB⟩⟩
    ·obtain rfl := Option.some.inj H
     have dl8 := cz4 j5.out
     have dl9 := fz4 j5.out
     have aA4 : 0 ≤ (E8 : Int) := of_decide_eq_true za
     have aA5 : E8 < (J2.length : Int) := of_decide_eq_true za
     obtain ⟨aT8, bb5, at2, aS3⟩ := as1 aF5.out E8 aA4 aA5
     cases bb5
     replace at2 := kx HB at2
     replace aS3 := kx HB aS3
     replace aA4 := eq_true aA4
     replace aA5 := eq_true aA5
     go_wp2_with (first | (go_at_call 58; with_reducible refine (D4.calls (w := _) (h := A5.out)).mono ?_; rintro e w18 ⟨rfl, hb⟩; replace j5 := kS j5 hb; replace HB := bS hb; clear hb))
     repeat (go_quiet (first | (go_at_call 58; with_reducible refine (D4.calls (w := _) (h := A5.out)).mono ?_; rintro e w18 ⟨rfl, hb⟩; replace j5 := kS j5 hb; replace HB := bS hb; clear hb)); try go_wp2_with (first | (go_at_call 58; (with_reducible refine (D4.calls k1 ((E6 J2 E8).f0) ((E6 J2 E8).f1) false _ A5.out).mono ?_); rintro e w18 ⟨rfl, hb⟩; have P5 := kS j5 hb; have P6 := bS hb; clear j5; clear HB; have j5 := P5; have HB := P6; clear P5 P6; (try clear hb); (try clear hb2); (try clear hk); (try clear hi))))
     go_ret
     exact ⟨zr, zB⟩
   ·replace H := S2 H; obtain ⟨t106, A19, H⟩ := H
    replace H := itb H; rcases H with ⟨rfl, H⟩ | ⟨rfl, H⟩
    ·replace H := S2 H; obtain ⟨t107, A21, H⟩ := H
     replace H := itb H; rcases H with ⟨rfl, H⟩ | ⟨rfl, H⟩
     ·replace H := S2 H; obtain ⟨t108, A23, H⟩ := H
      obtain rfl := Option.some.inj H
      have br0 := cz4 j5.out
      have br1 := fz4 j5.out
      go_wp2_with (first | (go_at_call 58; with_reducible refine (D4.calls (w := _) (h := A19.out)).mono ?_; rintro e w25 ⟨rfl, hb⟩; replace j5 := kS j5 hb; replace HB := bS hb; clear hb; obtain ⟨cj5, cj6, cj7, cj8⟩ := cz4 j5.out; obtain ⟨cj9, ck0, ck1, ck2⟩ := fz4 j5.out) | (go_at_call 57; with_reducible refine (I9.calls (w := _) (h := A21.out)).mono ?_; rintro e w' ⟨rfl, ⟨nd, rfl⟩⟩; (try first | exact ⟨rfl, _, World.drewN_drewN _ _ _⟩ | exact ⟨rfl, _, Eq.trans (World.drewN_drewN _ _ _) (congrArg (World.drewN _) (Nat.add_assoc _ _ _))⟩)) | (go_at_call 100; refine (F8.calls (w := _) (hr0 := by repeat (first | exact (Kd.a79 ax6.out zB) | (with_reducible refine Kd.K4 ?_ _) | (with_reducible refine Kd.K5 ?_ _) | (with_reducible refine Kd.Q1 ?_))) (hc0 := aF3.out) (h := A23.out)).mono ?_; rintro e w' ⟨rfl, ⟨nd, rfl⟩⟩; (try first | exact ⟨rfl, _, World.drewN_drewN _ _ _⟩ | exact ⟨rfl, _, Eq.trans (World.drewN_drewN _ _ _) (congrArg (World.drewN _) (Nat.add_assoc _ _ _))⟩)))
      repeat (go_quiet (first | (go_at_call 58; with_reducible refine (D4.calls (w := _) (h := A19.out)).mono ?_; rintro e w25 ⟨rfl, hb⟩; replace j5 := kS j5 hb; replace HB := bS hb; clear hb; obtain ⟨cj5, cj6, cj7, cj8⟩ := cz4 j5.out; obtain ⟨cj9, ck0, ck1, ck2⟩ := fz4 j5.out) | (go_at_call 57; with_reducible refine (I9.calls (w := _) (h := A21.out)).mono ?_; rintro e w' ⟨rfl, ⟨nd, rfl⟩⟩; (try first | exact ⟨rfl, _, World.drewN_drewN _ _ _⟩ | exact ⟨rfl, _, Eq.trans (World.drewN_drewN _ _ _) (congrArg (World.drewN _) (Nat.add_assoc _ _ _))⟩)) | (go_at_call 100; refine (F8.calls (w := _) (hr0 := by repeat (first | exact (Kd.a79 ax6.out zB) | (with_reducible refine Kd.K4 ?_ _) | (with_reducible refine Kd.K5 ?_ _) | (with_reducible refine Kd.Q1 ?_))) (hc0 := aF3.out) (h := A23.out)).mono ?_; rintro e w' ⟨rfl, ⟨nd, rfl⟩⟩; (try first | exact ⟨rfl, _, World.drewN_drewN _ _ _⟩ | exact ⟨rfl, _, Eq.trans (World.drewN_drewN _ _ _) (congrArg (World.drewN _) (Nat.add_assoc _ _ _))⟩))); try go_wp2_with (first | (go_at_call 58; (with_reducible refine (D4.calls k1 r0 D2 true _ A19.out).mono ?_); rintro e w25 ⟨rfl, hb⟩; have P5 := kS j5 hb; have P6 := bS hb; clear j5; clear HB; have j5 := P5; have HB := P6; clear P5 P6; (try clear hb); (try clear hb2); (try clear hk); (try clear hi); have cj5 : w25.cell? ⟨j8, 0, none⟩ = some (.string r0) := (l7 j5.out 0).trans rfl; have cj6 : w25.cell? ⟨j8, 1, none⟩ = some (.string D2) := (l7 j5.out 1).trans rfl; have cj7 : w25.cell? ⟨j8, 2, none⟩ = some (.slice ae6 J2.length ae1) := (l7 j5.out 2).trans rfl; have cj8 : w25.cell? ⟨j8, 3, none⟩ = some (.slice a71 P8.length a73) := (l7 j5.out 3).trans rfl; have cj9 := z7 j5.out 0; have ck0 := z7 j5.out 1; have ck1 := z7 j5.out 2; have ck2 := z7 j5.out 3) | (go_at_call 57; (with_reducible refine (I9.calls (J2.length : Int) 1 4 true _ A21.out).mono ?_); rintro e w' ⟨rfl, ⟨nd, rfl⟩⟩; (try first | exact ⟨rfl, _, World.drewN_drewN _ _ _⟩ | exact ⟨rfl, _, Eq.trans (World.drewN_drewN _ _ _) (congrArg (World.drewN _) (Nat.add_assoc _ _ _))⟩)) | (go_at_call 100; (with_reducible refine (F8.calls k1 _ _ P8 t108 _ ?a92 ?ad2 A23.out).mono ?_); (case a92 => exact (by repeat (first | exact (Kd.a79 ax6.out zB) | (with_reducible refine Kd.K4 ?_ _) | (with_reducible refine Kd.K5 ?_ _) | (with_reducible refine Kd.Q1 ?_)))); (case ad2 => exact aF3.out); rintro e w' ⟨rfl, ⟨nd, rfl⟩⟩; (try first | exact ⟨rfl, _, World.drewN_drewN _ _ _⟩ | exact ⟨rfl, _, Eq.trans (World.drewN_drewN _ _ _) (congrArg (World.drewN _) (Nat.add_assoc _ _ _))⟩))))
      go_ret
      exact ⟨zr, zB⟩
     ·obtain rfl := Option.some.inj H
      have bq2 := cz4 j5.out
      have bq3 := fz4 j5.out
      go_wp2_with (first | (go_at_call 58; with_reducible refine (D4.calls (w := _) (h := A19.out)).mono ?_; rintro e w28 ⟨rfl, hb⟩; replace j5 := kS j5 hb; replace HB := bS hb; clear hb; obtain ⟨ck3, ck4, ck5, ck6⟩ := cz4 j5.out; obtain ⟨ck7, ck8, ck9, cl0⟩ := fz4 j5.out) | (go_at_call 57; with_reducible refine (I9.calls (w := _) (h := A21.out)).mono ?_; rintro e w' ⟨rfl, ⟨nd, rfl⟩⟩; (try first | exact ⟨rfl, _, World.drewN_drewN _ _ _⟩ | exact ⟨rfl, _, Eq.trans (World.drewN_drewN _ _ _) (congrArg (World.drewN _) (Nat.add_assoc _ _ _))⟩)))
      repeat (go_quiet (first | (go_at_call 58; with_reducible refine (D4.calls (w := _) (h := A19.out)).mono ?_; rintro e w28 ⟨rfl, hb⟩; replace j5 := kS j5 hb; replace HB := bS hb; clear hb; obtain ⟨ck3, ck4, ck5, ck6⟩ := cz4 j5.out; obtain ⟨ck7, ck8, ck9, cl0⟩ := fz4 j5.out) | (go_at_call 57; with_reducible refine (I9.calls (w := _) (h := A21.out)).mono ?_; rintro e w' ⟨rfl, ⟨nd, rfl⟩⟩; (try first | exact ⟨rfl, _, World.drewN_drewN _ _ _⟩ | exact ⟨rfl, _, Eq.trans (World.drewN_drewN _ _ _) (congrArg (World.drewN _) (Nat.add_assoc _ _ _))⟩))); try go_wp2_with (first | (go_at_call 58; (with_reducible refine (D4.calls k1 r0 D2 true _ A19.out).mono ?_); rintro e w28 ⟨rfl, hb⟩; have P5 := kS j5 hb; have P6 := bS hb; clear j5; clear HB; have j5 := P5; have HB := P6; clear P5 P6; (try clear hb); (try clear hb2); (try clear hk); (try clear hi); have ck3 : w28.cell? ⟨j8, 0, none⟩ = some (.string r0) := (l7 j5.out 0).trans rfl; have ck4 : w28.cell? ⟨j8, 1, none⟩ = some (.string D2) := (l7 j5.out 1).trans rfl; have ck5 : w28.cell? ⟨j8, 2, none⟩ = some (.slice ae6 J2.length ae1) := (l7 j5.out 2).trans rfl; have ck6 : w28.cell? ⟨j8, 3, none⟩ = some (.slice a71 P8.length a73) := (l7 j5.out 3).trans rfl; have ck7 := z7 j5.out 0; have ck8 := z7 j5.out 1; have ck9 := z7 j5.out 2; have cl0 := z7 j5.out 3) | (go_at_call 57; (with_reducible refine (I9.calls (J2.length : Int) 1 4 false _ A21.out).mono ?_); rintro e w' ⟨rfl, ⟨nd, rfl⟩⟩; (try first | exact ⟨rfl, _, World.drewN_drewN _ _ _⟩ | exact ⟨rfl, _, Eq.trans (World.drewN_drewN _ _ _) (congrArg (World.drewN _) (Nat.add_assoc _ _ _))⟩))))
      go_ret
      exact ⟨zr, zB⟩
    ·replace H := S2 H; obtain ⟨t109, A30, H⟩ := H
     replace H := itb H; rcases H with ⟨rfl, H⟩ | ⟨rfl, H⟩
     ·replace H := S2 H; obtain ⟨t110, A32, H⟩ := H
      replace H := itb H; rcases H with ⟨rfl, H⟩ | ⟨rfl, H⟩
      ·replace H := S2 H; obtain ⟨t111, A34, H⟩ := H
       obtain rfl := Option.some.inj H
       have cM1 := cz4 j5.out
       have cM2 := fz4 j5.out
       go_wp2_with (first | (go_at_call 58; with_reducible refine (D4.calls (w := _) (h := A19.out)).mono ?_; rintro e w36 ⟨rfl, hb⟩; replace j5 := kS j5 hb; replace HB := bS hb; clear hb; obtain ⟨cl1, cl2, cl3, cl4⟩ := cz4 j5.out; obtain ⟨cl5, cl6, cl7, cl8⟩ := fz4 j5.out) | (go_at_call 55; with_reducible refine (K1.calls (w := _) (h := A30.out)).mono ?_; rintro e w38 ⟨rfl, hb⟩; replace j5 := kS j5 hb; replace HB := bS hb; clear hb; obtain ⟨cl9, cm0, cm1, cm2⟩ := cz4 j5.out; obtain ⟨cm3, cm4, cm5, cm6⟩ := fz4 j5.out) | (go_at_call 57; with_reducible refine (I9.calls (w := _) (h := A32.out)).mono ?_; rintro e w' ⟨rfl, ⟨nd, rfl⟩⟩; (try first | exact ⟨rfl, _, World.drewN_drewN _ _ _⟩ | exact ⟨rfl, _, Eq.trans (World.drewN_drewN _ _ _) (congrArg (World.drewN _) (Nat.add_assoc _ _ _))⟩)) | (go_at_call 100; refine (F8.calls (w := _) (hr0 := by repeat (first | exact (Kd.a79 ax6.out zB) | (with_reducible refine Kd.K4 ?_ _) | (with_reducible refine Kd.K5 ?_ _) | (with_reducible refine Kd.Q1 ?_))) (hc0 := aF3.out) (h := A34.out)).mono ?_; rintro e w' ⟨rfl, ⟨nd, rfl⟩⟩; (try first | exact ⟨rfl, _, World.drewN_drewN _ _ _⟩ | exact ⟨rfl, _, Eq.trans (World.drewN_drewN _ _ _) (congrArg (World.drewN _) (Nat.add_assoc _ _ _))⟩)))
       repeat (go_quiet (first | (go_at_call 58; with_reducible refine (D4.calls (w := _) (h := A19.out)).mono ?_; rintro e w36 ⟨rfl, hb⟩; replace j5 := kS j5 hb; replace HB := bS hb; clear hb; obtain ⟨cl1, cl2, cl3, cl4⟩ := cz4 j5.out; obtain ⟨cl5, cl6, cl7, cl8⟩ := fz4 j5.out) | (go_at_call 55; with_reducible refine (K1.calls (w := _) (h := A30.out)).mono ?_; rintro e w38 ⟨rfl, hb⟩; replace j5 := kS j5 hb; replace HB := bS hb; clear hb; obtain ⟨cl9, cm0, cm1, cm2⟩ := cz4 j5.out; obtain ⟨cm3, cm4, cm5, cm6⟩ := fz4 j5.out) | (go_at_call 57; with_reducible refine (I9.calls (w := _) (h := A32.out)).mono ?_; rintro e w' ⟨rfl, ⟨nd, rfl⟩⟩; (try first | exact ⟨rfl, _, World.drewN_drewN _ _ _⟩ | exact ⟨rfl, _, Eq.trans (World.drewN_drewN _ _ _) (congrArg (World.drewN _) (Nat.add_assoc _ _ _))⟩)) | (go_at_call 100; refine (F8.calls (w := _) (hr0 := by repeat (first | exact (Kd.a79 ax6.out zB) | (with_reducible refine Kd.K4 ?_ _) | (with_reducible refine Kd.K5 ?_ _) | (with_reducible refine Kd.Q1 ?_))) (hc0 := aF3.out) (h := A34.out)).mono ?_; rintro e w' ⟨rfl, ⟨nd, rfl⟩⟩; (try first | exact ⟨rfl, _, World.drewN_drewN _ _ _⟩ | exact ⟨rfl, _, Eq.trans (World.drewN_drewN _ _ _) (congrArg (World.drewN _) (Nat.add_assoc _ _ _))⟩))); try go_wp2_with (first | (go_at_call 58; (with_reducible refine (D4.calls k1 r0 D2 false _ A19.out).mono ?_); rintro e w36 ⟨rfl, hb⟩; have P5 := kS j5 hb; have P6 := bS hb; clear j5; clear HB; have j5 := P5; have HB := P6; clear P5 P6; (try clear hb); (try clear hb2); (try clear hk); (try clear hi); have cl1 : w36.cell? ⟨j8, 0, none⟩ = some (.string r0) := (l7 j5.out 0).trans rfl; have cl2 : w36.cell? ⟨j8, 1, none⟩ = some (.string D2) := (l7 j5.out 1).trans rfl; have cl3 : w36.cell? ⟨j8, 2, none⟩ = some (.slice ae6 J2.length ae1) := (l7 j5.out 2).trans rfl; have cl4 : w36.cell? ⟨j8, 3, none⟩ = some (.slice a71 P8.length a73) := (l7 j5.out 3).trans rfl; have cl5 := z7 j5.out 0; have cl6 := z7 j5.out 1; have cl7 := z7 j5.out 2; have cl8 := z7 j5.out 3) | (go_at_call 55; (with_reducible refine (K1.calls r0 D2 true _ A30.out).mono ?_); rintro e w38 ⟨rfl, hb⟩; have P5 := kS j5 hb; have P6 := bS hb; clear j5; clear HB; have j5 := P5; have HB := P6; clear P5 P6; (try clear hb); (try clear hb2); (try clear hk); (try clear hi); have cl9 : w38.cell? ⟨j8, 0, none⟩ = some (.string r0) := (l7 j5.out 0).trans rfl; have cm0 : w38.cell? ⟨j8, 1, none⟩ = some (.string D2) := (l7 j5.out 1).trans rfl; have cm1 : w38.cell? ⟨j8, 2, none⟩ = some (.slice ae6 J2.length ae1) := (l7 j5.out 2).trans rfl; have cm2 : w38.cell? ⟨j8, 3, none⟩ = some (.slice a71 P8.length a73) := (l7 j5.out 3).trans rfl; have cm3 := z7 j5.out 0; have cm4 := z7 j5.out 1; have cm5 := z7 j5.out 2; have cm6 := z7 j5.out 3) | (go_at_call 57; (with_reducible refine (I9.calls (J2.length : Int) 1 4 true _ A32.out).mono ?_); rintro e w' ⟨rfl, ⟨nd, rfl⟩⟩; (try first | exact ⟨rfl, _, World.drewN_drewN _ _ _⟩ | exact ⟨rfl, _, Eq.trans (World.drewN_drewN _ _ _) (congrArg (World.drewN _) (Nat.add_assoc _ _ _))⟩)) | (go_at_call 100; (with_reducible refine (F8.calls k1 _ _ P8 t111 _ ?a92 ?ad2 A34.out).mono ?_); (case a92 => exact (by repeat (first | exact (Kd.a79 ax6.out zB) | (with_reducible refine Kd.K4 ?_ _) | (with_reducible refine Kd.K5 ?_ _) | (with_reducible refine Kd.Q1 ?_)))); (case ad2 => exact aF3.out); rintro e w' ⟨rfl, ⟨nd, rfl⟩⟩; (try first | exact ⟨rfl, _, World.drewN_drewN _ _ _⟩ | exact ⟨rfl, _, Eq.trans (World.drewN_drewN _ _ _) (congrArg (World.drewN _) (Nat.add_assoc _ _ _))⟩))))
       go_ret
       exact ⟨zr, zB⟩
      ·obtain rfl := Option.some.inj H
       have bP9 := cz4 j5.out
       have bQ0 := fz4 j5.out
       go_wp2_with (first | (go_at_call 58; with_reducible refine (D4.calls (w := _) (h := A19.out)).mono ?_; rintro e w41 ⟨rfl, hb⟩; replace j5 := kS j5 hb; replace HB := bS hb; clear hb; obtain ⟨cm7, cm8, cm9, cn0⟩ := cz4 j5.out; obtain ⟨cn1, cn2, cn3, cn4⟩ := fz4 j5.out) | (go_at_call 55; with_reducible refine (K1.calls (w := _) (h := A30.out)).mono ?_; rintro e w43 ⟨rfl, hb⟩; replace j5 := kS j5 hb; replace HB := bS hb; clear hb; obtain ⟨cn5, cn6, cn7, cn8⟩ := cz4 j5.out; obtain ⟨cn9, co0, co1, co2⟩ := fz4 j5.out) | (go_at_call 57; with_reducible refine (I9.calls (w := _) (h := A32.out)).mono ?_; rintro e w' ⟨rfl, ⟨nd, rfl⟩⟩; (try first | exact ⟨rfl, _, World.drewN_drewN _ _ _⟩ | exact ⟨rfl, _, Eq.trans (World.drewN_drewN _ _ _) (congrArg (World.drewN _) (Nat.add_assoc _ _ _))⟩)))
       repeat (go_quiet (first | (go_at_call 58; with_reducible refine (D4.calls (w := _) (h := A19.out)).mono ?_; rintro e w41 ⟨rfl, hb⟩; replace j5 := kS j5 hb; replace HB := bS hb; clear hb; obtain ⟨cm7, cm8, cm9, cn0⟩ := cz4 j5.out; obtain ⟨cn1, cn2, cn3, cn4⟩ := fz4 j5.out) | (go_at_call 55; with_reducible refine (K1.calls (w := _) (h := A30.out)).mono ?_; rintro e w43 ⟨rfl, hb⟩; replace j5 := kS j5 hb; replace HB := bS hb; clear hb; obtain ⟨cn5, cn6, cn7, cn8⟩ := cz4 j5.out; obtain ⟨cn9, co0, co1, co2⟩ := fz4 j5.out) | (go_at_call 57; with_reducible refine (I9.calls (w := _) (h := A32.out)).mono ?_; rintro e w' ⟨rfl, ⟨nd, rfl⟩⟩; (try first | exact ⟨rfl, _, World.drewN_drewN _ _ _⟩ | exact ⟨rfl, _, Eq.trans (World.drewN_drewN _ _ _) (congrArg (World.drewN _) (Nat.add_assoc _ _ _))⟩))); try go_wp2_with (first | (go_at_call 58; (with_reducible refine (D4.calls k1 r0 D2 false _ A19.out).mono ?_); rintro e w41 ⟨rfl, hb⟩; have P5 := kS j5 hb; have P6 := bS hb; clear j5; clear HB; have j5 := P5; have HB := P6; clear P5 P6; (try clear hb); (try clear hb2); (try clear hk); (try clear hi); have cm7 : w41.cell? ⟨j8, 0, none⟩ = some (.string r0) := (l7 j5.out 0).trans rfl; have cm8 : w41.cell? ⟨j8, 1, none⟩ = some (.string D2) := (l7 j5.out 1).trans rfl; have cm9 : w41.cell? ⟨j8, 2, none⟩ = some (.slice ae6 J2.length ae1) := (l7 j5.out 2).trans rfl; have cn0 : w41.cell? ⟨j8, 3, none⟩ = some (.slice a71 P8.length a73) := (l7 j5.out 3).trans rfl; have cn1 := z7 j5.out 0; have cn2 := z7 j5.out 1; have cn3 := z7 j5.out 2; have cn4 := z7 j5.out 3) | (go_at_call 55; (with_reducible refine (K1.calls r0 D2 true _ A30.out).mono ?_); rintro e w43 ⟨rfl, hb⟩; have P5 := kS j5 hb; have P6 := bS hb; clear j5; clear HB; have j5 := P5; have HB := P6; clear P5 P6; (try clear hb); (try clear hb2); (try clear hk); (try clear hi); have cn5 : w43.cell? ⟨j8, 0, none⟩ = some (.string r0) := (l7 j5.out 0).trans rfl; have cn6 : w43.cell? ⟨j8, 1, none⟩ = some (.string D2) := (l7 j5.out 1).trans rfl; have cn7 : w43.cell? ⟨j8, 2, none⟩ = some (.slice ae6 J2.length ae1) := (l7 j5.out 2).trans rfl; have cn8 : w43.cell? ⟨j8, 3, none⟩ = some (.slice a71 P8.length a73) := (l7 j5.out 3).trans rfl; have cn9 := z7 j5.out 0; have co0 := z7 j5.out 1; have co1 := z7 j5.out 2; have co2 := z7 j5.out 3) | (go_at_call 57; (with_reducible refine (I9.calls (J2.length : Int) 1 4 false _ A32.out).mono ?_); rintro e w' ⟨rfl, ⟨nd, rfl⟩⟩; (try first | exact ⟨rfl, _, World.drewN_drewN _ _ _⟩ | exact ⟨rfl, _, Eq.trans (World.drewN_drewN _ _ _) (congrArg (World.drewN _) (Nat.add_assoc _ _ _))⟩))))
       go_ret
       exact ⟨zr, zB⟩
     ·obtain rfl := Option.some.inj H
      have ce4 := cz4 j5.out
      have ce5 := fz4 j5.out
      go_wp2_with (first | (go_at_call 58; with_reducible refine (D4.calls (w := _) (h := A19.out)).mono ?_; rintro e w46 ⟨rfl, hb⟩; replace j5 := kS j5 hb; replace HB := bS hb; clear hb; obtain ⟨co3, co6, cp0, cp1⟩ := cz4 j5.out; obtain ⟨cp2, cp3, cp4, cp5⟩ := fz4 j5.out) | (go_at_call 55; with_reducible refine (K1.calls (w := _) (h := A30.out)).mono ?_; rintro e w48 ⟨rfl, hb⟩; replace j5 := kS j5 hb; replace HB := bS hb; clear hb))
      repeat (go_quiet (first | (go_at_call 58; with_reducible refine (D4.calls (w := _) (h := A19.out)).mono ?_; rintro e w46 ⟨rfl, hb⟩; replace j5 := kS j5 hb; replace HB := bS hb; clear hb; obtain ⟨co3, co6, cp0, cp1⟩ := cz4 j5.out; obtain ⟨cp2, cp3, cp4, cp5⟩ := fz4 j5.out) | (go_at_call 55; with_reducible refine (K1.calls (w := _) (h := A30.out)).mono ?_; rintro e w48 ⟨rfl, hb⟩; replace j5 := kS j5 hb; replace HB := bS hb; clear hb)); try go_wp2_with (first | (go_at_call 58; (with_reducible refine (D4.calls k1 r0 D2 false _ A19.out).mono ?_); rintro e w46 ⟨rfl, hb⟩; have P5 := kS j5 hb; have P6 := bS hb; clear j5; clear HB; have j5 := P5; have HB := P6; clear P5 P6; (try clear hb); (try clear hb2); (try clear hk); (try clear hi); have co3 : w46.cell? ⟨j8, 0, none⟩ = some (.string r0) := (l7 j5.out 0).trans rfl; have co6 : w46.cell? ⟨j8, 1, none⟩ = some (.string D2) := (l7 j5.out 1).trans rfl; have cp0 : w46.cell? ⟨j8, 2, none⟩ = some (.slice ae6 J2.length ae1) := (l7 j5.out 2).trans rfl; have cp1 : w46.cell? ⟨j8, 3, none⟩ = some (.slice a71 P8.length a73) := (l7 j5.out 3).trans rfl; have cp2 := z7 j5.out 0; have cp3 := z7 j5.out 1; have cp4 := z7 j5.out 2; have cp5 := z7 j5.out 3) | (go_at_call 55; (with_reducible refine (K1.calls r0 D2 false _ A30.out).mono ?_); rintro e w48 ⟨rfl, hb⟩; have P5 := kS j5 hb; have P6 := bS hb; clear j5; clear HB; have j5 := P5; have HB := P6; clear P5 P6; (try clear hb); (try clear hb2); (try clear hk); (try clear hi))))
      go_ret
      exact ⟨zr, zB⟩
end Go.Proofs.YtbncnjgflhoneaaGreatDoor.F
