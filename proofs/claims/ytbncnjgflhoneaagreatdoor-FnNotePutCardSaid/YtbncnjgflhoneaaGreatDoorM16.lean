/- Of this claim, merged by program: HDotGet, F128, Q8, F41, Q9, F127, F86, Q10, F85, Q11. -/
import Derived.Test.YtbncnjgflhoneaaGreatDoorM02
import Derived.Test.YtbncnjgflhoneaaGreatDoorM03
import Derived.Test.YtbncnjgflhoneaaGreatDoorM12
import Derived.Test.YtbncnjgflhoneaaGreatDoorM13
import Derived.Test.YtbncnjgflhoneaaGreatDoorM14
import Derived.Test.YtbncnjgflhoneaaGreatDoorM15
namespace Go.Proofs.YtbncnjgflhoneaaGreatDoor.F
open Go.RowKit Go.Proofs.YtbncnjgflhoneaaGreatDoor.Hand Go.Proofs.YtbncnjgflhoneaaGreatDoorW.PrintWords Go.Proofs.YtbncnjgflhoneaaGreatDoorW.PrintLast Go.Proofs.YtbncnjgflhoneaaGreatDoorW.PrintMore
set_option linter.unusedVariables false
set_option linter.unusedSimpArgs false
def impl_DotGet.l0 : Nat → ByteArray → List ByteArray → List ByteArray → Int → Int → Option (List ByteArray × Bool)
 | 0, _, _, _, _, _ => none
 | k + 1, x0, x6, x21, x22, x23 => if x23 < x22 then (if 0 ≤ x23 then (if x23 < (x21.length : Int) then ((strings_TrimPrefix.f (rdOf ByteArray.empty x21 x23) (⟨#[46]⟩ : ByteArray)).bind fun t677 => (if x6.length < 8796093022208 then (impl_DotGet.l0 k x0 (x6 ++ [t677]) x21 x22 (wrap64 (x23 + 1))) else (none))) else (none)) else (none)) else ((impl_DotPut.f x6).bind fun t681 => (if t681.toList = x0.toList then (some (x6, true)) else (some (([] : List ByteArray), false))))
def impl_DotGet.f (k : Nat) (a0 : ByteArray) : Option (List ByteArray × Bool) := (impl_LinesOf.f k a0).bind fun bt668 => (if (bt668.1.length : Int) = 0 then (some (([] : List ByteArray), false)) else (if 0 ≤ (wrap64 ((bt668.1.length : Int) - 1)) then (if (wrap64 ((bt668.1.length : Int) - 1)) ≤ (bt668.1.length : Int) then ((some (bt668.1.take ((wrap64 ((bt668.1.length : Int) - 1)) : Int).toNat : List ByteArray)).bind fun y672 => (impl_DotGet.l0 k a0 ([] : List ByteArray) y672 (y672.length : Int) 0)) else (none)) else (none)))
set_option maxHeartbeats 8000000 in
set_option maxRecDepth 100000 in
theorem impl_DotGet.calls (k : Nat) (a0 : ByteArray) (r1 : List ByteArray) (r2 : Bool) (w : World) (hG : Laid w) (h : impl_DotGet.f k a0 = some (r1, r2)) :
  Calls Tryz.prog 78 #[.string a0] w fun e w' => ∃ v0_ : Value, e = .returned (.tuple #[v0_, .bool r2]) ∧ Kd.R Kd.string 9 w' w.heap.size (fun _ => True) v0_ r1 ∧ Below w.heap.size w w' := by
 have HG := Aside0.mk hG
 clear hG
 have HB := Aside0.mk (Below.refl w.heap.size w)
 have H := h
 clear h
 unfold impl_DotGet.f at H
 replace H := bnd H; obtain ⟨⟨t668, t669⟩, A2, H⟩ := H
 dsimp only at H
 replace H := its_qn_cqn H; rcases H with ⟨c3b0, c3b1, H⟩ | ⟨c3, c3b0, c3b1, H⟩
 ·simp only [Option.some.injEq, Prod.mk.injEq] at H
  obtain ⟨rfl, rfl⟩ := H
  go_enter Tryz.func78, Tryz.ntmps78
  go_wp2_with (first | ((with_reducible refine gate_callee (f := 119) rfl ?_); refine gl 11 Tryz.func119 _ ((impl_LinesOf.calls (w := _) (hG := gB) (h := A2.out)).mono ?_); rintro e w4 ⟨v670, rfl, ho0, hb⟩; refine ⟨_, rfl, ?_⟩; have HO671 := lS ho0; replace HB := bS hb; clear hb ho0; obtain ⟨Ao5, co5, eo5⟩ := Kd.R_slice HO671.out; subst eo5))
  go_ret2
  exact ⟨_, zr, zn, zB⟩
 ·have c3b2 : ¬ (t668 = []) := fun h_ => c3 (by rw [h_]; rfl)
  obtain ⟨ji6, hji6⟩ : ∃ j_ : Int, (wrap64 ((t668.length : Int) - 1)) = j_ := ⟨_, rfl⟩
  first | rw [hji6] at H | simp only [hji6] at H
  (try rw [hji6] at A2)
  have hji6w : (IntKind.i64.wrap ((t668.length : Int) - 1)) = ji6 := (i64_w _).trans hji6
  replace H := itn_ed H; obtain ⟨c7b0, c7b1, H⟩ := H
  replace H := itn_ed H; obtain ⟨c8b0, c8b1, H⟩ := H
  first | (with_reducible replace H := bns H; obtain ⟨y672, Ny672, H⟩ := H) | (generalize hy_ : (t668.take ((ji6) : Int).toNat : List ByteArray) = y672 at H; have Ny672 := Aside0.mk hy_.symm; clear hy_)
  have H' := Aside0.mk H
  clear H
  go_enter Tryz.func78, Tryz.ntmps78
  go_wp2_with (first | ((with_reducible refine gate_callee (f := 119) rfl ?_); refine gl 11 Tryz.func119 _ ((impl_LinesOf.calls (w := _) (hG := gB) (h := A2.out)).mono ?_); rintro e w9 ⟨v670, rfl, ho0, hb⟩; refine ⟨_, rfl, ?_⟩; have HO671 := lS ho0; replace HB := bS hb; clear hb ho0; obtain ⟨Ao10, co10, eo10⟩ := Kd.R_slice HO671.out; subst eo10; have q11 : ((ji6) : Int) ≤ ((t668.length : Int) : Int) := of_decide_eq_true za; obtain ⟨i011, hi011, _, hsz11, _⟩ := info_parts info9; have hroom11 : t668.length ≤ co10 := (Kd.R_reads' HO671.out).2.1; have hC11 : Kd.C Kd.string _ Ao10 t668.length t668 := (Kd.R_reads' HO671.out).2.2; have hcut11 := cut_to (P := Tryz.prog) 25 9 .i64 Tryz.underlying25 hi011 Ao10 t668.length co10 (ji6) (of_decide_eq_true za) q11 hroom11; have hr11 := Kd.C_take (m := ((ji6) : Int).toNat) hC11 (by omega); have hy11 : y672.length = ((ji6) : Int).toNat := (by rw [Ny672.out, List.length_take]; omega); rw [← Ny672.out] at hr11; rw [← hy11] at hcut11; have HR675 := Aside0.mk hr11; have HC675 := Aside0.mk (show y672.length ≤ co10 from by omega); clear hr11 hC11 hroom11 hi011 hsz11; have KY11 := Aside0.mk hy11; clear hy11; have KL11 := Aside0.mk (show ((ji6) : Int).toNat ≤ t668.length from by omega); replace q11 := eq_true q11))
  have HW9 := HB
  go_loopg [6, 23] k (fun kq v6 v23 w' => ∃ (x6_1 : List ByteArray) (x23_1 : Int), v23 = .int .i64 x23_1 ∧ Aside0 (impl_DotGet.l0 kq a0 x6_1 y672 (y672.length : Int) x23_1 = some (r1, r2)) ∧ Aside0 (kq ≤ k) ∧ Aside0 (Kd.R Kd.string 9 w' w9.heap.size (fun _ => True) v6 x6_1) ∧ Aside0 (Below w9.heap.size w9 w'))
  case atStart => exact ⟨(([] : List ByteArray)), (0), zs, H', ⟨Nat.le_refl _⟩, ⟨zn⟩, ⟨Below.refl _ _⟩⟩
  case round =>
   clear H'
   obtain ⟨x6_1, x23_1, rfl, HA, HK1, HO_6, HB⟩ := hrel
   cases gk with
   | zero => exact absurd HA.out (by simp [impl_DotGet.l0])
   | succ k1 =>
    have H := HA.out
    clear HA
    simp only [impl_DotGet.l0] at H
    replace H := its_d_d H; rcases H with ⟨c12b0, H⟩ | ⟨c12b0, H⟩
    ·replace H := itn_d H; obtain ⟨c13b0, H⟩ := H
     replace H := itn_d H; obtain ⟨c14b0, H⟩ := H
     replace H := bnd H; obtain ⟨t677, A15, H⟩ := H
     replace H := itn_L H; obtain ⟨LMc16, H⟩ := H
     first | (with_reducible replace H := bns H; obtain ⟨y678, Ny678, H⟩ := H) | (generalize hy_ : (x6_1 ++ [t677] : List ByteArray) = y678 at H; have Ny678 := Aside0.mk hy_.symm; clear hy_)
     have H' := Aside0.mk H
     clear H
     have p676 : 0 ≤ (x23_1 : Int) := of_decide_eq_true za
     have q676 : x23_1 < (y672.length : Int) := of_decide_eq_true za
     obtain ⟨ad676, e676, hx676_0⟩ := Kd.at_string HR675.out x23_1 p676 q676
     cases e676
     replace hx676_0 := (HB.out.cell (World.block_lt_of_cell? w9 _ hx676_0)).trans hx676_0
     replace p676 := eq_true p676
     replace q676 := eq_true q676
     go_wp2_with (first | ((with_reducible refine gate_callee (f := 120) rfl ?_); refine gv 29 Tryz.func120 _ (strings_TrimPrefix.calls (w := _) (h := A15.out)) ?_; rintro w' ⟨nd, rfl⟩) | ((with_reducible refine gate_builtin (b := .append) (xs := #[.tmp 27, .tmp 30]) rfl ?_); at_builtin; refine Kd.R_append Kd.string (w0 := w9) w9.heap.size rfl (.tmp 27) (.tmp 30) 25 9 (.string ⟨#[]⟩) 16 rfl Tryz.underlying25 info9 rfl z0_ (by omega) u6 x6_1 t677 [.string t677] (fun _ => True) (fun _ => False) rfl rfl ?aP (fun _ hk => hk.elim) ?aF ?aO ?aB ?aS ?aL ?_; (case aP => exact rfl); (case aB => exact zB); (case aF => exact (fun _ _ => trivial)); (case aO => exact (rO HO_6)); (case aS => exact (bZ)); (case aL => have := LMc16.out; omega); intro v679 w17 ho hb hg hat; rw [← Ny678.out] at ho; have n0_ := Aside0.mk (hb); have n1_ := Aside0.mk (ho); clear HB HO_6; have HB := n0_; have HO680 := n1_; clear n0_ n1_ ho hb hg hat))
     go_roundg k1
     case measure => have := HK1.out; omega
     case rel => exact ⟨(y678), (wrap64 (x23_1 + 1)), zs, H', ⟨by have := HK1.out; omega⟩, ⟨rO HO680⟩, ⟨zB⟩⟩
    ·replace H := bnd H; obtain ⟨t681, A18, H⟩ := H
     replace H := its_qn_qn H; rcases H with ⟨c19b0, c19b1, H⟩ | ⟨c19b0, c19b1, H⟩
     ·simp only [Option.some.injEq, Prod.mk.injEq] at H
      obtain ⟨rfl, rfl⟩ := H
      obtain ⟨Ao20, co20, eo20⟩ := Kd.R_slice HO_6.out
      subst eo20
      go_wp2_with (first | ((with_reducible refine gate_callee (f := 121) rfl ?_); refine gv 34 Tryz.func121 #[.slice Ao20 x6_1.length co20] (impl_DotPut.calls (w := _) (hr0 := rC HO_6) (hc0 := cL HO_6) (h := A18.out)) ?_; intro w21 hb; replace HO_6 := rS HO_6 hb; replace HB := bS hb; clear hb))
      go_ret2
      exact ⟨_, by first | rfl | (simp [errW_none, errW_some] <;> rfl) | (simp only [← hji6]; first | rfl | (simp [errW_none, errW_some] <;> rfl)) | (simp [*, errW_none, errW_some] <;> rfl), Kd.R_lower (rO HO_6) HW9.out.size, HW9.out.trans (Below.mono zB HW9.out.size)⟩
     ·simp only [Option.some.injEq, Prod.mk.injEq] at H
      obtain ⟨rfl, rfl⟩ := H
      obtain ⟨Ao22, co22, eo22⟩ := Kd.R_slice HO_6.out
      subst eo22
      go_wp2_with (first | ((with_reducible refine gate_callee (f := 121) rfl ?_); refine gv 34 Tryz.func121 #[.slice Ao22 x6_1.length co22] (impl_DotPut.calls (w := _) (hr0 := rC HO_6) (hc0 := cL HO_6) (h := A18.out)) ?_; intro w23 hb; replace HO_6 := rS HO_6 hb; replace HB := bS hb; clear hb))
      go_ret2
      exact ⟨_, by first | rfl | (simp [errW_none, errW_some] <;> rfl) | (simp only [← hji6]; first | rfl | (simp [errW_none, errW_some] <;> rfl)) | (simp [*, errW_none, errW_some] <;> rfl), zn, HW9.out.trans (Below.mono zB HW9.out.size)⟩
end Go.Proofs.YtbncnjgflhoneaaGreatDoor.F
namespace Go.Proofs.YtbncnjgflhoneaaGreatDoor.Hand
open Go.RowKit Go.Proofs.YtbncnjgflhoneaaGreatDoor.F Go.Proofs.YtbncnjgflhoneaaGreatDoorW.PrintWords Go.Proofs.YtbncnjgflhoneaaGreatDoorW.PrintLast Go.Proofs.YtbncnjgflhoneaaGreatDoorW.PrintMore
def undot (p : List UInt8) : List UInt8 := if p.head? = some 46 then p.tail else p
def undotB (s : ByteArray) : ByteArray := B (undot s.data.toList)
theorem undot_le (p : List UInt8) : (undot p).length ≤ p.length := by
 unfold undot
 split
 ·rw [List.length_tail]; omega
 ·exact Nat.le_refl _
theorem undotB_le (s : ByteArray) : (undotB s).size ≤ s.size := by
 unfold undotB
 rw [B_size, ← data_length]
 exact undot_le _
def bodyOf (l : List UInt8) : List ByteArray := ((crlf l).1.map B).dropLast.map undotB
def dotG (l : List UInt8) : List ByteArray × Bool := if (decide (l.length ≤ 800) && (bodyB (bodyOf l) && decide (dotsL (bodyOf l) = l))) = true then (bodyOf l, true) else ([], false)
theorem idotput_tells (l : List ByteArray) (h : ∀ s ∈ l, s.size ≤ 1073741824) : impl_DotPut.f l = some (if bodyB l = true then B (dotsL l) else B []) := by
 have hs : l.all smallB = true := List.all_eq_true.2 fun s hs => decide_eq_true (by have := h s hs; omega)
 unfold impl_DotPut.f impl_isBody.f
 rw [if_pos hs, Option.bind_some]
 cases hb : bodyB l
 ·rfl
 ·have := (body_small hb).2.2
  unfold impl_dotted.f
  rw [if_pos rfl, if_pos (by omega)]
  rfl
theorem idot_from (s : ByteArray) (y : List ByteArray) (hy : y.length ≤ 1073741824) (hys : ∀ x ∈ y, x.size ≤ 1073741824) : ∀ (d i : Nat) (acc : List ByteArray), y.length = i + d → acc.length ≤ i → (∀ x ∈ acc, x.size ≤ 1073741824) →
  Ev (fun k => impl_DotGet.l0 k s acc y (y.length : Int) (i : Int)) (if (if bodyB (acc ++ (y.drop i).map undotB) = true then dotsL (acc ++ (y.drop i).map undotB) else []) = s.data.toList then (acc ++ (y.drop i).map undotB, true) else ([], false)) := by
 intro d
 induction d with
 | zero =>
  intro i acc hi ha hs
  rw [List.drop_eq_nil_of_le (by omega), List.map_nil, List.append_nil]
  refine Ev.step (f := fun _ => some (if (if bodyB acc = true then dotsL acc else []) = s.data.toList then (acc, true) else ([], false))) (fun k => ?_) (Ev.now _)
  rw [impl_DotGet.l0, if_neg (by omega), idotput_tells acc hs, Option.bind_some, toL, toL]
  have e : (if bodyB acc = true then B (dotsL acc) else B []).data.toList = if bodyB acc = true then dotsL acc else [] := by split <;> rw [B_data]
  rw [e]
  generalize (if bodyB acc = true then dotsL acc else []) = z
  by_cases hz : z = s.data.toList
  ·rw [if_pos hz, if_pos hz]
  ·rw [if_neg hz, if_neg hz]
 | succ d ih =>
  intro i acc hi ha hs
  have hlt : i < y.length := by omega
  have hr : rdOf ByteArray.empty y (i : Int) = y[i] := rdOf_mem' _ y i hlt
  refine Ev.step (f := fun k => impl_DotGet.l0 k s (acc ++ [undotB y[i]]) y (y.length : Int) ((i + 1 : Nat) : Int)) (fun k => ?_) ?_
  ·rw [impl_DotGet.l0, if_pos (by omega), if_pos (by omega), if_pos (by omega), hr, trimPrefix_one, Option.bind_some, if_pos (by omega), wrapIn (x := (i : Int) + 1) (by omega) (by omega), show ((i : Int) + 1) = ((i + 1 : Nat) : Int) by omega]
   rfl
  ·have h := ih (i + 1) (acc ++ [undotB y[i]]) (by omega) (by rw [List.length_append, List.length_singleton]; omega) (fun x hx => by
    rcases List.mem_append.1 hx with hx | hx
    ·exact hs x hx
    ·rw [List.mem_singleton] at hx
     subst hx
     have := undotB_le y[i]
     have := hys y[i] (List.getElem_mem hlt)
     omega)
   rw [List.append_assoc, List.singleton_append] at h
   rw [List.drop_eq_getElem_cons hlt, List.map_cons]
   exact h
theorem idot_step (s : ByteArray) (L : List ByteArray) (h0 : L.length ≠ 0) (h1 : L.length ≤ 1073741824) (k : Nat) :
  (if (L.length : Int) = 0 then (some (([] : List ByteArray), false)) else (if 0 ≤ (wrap64 ((L.length : Int) - 1)) then (if (wrap64 ((L.length : Int) - 1)) ≤ (L.length : Int) then ((some (L.take ((wrap64 ((L.length : Int) - 1)) : Int).toNat : List ByteArray)).bind fun y672 => (impl_DotGet.l0 k s ([] : List ByteArray) y672 (y672.length : Int) 0)) else (none)) else (none))) = impl_DotGet.l0 k s ([] : List ByteArray) L.dropLast (L.dropLast.length : Int) 0 := by
 rw [if_neg (by omega), wrapIn (x := (L.length : Int) - 1) (by omega) (by omega), if_pos (by omega), if_pos (by omega), Option.bind_some, show ((L.length : Int) - 1).toNat = L.length - 1 by omega, ← List.dropLast_eq_take]
theorem idotget_tells (s : ByteArray) (hs : s.size ≤ 536870912) : Ev (fun k => impl_DotGet.f k s) (dotG s.data.toList) := by
 have hl := data_length s
 have hc := crlf_le s.data.toList
 unfold dotG
 by_cases h8 : s.size ≤ 800
 ·rw [decide_eq_true (p := s.data.toList.length ≤ 800) (by omega), Bool.true_and]
  have hls : Ev (fun k => impl_LinesOf.f k s) ((crlf s.data.toList).1.map B, B (crlf s.data.toList).2) := by
   refine Ev.congr (f := fun k => (impl_split.f k s).bind fun bt101 => (some (bt101.1, bt101.2))) (fun k => ?_) (Ev.call (isplit_tells s (by omega)) (h := fun _ => some ((crlf s.data.toList).1.map B, B (crlf s.data.toList).2)) (fun k => rfl) (Ev.now _))
   unfold impl_LinesOf.f
   rw [if_neg (by omega)]
  unfold impl_DotGet.f
  cases hn : (crlf s.data.toList).1 with
  | nil =>
   rw [hn] at hls
   have e : bodyOf s.data.toList = [] := by unfold bodyOf; rw [hn]; rfl
   have e2 : ¬ dotsL [] = s.data.toList := fun e => by
    have : crlf s.data.toList = ([[46]], []) := by rw [← e]; rfl
    rw [this] at hn
    cases hn
   rw [e, if_neg (by simp [e2])]
   exact Ev.call hls (h := fun _ => some ([], false)) (fun k => if_pos rfl) (Ev.now _)
  | cons a r =>
   have hne : ((crlf s.data.toList).1.map B).length ≠ 0 := by rw [hn]; simp
   have hlen : ((crlf s.data.toList).1.map B).length = (crlf s.data.toList).1.length := List.length_map ..
   refine Ev.call hls (h := fun k => impl_DotGet.l0 k s ([] : List ByteArray) ((crlf s.data.toList).1.map B).dropLast ((((crlf s.data.toList).1.map B).dropLast.length : Nat) : Int) 0) (fun k => idot_step s _ hne (by omega) k) ?_
   ·have hb := idot_from s ((crlf s.data.toList).1.map B).dropLast (by rw [List.length_dropLast]; omega) (fun x hx => by
     have hx := (List.dropLast_sublist _).subset hx
     obtain ⟨y, hy, rfl⟩ := List.mem_map.1 hx
     have := hc.2.1 y hy
     rw [B_size]; omega) ((crlf s.data.toList).1.map B).dropLast.length 0 [] (by omega) (Nat.le_refl _) (fun _ h => by cases h)
    rw [List.drop_zero, List.nil_append] at hb
    have e : ((crlf s.data.toList).1.map B).dropLast.map undotB = bodyOf s.data.toList := rfl
    rw [e] at hb
    have hs0 : ¬ ([] : List UInt8) = s.data.toList := fun e => by rw [← e] at hn; cases hn
    cases hbb : bodyB (bodyOf s.data.toList)
    ·rw [hbb] at hb
     rw [Bool.false_and, if_neg (by decide)]
     rw [if_neg (by decide : ¬ false = true), if_neg hs0] at hb
     exact hb
    ·rw [hbb] at hb
     rw [Bool.true_and]
     rw [if_pos rfl] at hb
     by_cases hd : dotsL (bodyOf s.data.toList) = s.data.toList
     ·rw [if_pos hd] at hb
      rw [if_pos (decide_eq_true hd)]
      exact hb
     ·rw [if_neg hd] at hb
      rw [if_neg (by simpa using hd)]
      exact hb
 ·rw [decide_eq_false (p := s.data.toList.length ≤ 800) (by omega), Bool.false_and, if_neg (by decide)]
  refine Ev.congr (f := fun _ => some ([], false)) (fun k => ?_) (Ev.now _)
  unfold impl_DotGet.f impl_LinesOf.f
  rw [if_pos (by omega), Option.bind_some]
  exact if_pos rfl
theorem body_signs {l : List ByteArray} (h : bodyB l = true) : ∀ s ∈ l, (13 : UInt8) ∉ s.data.toList := by
 unfold bodyB at h
 rw [Bool.and_eq_true] at h
 intro s hs hx
 have := List.all_eq_true.1 h.2 s hs
 unfold lineB at this
 rw [Bool.and_eq_true] at this
 exact absurd (List.all_eq_true.1 this.1 13 hx) (by decide)
def dotted (s : ByteArray) : List UInt8 := (if s.data.toList.head? = some 46 then [46] else []) ++ s.data.toList
theorem undot_dotted (s : ByteArray) : undot (dotted s) = s.data.toList := by
 unfold undot dotted
 by_cases h : s.data.toList.head? = some 46
 ·rw [if_pos h, if_pos (by rfl)]
  rfl
 ·rw [if_neg h, List.nil_append, if_neg h]
theorem crlf_dots : ∀ l : List ByteArray, (∀ s ∈ l, (13 : UInt8) ∉ s.data.toList) → crlf (dotsL l) = (l.map dotted ++ [[46]], [])
 | [], _ => rfl
 | s :: l, h => by
  have e : dotsL (s :: l) = dotted s ++ 13 :: 10 :: dotsL l := by
   unfold dotsL dotted dotL
   simp
  have hn : (13 : UInt8) ∉ dotted s := by
   unfold dotted
   rw [List.mem_append, not_or]
   refine ⟨?_, h s (by simp)⟩
   split <;> simp
  rw [e, crlf_line _ _ hn, crlf_dots l (fun x hx => h x (by simp [hx]))]
  rfl
theorem dotG_text {l : List ByteArray} (h : bodyB l = true) : dotG (dotsL l) = (l, true) := by
 have hb : bodyOf (dotsL l) = l := by
  unfold bodyOf
  rw [crlf_dots l (body_signs h), List.map_append, List.map_singleton, List.dropLast_concat, List.map_map, List.map_map]
  have : ((undotB ∘ B) ∘ dotted) = (id : ByteArray → ByteArray) := by
   funext s
   show undotB (B (dotted s)) = s
   unfold undotB
   rw [B_data, undot_dotted, B_of]
  rw [this, List.map_id]
 have hs := (body_small h).2.2
 unfold dotG
 rw [hb, h, if_pos (by simp; omega)]
theorem dotG_small (l : List UInt8) : (dotG l).1.length ≤ 1073741824 ∧ ∀ s ∈ (dotG l).1, s.size ≤ 1073741824 := by
 unfold dotG
 split
 ·rename_i h
  rw [Bool.and_eq_true, Bool.and_eq_true] at h
  have hs := body_small h.2.1
  exact ⟨by show (bodyOf l).length ≤ _; omega, fun s hs' => by have := hs.2.1 s hs'; omega⟩
 ·exact ⟨by show (0 : Nat) ≤ _; omega, fun s hs' => absurd (show s ∈ ([] : List ByteArray) from hs') (by simp)⟩
end Go.Proofs.YtbncnjgflhoneaaGreatDoor.Hand
namespace Go.Proofs.YtbncnjgflhoneaaGreatDoor.F
open Go.RowKit Go.Proofs.YtbncnjgflhoneaaGreatDoor.Hand Go.Proofs.YtbncnjgflhoneaaGreatDoorW.PrintWords Go.Proofs.YtbncnjgflhoneaaGreatDoorW.PrintLast Go.Proofs.YtbncnjgflhoneaaGreatDoorW.PrintMore
set_option linter.unusedVariables false
set_option linter.unusedSimpArgs false
def impl_MailGet.l0 : Nat → ByteArray → ByteArray → List ByteArray → Int → Int → ByteArray → ByteArray → List (S32) → Option (ByteArray × ByteArray × (List (S32)) × List ByteArray × Bool)
 | 0, _, _, _, _, _, _, _, _ => none
 | k + 1, x0, x5, x29, x30, x31, x106000, x106001, x106002 => if x31 < x30 then (if 0 ≤ x31 then (if x31 < (x29.length : Int) then ((strings_Cut.f (rdOf ByteArray.empty x29 x31) (⟨#[32]⟩ : ByteArray)).bind fun bt110 => ((impl_AddrGet.f k bt110.2.1).bind fun bt113 => (if bt113.2.2 = true then (if x31 = 0 then (impl_MailGet.l0 k x0 x5 x29 x30 (wrap64 (x31 + 1)) bt113.1 bt113.2.1 x106002) else (if x106002.length < 4398046511104 then (impl_MailGet.l0 k x0 x5 x29 x30 (wrap64 (x31 + 1)) x106000 x106001 (x106002 ++ [(⟨bt113.1, bt113.2.1⟩ : S32)])) else (none))) else (some ((⟨#[]⟩ : ByteArray), (⟨#[]⟩ : ByteArray), ([] : List (S32)), ([] : List ByteArray), false))))) else (none)) else (none)) else ((impl_DotGet.f k x5).bind fun bt120 => (if bt120.2 = true then ((impl_MailPut.f k x106000 x106001 x106002 bt120.1).bind fun t124 => (if t124.toList = x0.toList then (some (x106000, x106001, x106002, bt120.1, true)) else (some ((⟨#[]⟩ : ByteArray), (⟨#[]⟩ : ByteArray), ([] : List (S32)), ([] : List ByteArray), false)))) else (some ((⟨#[]⟩ : ByteArray), (⟨#[]⟩ : ByteArray), ([] : List (S32)), ([] : List ByteArray), false))))
def impl_MailGet.f (k : Nat) (a0 : ByteArray) : Option (ByteArray × ByteArray × (List (S32)) × List ByteArray × Bool) := if (a0.size : Int) > 800 then (some ((⟨#[]⟩ : ByteArray), (⟨#[]⟩ : ByteArray), ([] : List (S32)), ([] : List ByteArray), false)) else ((strings_Cut.f a0 (⟨#[13, 10, 13, 10]⟩ : ByteArray)).bind fun bt102 => (if bt102.2.2 = true then ((strings_Split.f bt102.1 (⟨#[13, 10]⟩ : ByteArray)).bind fun t106 => (impl_MailGet.l0 k a0 bt102.2.1 t106 (t106.length : Int) 0 (⟨#[]⟩ : ByteArray) (⟨#[]⟩ : ByteArray) ([] : List (S32)))) else (some ((⟨#[]⟩ : ByteArray), (⟨#[]⟩ : ByteArray), ([] : List (S32)), ([] : List ByteArray), false))))
set_option maxHeartbeats 8000000 in
set_option maxRecDepth 100000 in
theorem impl_MailGet.calls (k : Nat) (a0 : ByteArray) (r1 : ByteArray) (r2 : ByteArray) (r3 : List (S32)) (r4 : List ByteArray) (r5 : Bool) (w : World) (hG : Laid w) (h : impl_MailGet.f k a0 = some (r1, r2, r3, r4, r5)) :
  Calls Tryz.prog 41 #[.string a0] w fun e w' => ∃ v2_ v3_ : Value, e = .returned (.tuple #[.agg #[.string r1, .string r2, v2_, v3_], .bool r5]) ∧ Kd.R k32 32 w' w.heap.size (fun _ => True) v2_ r3 ∧ Kd.R Kd.string 9 w' w.heap.size (fun _ => True) v3_ r4 ∧ Below w.heap.size w w' := by
 have hu35 := Tryz.underlying35
 have hu32 := Tryz.underlying32
 have HG := Aside0.mk hG
 clear hG
 have HB := Aside0.mk (Below.refl w.heap.size w)
 have H := h
 clear h
 unfold impl_MailGet.f at H
 replace H := its_cd_cd H; rcases H with ⟨c2, c2b0, H⟩ | ⟨c2, c2b0, H⟩
 ·have c2b1 : decide (800 < a0.size) = true := decide_eq_true (by omega)
  clear c2
  simp only [Option.some.injEq, Prod.mk.injEq] at H
  obtain ⟨rfl, rfl, rfl, rfl, rfl⟩ := H
  go_enter Tryz.func41, Tryz.ntmps41
  go_wp2_with (first | ((with_reducible refine gate_dst (N := 2) rfl ?_); refine bx (cs := #[.string ⟨#[]⟩, .string ⟨#[]⟩, .slice none 0 0, .slice none 0 0]) (t := 35) ?_; intro gb101 hg w3 hbox hb; have BK101 := Aside0.mk (hbox); have GW101 := gS hg; have GE101 := gS hg; replace HB := bS hb; clear hb hbox hg; have hcz4 := cz4 BK101.out; have hfz4 := fz4 BK101.out))
  refine bodyPost_ret (results_ct rfl _ _ gb101 35 #[.string (⟨#[]⟩ : ByteArray), .string (⟨#[]⟩ : ByteArray), .slice none 0 0, .slice none 0 0] (0, 0) _ rfl (kQ BK101) Tryz.underlying35 rfl (by kernel_rfl)) rfl ?_
  exact ⟨_, _, zr, zn, zn, zB⟩
 ·have c2b1 : decide (800 < a0.size) = false := decide_eq_false (by omega)
  clear c2
  replace H := bnd H; obtain ⟨⟨t102, t103, t104⟩, A5, H⟩ := H
  dsimp only at H
  replace H := itb H; rcases H with ⟨rfl, H⟩ | ⟨rfl, H⟩
  ·replace H := bnd H; obtain ⟨t106, A7, H⟩ := H
   have H' := Aside0.mk H
   clear H
   go_enter Tryz.func41, Tryz.ntmps41
   go_wp2_with (first | ((with_reducible refine gate_dst (N := 2) rfl ?_); refine bx (cs := #[.string ⟨#[]⟩, .string ⟨#[]⟩, .slice none 0 0, .slice none 0 0]) (t := 35) ?_; intro gb101 hg w8 hbox hb; have BK101 := Aside0.mk (hbox); have GW101 := gS hg; have GE101 := gS hg; replace HB := bS hb; clear hb hbox hg) | ((with_reducible refine gate_callee (f := 39) rfl ?_); refine gv 21 Tryz.func39 _ (strings_Cut.calls (w := _) (hG := gB) (h := A5.out)) ?_; rintro w' ⟨nd, rfl⟩) | ((with_reducible refine gate_dst (N := 7) rfl ?_); refine bx (cs := #[.string ⟨#[]⟩, .string ⟨#[]⟩, .slice none 0 0, .slice none 0 0]) (t := 35) ?_; intro gb105 hg w9 hbox hb; have BK105 := Aside0.mk (hbox); have GW105 := gS hg; have GE105 := gS hg; have NB101_105 := nS hg BK101; have NB105_101 := nG hg BK101; replace BK101 := kS BK101 hb; replace HB := bS hb; clear hb hbox hg) | ((with_reducible refine gate_callee (f := 42) rfl ?_); refine gl 29 Tryz.func42 _ ((strings_Split.calls (w := _) (hG := gB) (h := A7.out)).mono ?_); rintro e w10 ⟨v107, rfl, ho0, hb⟩; refine ⟨_, rfl, ?_⟩; have HO108 := lS ho0; replace BK101 := kS BK101 hb; replace BK105 := kS BK105 hb; replace HB := bS hb; clear hb ho0; obtain ⟨Ao11, co11, eo11⟩ := Kd.R_slice HO108.out; subst eo11))
   go_loopg [31] k (fun kq v31 w' => ∃ (x31_1 : Int) (x102000_1 : ByteArray) (x102001_1 : ByteArray) (x106000_1 : ByteArray) (x106001_1 : ByteArray) (x106002_1 : List (S32)) (u106002 : Value), v31 = .int .i64 x31_1 ∧ Aside0 (impl_MailGet.l0 kq a0 t103 t106 (t106.length : Int) x31_1 x106000_1 x106001_1 x106002_1 = some (r1, r2, r3, r4, r5)) ∧ Aside0 (kq ≤ k) ∧ Aside0 (Kd.R Kd.string 9 w' w.heap.size (fun _ => True) (.slice Ao11 t106.length co11) t106) ∧ Aside0 (Kd.R k32 32 w' w.heap.size (fun _ => True) u106002 x106002_1) ∧ Aside0 (w'.heap[gb101]? = some (.cells #[.string x102000_1, .string x102001_1, (.slice none 0 0), (.slice none 0 0)] 35 (0, 0))) ∧ Aside0 (w'.heap[gb105]? = some (.cells #[.string x106000_1, .string x106001_1, u106002, (.slice none 0 0)] 35 (0, 0))) ∧ Aside0 (Below w.heap.size w w'))
   case atStart => exact ⟨(0), ((⟨#[]⟩ : ByteArray)), ((⟨#[]⟩ : ByteArray)), ((⟨#[]⟩ : ByteArray)), ((⟨#[]⟩ : ByteArray)), (([] : List (S32))), (.slice none 0 0), zs, H', ⟨Nat.le_refl _⟩, ⟨rO HO108⟩, ⟨zn⟩, ⟨kQ BK101⟩, ⟨kQ BK105⟩, ⟨zB⟩⟩
   case round =>
    clear H'
    obtain ⟨x31_1, x102000_1, x102001_1, x106000_1, x106001_1, x106002_1, u106002, rfl, HA, HK1, HO_29, HO_106002, BK101, BK105, HB⟩ := hrel
    cases gk with
    | zero => exact absurd HA.out (by simp [impl_MailGet.l0])
    | succ k1 =>
     have H := HA.out
     clear HA
     simp only [impl_MailGet.l0] at H
     replace H := its_d_d H; rcases H with ⟨c12b0, H⟩ | ⟨c12b0, H⟩
     ·replace H := itn_d H; obtain ⟨c13b0, H⟩ := H
      replace H := itn_d H; obtain ⟨c14b0, H⟩ := H
      replace H := bnd H; obtain ⟨⟨t110, t111, t112⟩, A15, H⟩ := H
      dsimp only at H
      replace H := bnd H; obtain ⟨⟨t113, t114, t115⟩, A16, H⟩ := H
      dsimp only at H
      replace H := itb H; rcases H with ⟨rfl, H⟩ | ⟨rfl, H⟩
      ·replace H := its_qn_qn H; rcases H with ⟨c18b0, c18b1, H⟩ | ⟨c18b0, c18b1, H⟩
       ·have H' := Aside0.mk H
        clear H
        have p109 : 0 ≤ (x31_1 : Int) := of_decide_eq_true za
        have q109 : x31_1 < (t106.length : Int) := of_decide_eq_true za
        obtain ⟨ad109, e109, hx109_0⟩ := Kd.at_string (Kd.R_reads' HO_29.out).2.2 x31_1 p109 q109
        cases e109
        replace p109 := eq_true p109
        replace q109 := eq_true q109
        go_wp2_with (first | ((with_reducible refine gate_callee (f := 39) rfl ?_); refine gv 38 Tryz.func39 _ (strings_Cut.calls (w := _) (hG := gB) (h := A15.out)) ?_; rintro w' ⟨nd, rfl⟩; (try (rw [drewN_self wr]; generalize hq_ : World.drewN wr _ = wr; have n0_ : Aside0 (Kd.R k32 32 wr w.heap.size (fun _ => True) u106002 x106002_1) := ⟨by rw [← hq_]; exact (rO HO_106002)⟩; have n1_ : Aside0 (Kd.R Kd.string 9 wr w.heap.size (fun _ => True) (.slice (some ad109) t106.length co11) t106) := ⟨by rw [← hq_]; exact (rO HO_29)⟩; have n2_ : Aside0 (wr.heap[gb101]? = some (.cells #[.string x102000_1, .string x102001_1, .slice none 0 0, .slice none 0 0] 35 (0, 0))) := ⟨by rw [← hq_]; exact (kQ BK101)⟩; have n3_ : Aside0 (wr.heap[gb105]? = some (.cells #[.string x106000_1, .string x106001_1, u106002, .slice none 0 0] 35 (0, 0))) := ⟨by rw [← hq_]; exact (kQ BK105)⟩; have n4_ : Aside0 (Below w.heap.size w wr) := ⟨by rw [← hq_]; exact zB⟩; clear HO_106002 HO_29 BK101 BK105 HB hq_; have HO_106002 := n0_; have HO_29 := n1_; have BK101 := n2_; have BK105 := n3_; have HB := n4_; clear n0_ n1_ n2_ n3_ n4_))) | ((with_reducible refine gate_callee (f := 43) rfl ?_); refine gv 44 Tryz.func43 _ (impl_AddrGet.calls (w := _) (hG := gB) (h := A16.out)) ?_; intro w19 hb; replace HO_29 := rS HO_29 hb; replace HO_106002 := rS HO_106002 hb; replace BK101 := kS BK101 hb; replace BK105 := kS BK105 hb; replace HB := bS hb; clear hb) | ((with_reducible refine gate_dst (N := 13) rfl ?_); refine bx (cs := #[.string ⟨#[]⟩, .string ⟨#[]⟩]) (t := 32) ?_; intro gb116 hg w20 hbox hb; replace HO_29 := rS HO_29 hb; replace HO_106002 := Aside0.mk (Kd.R_below (Kd.R_elderB (rO HO_106002) gb116 (Nat.le_of_eq hg.symm)) hb); have BK116 := Aside0.mk (hbox); have GW116 := gS hg; have GE116 := gS hg; have NB101_116 := nS hg BK101; have NB116_101 := nG hg BK101; replace BK101 := kS BK101 hb; have NB105_116 := nS hg BK105; have NB116_105 := nG hg BK105; replace BK105 := kS BK105 hb; replace HB := bS hb; clear hb hbox hg; have hnb21 := NB116_101.out; have hnc21 := NB101_116.out; have hnb22 := NB116_105.out; have hnc22 := NB105_116.out; have hcz23 := cz2 BK116.out; have hfz23 := fz2 BK116.out; have hnb24 := NB105_101.out; have hnc24 := NB101_105.out; have hcz25 := cz4 BK105.out; have hfz25 := fz4 BK105.out))
        go_roundg k1
        case measure => have := HK1.out; omega
        case rel => exact ⟨(wrap64 (x31_1 + 1)), (x102000_1), (x102001_1), (t113), (t114), (x106002_1), (u106002), zs, H', ⟨by have := HK1.out; omega⟩, ⟨by (with_reducible repeat (first | apply Kd.R_alloc | apply Kd.R_drewN | apply Kd.R_drew)); exact Kd.R_mono (Kd.R_far (p := ⟨gb105, 1, none⟩) (Kd.R_far (p := ⟨gb105, 0, none⟩) (Kd.R_far (p := ⟨gb116, 1, none⟩) (Kd.R_far (p := ⟨gb116, 0, none⟩) (Kd.R_types (Kd.R_types HO_29.out BK116.out z0_) BK105.out z0_) (fun _ hk => hk.1.2) (.string t113)) (fun _ hk => hk.1.2) (.string t114)) (fun _ hk => hk.2) (.string t113)) (fun _ hk => hk.2) (.string t114)) (fun _ hk => trivial)⟩, ⟨by (with_reducible repeat (first | apply Kd.R_alloc | apply Kd.R_drewN | apply Kd.R_drew)); exact Kd.R_mono (Kd.R_far (p := ⟨gb105, 1, none⟩) (Kd.R_far (p := ⟨gb105, 0, none⟩) (Kd.R_far (p := ⟨gb116, 1, none⟩) (Kd.R_far (p := ⟨gb116, 0, none⟩) (Kd.R_types (Kd.R_mono HO_106002.out (fun k_ hk => (⟨hk, hk.2⟩ : _ ∧ k_ ≠ gb116))) BK105.out z0_) (fun _ hk => hk.1.2) (.string t113)) (fun _ hk => hk.1.2) (.string t114)) (fun _ hk => hk.2) (.string t113)) (fun _ hk => hk.2) (.string t114)) (fun _ hk => trivial)⟩, ⟨kQ BK101⟩, ⟨kQ BK105⟩, ⟨zB⟩⟩
       ·replace H := itn_L H; obtain ⟨LMc26, H⟩ := H
        first | (with_reducible replace H := bns H; obtain ⟨y117, Ny117, H⟩ := H) | (generalize hy_ : (x106002_1 ++ [(⟨t113, t114⟩ : S32)] : List (S32)) = y117 at H; have Ny117 := Aside0.mk hy_.symm; clear hy_)
        have H' := Aside0.mk H
        clear H
        have p109 : 0 ≤ (x31_1 : Int) := of_decide_eq_true za
        have q109 : x31_1 < (t106.length : Int) := of_decide_eq_true za
        obtain ⟨ad109, e109, hx109_0⟩ := Kd.at_string (Kd.R_reads' HO_29.out).2.2 x31_1 p109 q109
        cases e109
        replace p109 := eq_true p109
        replace q109 := eq_true q109
        go_wp2_with (first | ((with_reducible refine gate_callee (f := 39) rfl ?_); refine gv 38 Tryz.func39 _ (strings_Cut.calls (w := _) (hG := gB) (h := A15.out)) ?_; rintro w' ⟨nd, rfl⟩; (try (rw [drewN_self wr]; generalize hq_ : World.drewN wr _ = wr; have n0_ : Aside0 (Kd.R k32 32 wr w.heap.size (fun _ => True) u106002 x106002_1) := ⟨by rw [← hq_]; exact (rO HO_106002)⟩; have n1_ : Aside0 (Kd.R Kd.string 9 wr w.heap.size (fun _ => True) (.slice (some ad109) t106.length co11) t106) := ⟨by rw [← hq_]; exact (rO HO_29)⟩; have n2_ : Aside0 (wr.heap[gb101]? = some (.cells #[.string x102000_1, .string x102001_1, .slice none 0 0, .slice none 0 0] 35 (0, 0))) := ⟨by rw [← hq_]; exact (kQ BK101)⟩; have n3_ : Aside0 (wr.heap[gb105]? = some (.cells #[.string x106000_1, .string x106001_1, u106002, .slice none 0 0] 35 (0, 0))) := ⟨by rw [← hq_]; exact (kQ BK105)⟩; have n4_ : Aside0 (Below w.heap.size w wr) := ⟨by rw [← hq_]; exact zB⟩; clear HO_106002 HO_29 BK101 BK105 HB hq_; have HO_106002 := n0_; have HO_29 := n1_; have BK101 := n2_; have BK105 := n3_; have HB := n4_; clear n0_ n1_ n2_ n3_ n4_))) | ((with_reducible refine gate_callee (f := 43) rfl ?_); refine gv 44 Tryz.func43 _ (impl_AddrGet.calls (w := _) (hG := gB) (h := A16.out)) ?_; intro w27 hb; replace HO_29 := rS HO_29 hb; replace HO_106002 := rS HO_106002 hb; replace BK101 := kS BK101 hb; replace BK105 := kS BK105 hb; replace HB := bS hb; clear hb) | ((with_reducible refine gate_dst (N := 13) rfl ?_); refine bx (cs := #[.string ⟨#[]⟩, .string ⟨#[]⟩]) (t := 32) ?_; intro gb116 hg w28 hbox hb; replace HO_29 := rS HO_29 hb; replace HO_106002 := Aside0.mk (Kd.R_below (Kd.R_elderB (rO HO_106002) gb116 (Nat.le_of_eq hg.symm)) hb); have BK116 := Aside0.mk (hbox); have GW116 := gS hg; have GE116 := gS hg; have NB101_116 := nS hg BK101; have NB116_101 := nG hg BK101; replace BK101 := kS BK101 hb; have NB105_116 := nS hg BK105; have NB116_105 := nG hg BK105; replace BK105 := kS BK105 hb; replace HB := bS hb; clear hb hbox hg; have hnb29 := NB116_101.out; have hnc29 := NB101_116.out; have hnb30 := NB116_105.out; have hnc30 := NB105_116.out; have hcz31 := cz2 BK116.out; have hfz31 := fz2 BK116.out; have hnb32 := NB105_101.out; have hnc32 := NB101_105.out; have hcz33 := cz4 BK105.out; have hfz33 := fz4 BK105.out) | ((with_reducible refine gate_builtin (b := .append) (xs := #[.tmp 48, .tmp 50]) rfl ?_); at_builtin; refine Kd.R_append k32 (w0 := w) w.heap.size rfl (.tmp 48) (.tmp 50) 33 32 (.agg #[(.string ⟨#[]⟩), (.string ⟨#[]⟩)]) 32 rfl Tryz.underlying33 info32 rfl z0_ (by omega) u106002 x106002_1 (⟨t113, t114⟩ : S32) [.string t113, .string t114] (fun k_ => k_ ≠ gb116) (fun _ => False) rfl (by first | (go_simp; done) | (go_simp; rfl)) ?aP (fun _ hk => hk.elim) ?aF ?aO ?aB ?aS ?aL ?_; (case aP => exact k32_mkM _ _ _ (⟨t113, t114⟩ : S32)); (case aB => exact zB); (case aF => exact (fun k_ hk => (kG BK116) k_ hk)); (case aO => exact (by (with_reducible repeat (first | apply Kd.R_alloc | apply Kd.R_drewN | apply Kd.R_drew)); exact Kd.R_mono (Kd.R_far (p := ⟨gb116, 1, none⟩) (Kd.R_far (p := ⟨gb116, 0, none⟩) (Kd.R_mono HO_106002.out (fun k_ hk => (⟨hk, hk.2⟩ : _ ∧ k_ ≠ gb116))) (fun _ hk => hk.2) (.string t113)) (fun _ hk => hk.2) (.string t114)) (fun _ hk => hk.1.2))); (case aS => exact (bZ)); (case aL => have := LMc26.out; omega); intro v118 w34 ho hb hg hat; rw [← Ny117.out] at ho; have n0_ := Aside0.mk (Kd.R_over' (fO HO_29 BK116) (Kd.R_typed (by (with_reducible repeat (first | apply Kd.R_alloc | apply Kd.R_drewN | apply Kd.R_drew)); exact (Kd.R_mono (Kd.R_far (p := ⟨gb116, 1, none⟩) (Kd.R_far (p := ⟨gb116, 0, none⟩) (Kd.R_mono HO_106002.out (fun k_ hk => (⟨hk, hk.2⟩ : _ ∧ k_ ≠ gb116))) (fun _ hk => hk.2) (.string t113)) (fun _ hk => hk.2) (.string t114)) (fun _ h_ => h_.1)))) z0_ hg); have n1_ := Aside0.mk (blk_grown (g := gb101) (o := .cells #[.string x102000_1, .string x102001_1, .slice none 0 0, .slice none 0 0] 35 (0, 0)) (kQ BK101) hg (Kd.R_ne HO_106002.out BK101.out z0_)); have n2_ := Aside0.mk (blk_grown (g := gb105) (o := .cells #[.string x106000_1, .string x106001_1, u106002, .slice none 0 0] 35 (0, 0)) (kQ BK105) hg (Kd.R_ne HO_106002.out BK105.out z0_)); have n3_ := Aside0.mk (blk_grown (g := gb116) (o := .cells #[.string t113, .string t114] 32 (0, 0)) (kQ BK116) hg (Kd.R_away HO_106002.out (fun _ hk => hk.2))); have n4_ := Aside0.mk (hb); have n5_ := Aside0.mk (ho); clear HO_29 BK101 BK105 BK116 HB HO_106002; have HO_29 := n0_; have BK101 := n1_; have BK105 := n2_; have BK116 := n3_; have HB := n4_; have HO119 := n5_; clear n0_ n1_ n2_ n3_ n4_ n5_ ho hb hg hat; obtain ⟨Ao35, co35, eo35⟩ := Kd.R_slice HO119.out; subst eo35; have hcz36 := cz4 BK105.out; have hfz36 := fz4 BK105.out))
        go_roundg k1
        case measure => have := HK1.out; omega
        case rel => exact ⟨(wrap64 (x31_1 + 1)), (x102000_1), (x102001_1), (x106000_1), (x106001_1), (y117), (.slice Ao35 y117.length co35), zs, H', ⟨by have := HK1.out; omega⟩, ⟨fM HO_29 BK105 (fun _ hk => trivial)⟩, ⟨fM HO119 BK105 (fun _ hk => trivial)⟩, ⟨kQ BK101⟩, ⟨kQ BK105⟩, ⟨zB⟩⟩
      ·simp only [Option.some.injEq, Prod.mk.injEq] at H
       obtain ⟨rfl, rfl, rfl, rfl, rfl⟩ := H
       have p109 : 0 ≤ (x31_1 : Int) := of_decide_eq_true za
       have q109 : x31_1 < (t106.length : Int) := of_decide_eq_true za
       obtain ⟨ad109, e109, hx109_0⟩ := Kd.at_string (Kd.R_reads' HO_29.out).2.2 x31_1 p109 q109
       cases e109
       replace p109 := eq_true p109
       replace q109 := eq_true q109
       go_wp2_with (first | ((with_reducible refine gate_callee (f := 39) rfl ?_); refine gv 38 Tryz.func39 _ (strings_Cut.calls (w := _) (hG := gB) (h := A15.out)) ?_; rintro w' ⟨nd, rfl⟩; (try (rw [drewN_self wr]; generalize hq_ : World.drewN wr _ = wr; have n0_ : Aside0 (Kd.R k32 32 wr w.heap.size (fun _ => True) u106002 x106002_1) := ⟨by rw [← hq_]; exact (rO HO_106002)⟩; have n1_ : Aside0 (Kd.R Kd.string 9 wr w.heap.size (fun _ => True) (.slice (some ad109) t106.length co11) t106) := ⟨by rw [← hq_]; exact (rO HO_29)⟩; have n2_ : Aside0 (wr.heap[gb101]? = some (.cells #[.string x102000_1, .string x102001_1, .slice none 0 0, .slice none 0 0] 35 (0, 0))) := ⟨by rw [← hq_]; exact (kQ BK101)⟩; have n3_ : Aside0 (wr.heap[gb105]? = some (.cells #[.string x106000_1, .string x106001_1, u106002, .slice none 0 0] 35 (0, 0))) := ⟨by rw [← hq_]; exact (kQ BK105)⟩; have n4_ : Aside0 (Below w.heap.size w wr) := ⟨by rw [← hq_]; exact zB⟩; clear HO_106002 HO_29 BK101 BK105 HB hq_; have HO_106002 := n0_; have HO_29 := n1_; have BK101 := n2_; have BK105 := n3_; have HB := n4_; clear n0_ n1_ n2_ n3_ n4_))) | ((with_reducible refine gate_callee (f := 43) rfl ?_); refine gv 44 Tryz.func43 _ (impl_AddrGet.calls (w := _) (hG := gB) (h := A16.out)) ?_; intro w37 hb; replace HO_29 := rS HO_29 hb; replace HO_106002 := rS HO_106002 hb; replace BK101 := kS BK101 hb; replace BK105 := kS BK105 hb; replace HB := bS hb; clear hb) | ((with_reducible refine gate_dst (N := 13) rfl ?_); refine bx (cs := #[.string ⟨#[]⟩, .string ⟨#[]⟩]) (t := 32) ?_; intro gb116 hg w38 hbox hb; replace HO_29 := rS HO_29 hb; replace HO_106002 := Aside0.mk (Kd.R_below (Kd.R_elderB (rO HO_106002) gb116 (Nat.le_of_eq hg.symm)) hb); have BK116 := Aside0.mk (hbox); have GW116 := gS hg; have GE116 := gS hg; have NB101_116 := nS hg BK101; have NB116_101 := nG hg BK101; replace BK101 := kS BK101 hb; have NB105_116 := nS hg BK105; have NB116_105 := nG hg BK105; replace BK105 := kS BK105 hb; replace HB := bS hb; clear hb hbox hg; have hnb39 := NB116_101.out; have hnc39 := NB101_116.out; have hnb40 := NB116_105.out; have hnc40 := NB105_116.out; have hcz41 := cz2 BK116.out; have hfz41 := fz2 BK116.out; have hnb42 := NB101_105.out; have hnc42 := NB105_101.out; have hcz43 := cz4 BK101.out; have hfz43 := fz4 BK101.out))
       refine bodyPost_ret (results_ct rfl _ _ gb101 35 #[.string (⟨#[]⟩ : ByteArray), .string (⟨#[]⟩ : ByteArray), .slice none 0 0, .slice none 0 0] (0, 0) _ rfl (kQ BK101) Tryz.underlying35 rfl (by kernel_rfl)) rfl ?_
       exact ⟨_, _, zr, zn, zn, zB⟩
     ·replace H := bnd H; obtain ⟨⟨t120, t121⟩, A44, H⟩ := H
      dsimp only at H
      replace H := itb H; rcases H with ⟨rfl, H⟩ | ⟨rfl, H⟩
      ·replace H := bnd H; obtain ⟨t124, A46, H⟩ := H
       replace H := its_qn_qn H; rcases H with ⟨c47b0, c47b1, H⟩ | ⟨c47b0, c47b1, H⟩
       ·simp only [Option.some.injEq, Prod.mk.injEq] at H
        obtain ⟨rfl, rfl, rfl, rfl, rfl⟩ := H
        go_wp2_with (first | ((with_reducible refine gate_callee (f := 78) rfl ?_); refine gl 65 Tryz.func78 _ ((impl_DotGet.calls (w := _) (hG := gB) (h := A44.out)).mono ?_); rintro e w48 ⟨v122, rfl, ho0, hb⟩; refine ⟨_, rfl, ?_⟩; replace HO_106002 := rS HO_106002 hb; have HO123 := Aside0.mk (Kd.R_lower (Kd.R_new' ho0 (Kd.R_lt (rO HO_29))) (bZ)); replace HO_29 := Aside0.mk (Kd.R_elder' (rO HO_29) (Kd.R_base ho0) hb); replace BK101 := kS BK101 hb; replace BK105 := kS BK105 hb; replace HB := bS hb; clear hb ho0; obtain ⟨Ao49, co49, eo49⟩ := Kd.R_slice HO123.out; subst eo49; have hnb50 := NB105_101.out; have hnc50 := NB101_105.out; have hcz51 := cz4 BK105.out; have hfz51 := fz4 BK105.out; obtain ⟨Ao52, co52, eo52⟩ := Kd.R_slice HO_106002.out; subst eo52) | (go_at_call 28; refine (impl_MailPut.calls (w := _) (hG := gB) (hr0_2 := by refine (Kd.R_reads' (e := 32) (base := w.heap.size) (ok := fun k_ => True) (n := x106002_1.length) (c := co52) ?_).2.2; exact (fO HO_106002 BK105)) (hc0_2 := cL HO_106002) (hr0_3 := (Kd.R_reads' (fO HO123 BK105)).2.2) (hc0_3 := cL HO123) (h := A46.out)).mono ?_; rintro e w53 ⟨rfl, hb⟩; replace HO_29 := fS HO_29 BK105 hb; replace HO_106002 := fS HO_106002 BK105 hb; replace HO123 := fS HO123 BK105 hb; replace BK101 := kS BK101 hb; replace BK105 := kP (.cells #[.string x106000_1, .string x106001_1, .slice Ao52 x106002_1.length co52, .slice Ao49 t120.length co49] 35 (0, 0)) BK105 hb; replace HB := bS hb; clear hb; have hcz54 := cz4 BK105.out; have hfz54 := fz4 BK105.out; have hcz55 := cz4 BK101.out; have hfz55 := fz4 BK101.out))
        refine bodyPost_ret (results_ct rfl _ _ gb101 35 #[.string x106000_1, .string x106001_1, .slice Ao52 x106002_1.length co52, .slice Ao49 t120.length co49] (0, 0) _ rfl (kQ BK101) Tryz.underlying35 rfl (by kernel_rfl)) rfl ?_
        exact ⟨_, _, zr, fM HO_106002 BK101 (fun _ hk => trivial), fM HO123 BK101 (fun _ hk => trivial), zB⟩
       ·simp only [Option.some.injEq, Prod.mk.injEq] at H
        obtain ⟨rfl, rfl, rfl, rfl, rfl⟩ := H
        go_wp2_with (first | ((with_reducible refine gate_callee (f := 78) rfl ?_); refine gl 65 Tryz.func78 _ ((impl_DotGet.calls (w := _) (hG := gB) (h := A44.out)).mono ?_); rintro e w56 ⟨v122, rfl, ho0, hb⟩; refine ⟨_, rfl, ?_⟩; replace HO_106002 := rS HO_106002 hb; have HO123 := Aside0.mk (Kd.R_lower (Kd.R_new' ho0 (Kd.R_lt (rO HO_29))) (bZ)); replace HO_29 := Aside0.mk (Kd.R_elder' (rO HO_29) (Kd.R_base ho0) hb); replace BK101 := kS BK101 hb; replace BK105 := kS BK105 hb; replace HB := bS hb; clear hb ho0; obtain ⟨Ao57, co57, eo57⟩ := Kd.R_slice HO123.out; subst eo57; have hnb58 := NB105_101.out; have hnc58 := NB101_105.out; have hcz59 := cz4 BK105.out; have hfz59 := fz4 BK105.out; obtain ⟨Ao60, co60, eo60⟩ := Kd.R_slice HO_106002.out; subst eo60) | (go_at_call 28; refine (impl_MailPut.calls (w := _) (hG := gB) (hr0_2 := by refine (Kd.R_reads' (e := 32) (base := w.heap.size) (ok := fun k_ => True) (n := x106002_1.length) (c := co60) ?_).2.2; exact (fO HO_106002 BK105)) (hc0_2 := cL HO_106002) (hr0_3 := (Kd.R_reads' (fO HO123 BK105)).2.2) (hc0_3 := cL HO123) (h := A46.out)).mono ?_; rintro e w61 ⟨rfl, hb⟩; replace HO_29 := fS HO_29 BK105 hb; replace HO_106002 := fS HO_106002 BK105 hb; replace HO123 := fS HO123 BK105 hb; replace BK101 := kS BK101 hb; replace BK105 := kP (.cells #[.string x106000_1, .string x106001_1, .slice Ao60 x106002_1.length co60, .slice Ao57 t120.length co57] 35 (0, 0)) BK105 hb; replace HB := bS hb; clear hb; have hcz62 := cz4 BK101.out; have hfz62 := fz4 BK101.out))
        refine bodyPost_ret (results_ct rfl _ _ gb101 35 #[.string (⟨#[]⟩ : ByteArray), .string (⟨#[]⟩ : ByteArray), .slice none 0 0, .slice none 0 0] (0, 0) _ rfl (kQ BK101) Tryz.underlying35 rfl (by kernel_rfl)) rfl ?_
        exact ⟨_, _, zr, zn, zn, zB⟩
      ·simp only [Option.some.injEq, Prod.mk.injEq] at H
       obtain ⟨rfl, rfl, rfl, rfl, rfl⟩ := H
       go_wp2_with (first | ((with_reducible refine gate_callee (f := 78) rfl ?_); refine gl 65 Tryz.func78 _ ((impl_DotGet.calls (w := _) (hG := gB) (h := A44.out)).mono ?_); rintro e w63 ⟨v122, rfl, ho0, hb⟩; refine ⟨_, rfl, ?_⟩; replace HO_106002 := rS HO_106002 hb; have HO123 := Aside0.mk (Kd.R_lower (Kd.R_new' ho0 (Kd.R_lt (rO HO_29))) (bZ)); replace HO_29 := Aside0.mk (Kd.R_elder' (rO HO_29) (Kd.R_base ho0) hb); replace BK101 := kS BK101 hb; replace BK105 := kS BK105 hb; replace HB := bS hb; clear hb ho0; obtain ⟨Ao64, co64, eo64⟩ := Kd.R_slice HO123.out; subst eo64; have hnb65 := NB105_101.out; have hnc65 := NB101_105.out; have hcz66 := cz4 BK105.out; have hfz66 := fz4 BK105.out; have hcz67 := cz4 BK101.out; have hfz67 := fz4 BK101.out))
       refine bodyPost_ret (results_ct rfl _ _ gb101 35 #[.string (⟨#[]⟩ : ByteArray), .string (⟨#[]⟩ : ByteArray), .slice none 0 0, .slice none 0 0] (0, 0) _ rfl (kQ BK101) Tryz.underlying35 rfl (by kernel_rfl)) rfl ?_
       exact ⟨_, _, zr, zn, zn, zB⟩
  ·simp only [Option.some.injEq, Prod.mk.injEq] at H
   obtain ⟨rfl, rfl, rfl, rfl, rfl⟩ := H
   go_enter Tryz.func41, Tryz.ntmps41
   go_wp2_with (first | ((with_reducible refine gate_dst (N := 2) rfl ?_); refine bx (cs := #[.string ⟨#[]⟩, .string ⟨#[]⟩, .slice none 0 0, .slice none 0 0]) (t := 35) ?_; intro gb101 hg w68 hbox hb; have BK101 := Aside0.mk (hbox); have GW101 := gS hg; have GE101 := gS hg; replace HB := bS hb; clear hb hbox hg) | ((with_reducible refine gate_callee (f := 39) rfl ?_); refine gv 21 Tryz.func39 _ (strings_Cut.calls (w := _) (hG := gB) (h := A5.out)) ?_; rintro w' ⟨nd, rfl⟩; (try (rw [drewN_self w68]; generalize hq_ : World.drewN w68 _ = w68; have n0_ : Aside0 (w68.heap[gb101]? = some (.cells #[.string ⟨#[]⟩, .string ⟨#[]⟩, .slice none 0 0, .slice none 0 0] 35 (0, 0))) := ⟨by rw [← hq_]; exact (kQ BK101)⟩; have n1_ : Aside0 (Below w.heap.size w w68) := ⟨by rw [← hq_]; exact zB⟩; clear BK101 HB hq_; have BK101 := n0_; have HB := n1_; clear n0_ n1_)); have hcz69 := cz4 BK101.out; have hfz69 := fz4 BK101.out))
   refine bodyPost_ret (results_ct rfl _ _ gb101 35 #[.string (⟨#[]⟩ : ByteArray), .string (⟨#[]⟩ : ByteArray), .slice none 0 0, .slice none 0 0] (0, 0) _ rfl (kQ BK101) Tryz.underlying35 rfl (by kernel_rfl)) rfl ?_
   exact ⟨_, _, zr, zn, zn, zB⟩
end Go.Proofs.YtbncnjgflhoneaaGreatDoor.F
namespace Go.Proofs.YtbncnjgflhoneaaGreatDoor.Hand
open Go.RowKit Go.Proofs.YtbncnjgflhoneaaGreatDoor.F Go.Proofs.YtbncnjgflhoneaaGreatDoorW.PrintWords Go.Proofs.YtbncnjgflhoneaaGreatDoorW.PrintLast Go.Proofs.YtbncnjgflhoneaaGreatDoorW.PrintMore
def pieces (l : List UInt8) : List (List UInt8) := (crlf l).1 ++ [(crlf l).2]
theorem split_crlf : ∀ (n : Nat) (s : ByteArray), s.size ≤ n → (Lib.splitB (⟨#[13, 10]⟩ : ByteArray) 0 (Lib.countB s (⟨#[13, 10]⟩ : ByteArray)) s).map (·.data.toList) = pieces s.data.toList := by
 intro n
 have h2 : (⟨#[13, 10]⟩ : ByteArray).size = 2 := rfl
 have hd2 : (⟨#[13, 10]⟩ : ByteArray).data.toList = [13, 10] := rfl
 have miss : ∀ s : ByteArray, Lib.indexB s (⟨#[13, 10]⟩ : ByteArray) = -1 → (Lib.splitB (⟨#[13, 10]⟩ : ByteArray) 0 (Lib.countB s (⟨#[13, 10]⟩ : ByteArray)) s).map (·.data.toList) = pieces s.data.toList := fun s h => by
  have hc := (Lib.cutB_miss s _ h).2.2
  rw [hd2] at hc
  rw [Lib.countB_miss _ _ h, Lib.splitB_zero, List.map_singleton]
  unfold pieces
  rw [crlf_cut, if_neg (by rw [hc]; decide)]
  rfl
 induction n with
 | zero =>
  intro s hs
  rcases Lib.indexB_cases s (⟨#[13, 10]⟩ : ByteArray) with h | ⟨i, _, hr⟩
  ·exact miss s h
  ·rw [h2] at hr
   omega
 | succ n ih =>
  intro s hs
  rcases Lib.indexB_cases s (⟨#[13, 10]⟩ : ByteArray) with h | ⟨i, hi, hr⟩
  ·exact miss s h
  ·rw [h2] at hr
   obtain ⟨c1, c2, c3⟩ := Lib.cutB_hit s _ i hi
   rw [hd2] at c1 c2 c3
   have e1 : (s.extract 0 i).data.toList = (Lib.cut s.data.toList [13, 10]).1 := by rw [← c1]
   have e2 : (s.extract (i + 2) s.size).data.toList = (Lib.cut s.data.toList [13, 10]).2.1 := by rw [show i + 2 = i + (⟨#[13, 10]⟩ : ByteArray).size from rfl, ← c2]
   rw [Lib.countB_hit _ _ i (by decide) hi, Nat.add_comm 1, Lib.splitB_hit _ _ _ _ i hi, List.map_cons, h2, ih _ (by simp [ByteArray.size_extract]; omega), Nat.add_zero, e1, e2]
   have e3 : pieces s.data.toList = (Lib.cut s.data.toList [13, 10]).1 :: pieces (Lib.cut s.data.toList [13, 10]).2.1 := by
    unfold pieces
    rw [crlf_cut s.data.toList, if_pos c3]
    rfl
   rw [e3]
theorem map_B (L : List ByteArray) (M : List (List UInt8)) (h : L.map (·.data.toList) = M) : L = M.map B := by
 rw [← h, List.map_map]
 have : (B ∘ fun x : ByteArray => x.data.toList) = id := funext fun s => B_of s
 rw [this, List.map_id]
theorem psplit_tells (s : ByteArray) (hs : s.size ≤ 1073741824) : strings_Split.f s (⟨#[13, 10]⟩ : ByteArray) = some ((pieces s.data.toList).map B) := by
 unfold strings_Split.f
 rw [if_pos ⟨by omega, by decide⟩, map_B _ _ (split_crlf s.size s (Nat.le_refl _))]
theorem pieces_le (l : List UInt8) : (pieces l).length ≤ l.length + 1 ∧ ∀ x ∈ pieces l, x.length ≤ l.length := by
 have h := crlf_le l
 unfold pieces
 refine ⟨by rw [List.length_append, List.length_singleton]; omega, fun x hx => ?_⟩
 rcases List.mem_append.1 hx with hx | hx
 ·exact h.2.1 x hx
 ·rw [List.mem_singleton] at hx
  subst hx
  exact h.2.2
def Part (n : Nat) (u d : ByteArray) (ts : List S32) : Prop := u.size ≤ 800 ∧ d.size ≤ 800 ∧ ts.length ≤ n ∧ ∀ a ∈ ts, a.f0.size ≤ 800 ∧ a.f1.size ≤ 800
theorem Part.short {n : Nat} {u d : ByteArray} {ts : List S32} (h : Part n u d ts) (hn : n ≤ 1073741824) {body : List ByteArray} (hb : body.length ≤ 1073741824 ∧ ∀ s ∈ body, s.size ≤ 1073741824) : Short u d ts body :=
 ⟨by have := h.1; omega, by have := h.2.1; omega, fun a ha => by have := h.2.2.2 a ha; exact ⟨by omega, by omega⟩, hb.2, by have := h.2.2.1; omega, hb.1⟩
def headI : List (List UInt8) → Nat → ByteArray → ByteArray → List S32 → Option (ByteArray × ByteArray × List S32)
 | [], _, u, d, ts => some (u, d, ts)
 | t :: r, i, u, d, ts =>
  if (addrI (Lib.cut t [32]).2.1).2.2 = true then (if i = 0 then headI r (i + 1) (addrI (Lib.cut t [32]).2.1).1 (addrI (Lib.cut t [32]).2.1).2.1 ts else headI r (i + 1) u d (ts ++ [⟨(addrI (Lib.cut t [32]).2.1).1, (addrI (Lib.cut t [32]).2.1).2.1⟩]))
  else none
abbrev Mail : Type := ByteArray × ByteArray × List S32 × List ByteArray × Bool
def noMail : Mail := (B [], B [], [], [], false)
def putM (u d : ByteArray) (ts : List S32) (body : List ByteArray) : List UInt8 := if mailB u d ts body = true then mailT u d ts body else []
def finI (s b : List UInt8) (u d : ByteArray) (ts : List S32) : Mail := if (dotG b).2 = true then (if putM u d ts (dotG b).1 = s then (u, d, ts, (dotG b).1, true) else noMail) else noMail
def endI (s b : List UInt8) : Option (ByteArray × ByteArray × List S32) → Mail
 | none => noMail
 | some (u, d, ts) => finI s b u d ts
theorem impput_tells (u d : ByteArray) (ts : List S32) (body : List ByteArray) (hs : Short u d ts body) : Ev (fun k => impl_MailPut.f k u d ts body) (B (putM u d ts body)) := by
 unfold putM
 cases hm : mailB u d ts body
 ·refine Ev.congr (f := fun _ => some (B [])) (fun k => ?_) (Ev.now _)
  unfold impl_MailPut.f
  rw [pmail_tells u d ts body hs, hm, Option.bind_some]
  rfl
 ·exact pput_tells u d ts body hs hm
theorem imail_from (s b : ByteArray) (hb : b.size ≤ 800) (L : List (List UInt8)) (hL : L.length ≤ 801) (hLs : ∀ t ∈ L, t.length ≤ 800) : ∀ (e i : Nat) (u d : ByteArray) (ts : List S32), L.length = i + e → Part i u d ts →
  Ev (fun k => impl_MailGet.l0 k s b (L.map B) ((L.map B).length : Int) (i : Int) u d ts) (endI s.data.toList b.data.toList (headI (L.drop i) i u d ts)) := by
 have hml : (L.map B).length = L.length := List.length_map ..
 intro e
 induction e with
 | zero =>
  intro i u d ts hi hp
  rw [List.drop_eq_nil_of_le (by omega)]
  refine Ev.step (f := fun k => (impl_DotGet.f k b).bind fun bt120 => (if bt120.2 = true then ((impl_MailPut.f k u d ts bt120.1).bind fun t124 => (if t124.toList = s.toList then (some (u, d, ts, bt120.1, true)) else (some ((⟨#[]⟩ : ByteArray), (⟨#[]⟩ : ByteArray), ([] : List (S32)), ([] : List ByteArray), false)))) else (some ((⟨#[]⟩ : ByteArray), (⟨#[]⟩ : ByteArray), ([] : List (S32)), ([] : List ByteArray), false)))) (fun k => by
   rw [impl_MailGet.l0, if_neg (by omega)]) ?_
  have hd := idotget_tells b (by omega)
  have hsm := dotG_small b.data.toList
  refine Ev.bind hd ?_
  show Ev _ (finI s.data.toList b.data.toList u d ts)
  unfold finI
  by_cases h2 : (dotG b.data.toList).2 = true
  ·refine Ev.congr (fun k => if_pos h2) ?_
   refine Ev.call (impput_tells u d ts _ (hp.short (by omega) hsm)) (h := fun _ => some (if (dotG b.data.toList).2 = true then (if putM u d ts (dotG b.data.toList).1 = s.data.toList then (u, d, ts, (dotG b.data.toList).1, true) else noMail) else noMail)) (fun k => ?_) (Ev.now _)
   rw [if_pos h2, B_toList, toL]
   by_cases hq : putM u d ts (dotG b.data.toList).1 = s.data.toList
   ·rw [if_pos hq, if_pos hq]
   ·rw [if_neg hq, if_neg hq]
    rfl
  ·rw [if_neg h2]
   exact Ev.congr (fun k => if_neg h2) (Ev.now _)
 | succ e ih =>
  intro i u d ts hi hp
  have hlt : i < L.length := by omega
  have hlt' : i < (L.map B).length := by omega
  have hr : rdOf ByteArray.empty (L.map B) (i : Int) = B L[i] := by rw [rdOf_mem' _ _ i hlt', List.getElem_map]
  have ht := hLs L[i] (List.getElem_mem hlt)
  have hc := (cut_le [32] L[i]).2
  have ha := iaddr_tells (B (Lib.cut L[i] [32]).2.1) (by rw [B_size]; omega)
  have hal := addrI_le (Lib.cut L[i] [32]).2.1
  rw [B_data] at ha
  rw [List.drop_eq_getElem_cons hlt, headI]
  refine Ev.step (f := fun k => (impl_AddrGet.f k (B (Lib.cut L[i] [32]).2.1)).bind fun bt113 => (if bt113.2.2 = true then (if (i : Int) = 0 then (impl_MailGet.l0 k s b (L.map B) ((L.map B).length : Int) ((i + 1 : Nat) : Int) bt113.1 bt113.2.1 ts) else (if ts.length < 4398046511104 then (impl_MailGet.l0 k s b (L.map B) ((L.map B).length : Int) ((i + 1 : Nat) : Int) u d (ts ++ [(⟨bt113.1, bt113.2.1⟩ : S32)])) else (none))) else (some ((⟨#[]⟩ : ByteArray), (⟨#[]⟩ : ByteArray), ([] : List (S32)), ([] : List ByteArray), false)))) (fun k => by
   rw [impl_MailGet.l0, if_pos (by omega), if_pos (by omega), if_pos (by omega), hr, pcut_tells _ _ (by rw [B_size]; omega), Option.bind_some, B_data, wrapIn (x := (i : Int) + 1) (by omega) (by omega), show ((i : Int) + 1) = ((i + 1 : Nat) : Int) by omega]) ?_
  refine Ev.bind ha ?_
  by_cases hok : (addrI (Lib.cut L[i] [32]).2.1).2.2 = true
  ·refine Ev.congr (fun k => if_pos hok) ?_
   rw [if_pos hok]
   by_cases h0 : i = 0
   ·rw [if_pos h0]
    refine Ev.congr (fun k => if_pos (by omega)) (ih (i + 1) _ _ ts (by omega) ⟨by omega, by omega, by have := hp.2.2.1; omega, hp.2.2.2⟩)
   ·rw [if_neg h0]
    have hl3 := hp.2.2.1
    refine Ev.congr (fun k => (if_neg (by omega)).trans (if_pos (by omega))) (ih (i + 1) u d _ (by omega) ⟨hp.1, hp.2.1, by rw [List.length_append, List.length_singleton]; omega, fun a ha => ?_⟩)
    rcases List.mem_append.1 ha with ha | ha
    ·exact hp.2.2.2 a ha
    ·rw [List.mem_singleton] at ha
     subst ha
     exact ⟨by show (addrI _).1.size ≤ 800; omega, by show (addrI _).2.1.size ≤ 800; omega⟩
  ·rw [if_neg hok]
   exact Ev.congr (fun k => if_neg hok) (Ev.now _)
def mailI (l : List UInt8) : Mail := if l.length > 800 then noMail else if (Lib.cut l [13, 10, 13, 10]).2.2 = true then endI l (Lib.cut l [13, 10, 13, 10]).2.1 (headI (pieces (Lib.cut l [13, 10, 13, 10]).1) 0 (B []) (B []) []) else noMail
theorem imailget_tells (s : ByteArray) : Ev (fun k => impl_MailGet.f k s) (mailI s.data.toList) := by
 have hl := data_length s
 have hc := cut_le [13, 10, 13, 10] s.data.toList
 unfold mailI
 by_cases h8 : s.size > 800
 ·rw [if_pos (by omega)]
  refine Ev.congr (f := fun _ => some noMail) (fun k => ?_) (Ev.now _)
  unfold impl_MailGet.f
  rw [if_pos (by omega)]
  rfl
 ·rw [if_neg (by omega)]
  have step : ∀ k, impl_MailGet.f k s = if (Lib.cut s.data.toList [13, 10, 13, 10]).2.2 = true then (impl_MailGet.l0 k s (B (Lib.cut s.data.toList [13, 10, 13, 10]).2.1) ((pieces (Lib.cut s.data.toList [13, 10, 13, 10]).1).map B) (((pieces (Lib.cut s.data.toList [13, 10, 13, 10]).1).map B).length : Int) ((0 : Nat) : Int) (B []) (B []) []) else some noMail := fun k => by
   unfold impl_MailGet.f
   rw [if_neg (by omega), pcut_tells _ _ (by omega), Option.bind_some]
   show (if (Lib.cut s.data.toList [13, 10, 13, 10]).2.2 = true then (strings_Split.f (B (Lib.cut s.data.toList [13, 10, 13, 10]).1) _).bind _ else _) = _
   rw [psplit_tells _ (by rw [B_size]; omega), Option.bind_some, B_data]
   rfl
  refine Ev.congr step ?_
  by_cases hf : (Lib.cut s.data.toList [13, 10, 13, 10]).2.2 = true
  ·rw [if_pos hf]
   refine Ev.congr (fun k => if_pos hf) ?_
   have hp := pieces_le (Lib.cut s.data.toList [13, 10, 13, 10]).1
   have h := imail_from s (B (Lib.cut s.data.toList [13, 10, 13, 10]).2.1) (by rw [B_size]; omega) (pieces (Lib.cut s.data.toList [13, 10, 13, 10]).1) (by omega) (fun t ht => by have := hp.2 t ht; omega) _ 0 (B []) (B []) [] (Nat.zero_add _).symm ⟨by decide, by decide, by decide, fun _ h => by cases h⟩
   rw [List.drop_zero, B_data] at h
   exact h
  ·rw [if_neg hf]
   exact Ev.congr (fun k => if_neg hf) (Ev.now _)
theorem noMail_short : Short noMail.1 noMail.2.1 noMail.2.2.1 noMail.2.2.2.1 := ⟨by decide, by decide, fun _ h => absurd h (by unfold noMail; simp), fun _ h => absurd h (by unfold noMail; simp), by decide, by decide⟩
theorem headI_part : ∀ (L : List (List UInt8)) (i : Nat) (u d : ByteArray) (ts : List S32), (∀ t ∈ L, t.length ≤ 800) → Part i u d ts → ∀ q, headI L i u d ts = some q → Part (i + L.length) q.1 q.2.1 q.2.2
 | [], i, u, d, ts, _, hp, q, h => by
  injection h with h
  subst h
  exact hp
 | t :: r, i, u, d, ts, hL, hp, q, h => by
  have ht := hL t (by simp)
  have hr : ∀ t ∈ r, t.length ≤ 800 := fun x hx => hL x (by simp [hx])
  have hc := (cut_le [32] t).2
  have hal := addrI_le (Lib.cut t [32]).2.1
  rw [headI] at h
  rw [List.length_cons, show i + (r.length + 1) = (i + 1) + r.length by omega]
  split at h
  ·split at h
   ·exact headI_part r (i + 1) _ _ ts hr ⟨by omega, by omega, by have := hp.2.2.1; omega, hp.2.2.2⟩ q h
   ·refine headI_part r (i + 1) u d _ hr ⟨hp.1, hp.2.1, by rw [List.length_append, List.length_singleton]; have := hp.2.2.1; omega, fun a ha => ?_⟩ q h
    rcases List.mem_append.1 ha with ha | ha
    ·exact hp.2.2.2 a ha
    ·rw [List.mem_singleton] at ha
     subst ha
     exact ⟨by show (addrI _).1.size ≤ 800; omega, by show (addrI _).2.1.size ≤ 800; omega⟩
  ·cases h
theorem mailI_short (l : List UInt8) : Short (mailI l).1 (mailI l).2.1 (mailI l).2.2.1 (mailI l).2.2.2.1 := by
 have hc := cut_le [13, 10, 13, 10] l
 unfold mailI
 split
 ·exact noMail_short
 ·split
  ·rename_i h8 _
   have hp := pieces_le (Lib.cut l [13, 10, 13, 10]).1
   cases hq : headI (pieces (Lib.cut l [13, 10, 13, 10]).1) 0 (B []) (B []) [] with
   | none => exact noMail_short
   | some q =>
    have hP := headI_part _ 0 (B []) (B []) [] (fun t ht => by have := hp.2 t ht; omega) ⟨by decide, by decide, by decide, fun _ h => by cases h⟩ q hq
    obtain ⟨u, d, ts⟩ := q
    show Short (finI l _ u d ts).1 (finI l _ u d ts).2.1 (finI l _ u d ts).2.2.1 (finI l _ u d ts).2.2.2.1
    unfold finI
    split
    ·split
     ·exact hP.short (by omega) (dotG_small _)
     ·exact noMail_short
    ·exact noMail_short
  ·exact noMail_short
theorem cut_skip (x : UInt8) (t s : List UInt8) : ∀ a : List UInt8, x ∉ a → Lib.cut (a ++ s) (x :: t) = if (Lib.cut s (x :: t)).2.2 = true then (a ++ (Lib.cut s (x :: t)).1, (Lib.cut s (x :: t)).2.1, true) else (a ++ s, [], false)
 | [], _ => by
  rw [List.nil_append]
  unfold Lib.cut
  split <;> rfl
 | y :: a, h => by
  rw [List.mem_cons, not_or] at h
  rw [List.cons_append, cut_cons, if_neg (by simp only [List.isPrefixOf]; simp; exact fun e => absurd e h.1), cut_skip x t s a h.2]
  obtain ⟨p, q, f⟩ := Lib.cut s (x :: t)
  cases f <;> rfl
def flatL (L : List (List UInt8)) : List UInt8 := L.flatMap fun x => x ++ [13, 10]
def joinL : List (List UInt8) → List UInt8
 | [] => []
 | [x] => x
 | x :: y :: r => x ++ 13 :: 10 :: joinL (y :: r)
def Line (x : List UInt8) : Prop := (13 : UInt8) ∉ x ∧ x ≠ []
theorem cut_here (b : List UInt8) : Lib.cut (13 :: 10 :: 13 :: 10 :: b) [13, 10, 13, 10] = ([], b, true) := by
 rw [cut_cons, if_pos (by simp)]
 rfl
theorem cut_next (c : UInt8) (hc : c ≠ 13) (l : List UInt8) : Lib.cut (13 :: 10 :: c :: l) [13, 10, 13, 10] = if (Lib.cut (c :: l) [13, 10, 13, 10]).2.2 = true then (13 :: 10 :: (Lib.cut (c :: l) [13, 10, 13, 10]).1, (Lib.cut (c :: l) [13, 10, 13, 10]).2.1, true) else (13 :: 10 :: c :: l, [], false) := by
 have e1 := cut_cons 13 (10 :: c :: l) [13, 10, 13, 10]
 rw [if_neg (by simp only [List.isPrefixOf]; simp; exact fun e => absurd e.symm hc)] at e1
 have e2 := cut_cons 10 (c :: l) [13, 10, 13, 10]
 rw [if_neg (by simp [List.isPrefixOf])] at e2
 rw [e1, e2]
 obtain ⟨p, q, t⟩ := Lib.cut (c :: l) [13, 10, 13, 10]
 cases t <;> rfl
theorem cut_head (b : List UInt8) : ∀ L : List (List UInt8), L ≠ [] → (∀ x ∈ L, Line x) → Lib.cut (flatL L ++ 13 :: 10 :: b) [13, 10, 13, 10] = (joinL L, b, true)
 | [], h, _ => absurd rfl h
 | [x], _, h => by
  have e : flatL [x] ++ 13 :: 10 :: b = x ++ 13 :: 10 :: 13 :: 10 :: b := by unfold flatL; simp
  rw [e, cut_skip 13 _ _ x (h x (by simp)).1, cut_here, if_pos rfl, List.append_nil]
  rfl
 | x :: y :: r, _, h => by
  have e : flatL (x :: y :: r) ++ 13 :: 10 :: b = x ++ 13 :: 10 :: (flatL (y :: r) ++ 13 :: 10 :: b) := by unfold flatL; simp
  have ih := cut_head b (y :: r) (by simp) (fun z hz => h z (by simp only [List.mem_cons] at hz ⊢; exact .inr hz))
  obtain ⟨hy1, hy2⟩ := h y (by simp)
  cases y with
  | nil => exact absurd rfl hy2
  | cons c y' =>
   have hc : c ≠ 13 := fun e => hy1 (by simp [e])
   have e2 : flatL ((c :: y') :: r) ++ 13 :: 10 :: b = c :: (y' ++ [13, 10] ++ flatL r ++ 13 :: 10 :: b) := by unfold flatL; simp
   rw [e, cut_skip 13 _ _ x (h x (by simp)).1]
   rw [e2] at ih ⊢
   rw [cut_next c hc, ih, if_pos rfl]
   rfl
theorem pieces_join : ∀ L : List (List UInt8), L ≠ [] → (∀ x ∈ L, (13 : UInt8) ∉ x) → pieces (joinL L) = L
 | [], h, _ => absurd rfl h
 | [x], _, h => by
  have key : ∀ a : List UInt8, (13 : UInt8) ∉ a → crlf a = ([], a) := fun a ha => by
   rw [crlf_cut, if_neg]
   have := cut_skip 13 [10] [] a ha
   rw [List.append_nil] at this
   rw [this, cut_nil]
   simp
  unfold pieces joinL
  rw [key x (h x (by simp))]
  rfl
 | x :: y :: r, _, h => by
  have ih := pieces_join (y :: r) (by simp) (fun z hz => h z (by simp only [List.mem_cons] at hz ⊢; exact .inr hz))
  unfold pieces at ih ⊢
  rw [joinL, crlf_line _ _ (h x (by simp))]
  show x :: ((crlf (joinL (y :: r))).1 ++ [(crlf (joinL (y :: r))).2]) = _
  rw [ih]
def fromL (u d : ByteArray) : List UInt8 := [102, 114, 111, 109, 32] ++ addrT u d
def toL' (a : S32) : List UInt8 := [116, 111, 32] ++ addrT a.f0 a.f1
theorem mailT_lines (u d : ByteArray) (ts : List S32) (body : List ByteArray) : mailT u d ts body = flatL (fromL u d :: ts.map toL') ++ 13 :: 10 :: dotsL body := by
 have e : flatL (ts.map toL') = toT ts := by
  unfold flatL toT toL'
  rw [List.flatMap_map]
  exact congrArg (fun f => ts.flatMap f) (funext fun a => by simp)
 have e2 : flatL (fromL u d :: ts.map toL') = fromL u d ++ [13, 10] ++ toT ts := by
  rw [← e]
  unfold flatL
  simp
 rw [e2]
 unfold mailT fromL
 simp
theorem mail_lines {u d : ByteArray} {ts : List S32} {body : List ByteArray} (h : mailB u d ts body = true) : ∀ x ∈ fromL u d :: ts.map toL', Line x := by
 obtain ⟨h1, _, h3, _, _⟩ := mail_parts h
 have hf : ∀ a : UInt8, plainB a = true → a ≠ 13 := fun a ha e => by rw [e] at ha; exact absurd ha (by decide)
 intro x hx
 rcases List.mem_cons.1 hx with rfl | hx
 ·refine ⟨fun h13 => ?_, by unfold fromL; simp⟩
  unfold fromL at h13
  rcases List.mem_append.1 h13 with h | h
  ·exact absurd h (by decide)
  ·exact hf 13 (addr_signs h1 13 h) rfl
 ·obtain ⟨a, ha, rfl⟩ := List.mem_map.1 hx
  refine ⟨fun h13 => ?_, by unfold toL'; simp⟩
  unfold toL' at h13
  rcases List.mem_append.1 h13 with h | h
  ·exact absurd h (by decide)
  ·exact hf 13 (addr_signs (by rw [h3 a ha, Bool.or_true]) 13 h) rfl
theorem headI_to (u d : ByteArray) : ∀ (ts acc : List S32) (i : Nat), 0 < i → (∀ a ∈ ts, addrB a.f0 a.f1 = true) → headI (ts.map toL') i u d acc = some (u, d, acc ++ ts)
 | [], acc, i, _, _ => by rw [List.append_nil]; rfl
 | a :: ts, acc, i, hi, h => by
  have hc : Lib.cut (toL' a) [32] = ([116, 111], addrT a.f0 a.f1, true) := cut_one 32 _ [116, 111] (by decide)
  have hA := addrI_text (u := a.f0) (d := a.f1) (by rw [h a (by simp), Bool.or_true])
  rw [List.map_cons, headI, hc]
  show (if (addrI (addrT a.f0 a.f1)).2.2 = true then _ else _) = _
  rw [hA, if_pos rfl, if_neg (by omega), headI_to u d ts _ (i + 1) (by omega) (fun x hx => h x (by simp [hx])), List.append_assoc]
  rfl
theorem mailI_text {u d : ByteArray} {ts : List S32} {body : List ByteArray} (h : mailB u d ts body = true) (hl : (mailT u d ts body).length ≤ 800) : mailI (mailT u d ts body) = (u, d, ts, body, true) := by
 obtain ⟨h1, h2, h3, _, h5⟩ := mail_parts h
 have hL := mail_lines h
 have hc := cut_head (dotsL body) _ (by simp) hL
 rw [← mailT_lines] at hc
 have hp := pieces_join _ (by simp) (fun x hx => (hL x hx).1)
 have hcf : Lib.cut (fromL u d) [32] = ([102, 114, 111, 109], addrT u d, true) := cut_one 32 _ [102, 114, 111, 109] (by decide)
 have hh : headI (fromL u d :: ts.map toL') 0 (B []) (B []) [] = some (u, d, ts) := by
  rw [headI, hcf]
  show (if (addrI (addrT u d)).2.2 = true then _ else _) = _
  rw [addrI_text h1, if_pos rfl, if_pos rfl]
  show headI (ts.map toL') 1 u d [] = _
  rw [headI_to u d ts [] 1 (by decide) h3]
  rfl
 unfold mailI
 rw [if_neg (by omega), hc, if_pos rfl]
 show endI _ (dotsL body) (headI (pieces (joinL (fromL u d :: ts.map toL'))) 0 (B []) (B []) []) = _
 rw [hp, hh]
 show finI _ (dotsL body) u d ts = _
 unfold finI putM
 rw [dotG_text h5, if_pos rfl]
 show (if (if mailB u d ts body = true then mailT u d ts body else []) = mailT u d ts body then (u, d, ts, body, true) else noMail) = _
 rw [if_pos h, if_pos rfl]
end Go.Proofs.YtbncnjgflhoneaaGreatDoor.Hand
namespace Go.Proofs.YtbncnjgflhoneaaGreatDoor.F
open Go.RowKit Go.Proofs.YtbncnjgflhoneaaGreatDoor.Hand Go.Proofs.YtbncnjgflhoneaaGreatDoorW.PrintWords Go.Proofs.YtbncnjgflhoneaaGreatDoorW.PrintLast Go.Proofs.YtbncnjgflhoneaaGreatDoorW.PrintMore
set_option linter.unusedVariables false
set_option linter.unusedSimpArgs false

end Go.Proofs.YtbncnjgflhoneaaGreatDoor.F
namespace Go.Proofs.YtbncnjgflhoneaaGreatDoor.Hand
open Go.RowKit Go.Proofs.YtbncnjgflhoneaaGreatDoor.F Go.Proofs.YtbncnjgflhoneaaGreatDoorW.PrintWords Go.Proofs.YtbncnjgflhoneaaGreatDoorW.PrintLast Go.Proofs.YtbncnjgflhoneaaGreatDoorW.PrintMore
end Go.Proofs.YtbncnjgflhoneaaGreatDoor.Hand
namespace Go.Proofs.YtbncnjgflhoneaaGreatDoor.F
open Go.RowKit Go.Proofs.YtbncnjgflhoneaaGreatDoor.Hand Go.Proofs.YtbncnjgflhoneaaGreatDoorW.PrintWords Go.Proofs.YtbncnjgflhoneaaGreatDoorW.PrintLast Go.Proofs.YtbncnjgflhoneaaGreatDoorW.PrintMore
set_option linter.unusedVariables false
set_option linter.unusedSimpArgs false
end Go.Proofs.YtbncnjgflhoneaaGreatDoor.F
namespace Go.Proofs.YtbncnjgflhoneaaGreatDoor.Hand
open Go.RowKit Go.Proofs.YtbncnjgflhoneaaGreatDoor.F Go.Proofs.YtbncnjgflhoneaaGreatDoorW.PrintWords Go.Proofs.YtbncnjgflhoneaaGreatDoorW.PrintLast Go.Proofs.YtbncnjgflhoneaaGreatDoorW.PrintMore
def ch (a : Nat) : UInt8 := UInt8.ofNat (48 + a)
def sumD (ds : List Nat) (acc : Nat) : Nat := ds.foldl (fun n a => n * 10 + a) acc
structure Figures (n : Nat) (ds : List Nat) : Prop where
 text : Lib.decDigits n = ds.map ch
 small : ∀ a ∈ ds, a < 10
 one : 1 ≤ ds.length
 four : ds.length ≤ 4
 sum : sumD ds 0 = n
 lead : 1 < ds.length → ds.head? ≠ some 0
theorem figures (n : Nat) (h : n ≤ 9999) : ∃ ds, Figures n ds := by
 have one : ∀ m, m < 10 → Lib.decDigits m = [ch m] := fun m hm => by rw [Lib.decDigits, dif_pos hm]; rfl
 have more : ∀ m, ¬ m < 10 → Lib.decDigits m = Lib.decDigits (m / 10) ++ [ch (m % 10)] := fun m hm => by rw [Lib.decDigits, dif_neg hm]; rfl
 by_cases h1 : n < 10
 ·exact ⟨[n], one n h1, by simpa using h1, Nat.le_refl _, by simp, by simp [sumD], fun h => absurd h (by simp)⟩
 by_cases h2 : n < 100
 ·refine ⟨[n / 10, n % 10], ?_, ?_, by simp, by simp, ?_, fun _ => by simp; omega⟩
  ·rw [more n h1, one (n / 10) (by omega)]; rfl
  ·intro a ha; simp at ha; omega
  ·simp [sumD]; omega
 by_cases h3 : n < 1000
 ·refine ⟨[n / 10 / 10, n / 10 % 10, n % 10], ?_, ?_, by simp, by simp, ?_, fun _ => by simp; omega⟩
  ·rw [more n h1, more (n / 10) (by omega), one (n / 10 / 10) (by omega)]; rfl
  ·intro a ha; simp at ha; omega
  ·simp [sumD]; omega
 ·refine ⟨[n / 10 / 10 / 10, n / 10 / 10 % 10, n / 10 % 10, n % 10], ?_, ?_, by simp, by simp, ?_, fun _ => by simp; omega⟩
  ·rw [more n h1, more (n / 10) (by omega), more (n / 10 / 10) (by omega), one (n / 10 / 10 / 10) (by omega)]; rfl
  ·intro a ha; simp at ha; omega
  ·simp [sumD]; omega
theorem ch_nat (a : Nat) (h : a < 10) : (ch a).toNat = 48 + a := by
 unfold ch
 rw [UInt8.toNat_ofNat']
 omega
theorem ch_sign {n : Nat} {ds : List Nat} (h : Figures n ds) : ∀ x ∈ Lib.decDigits n, 48 ≤ x.toNat ∧ x.toNat ≤ 57 := by
 intro x hx
 rw [h.text] at hx
 obtain ⟨a, ha, rfl⟩ := List.mem_map.1 hx
 have := h.small a ha
 rw [ch_nat a this]
 omega
theorem parse_sum : ∀ (ds : List Nat) (acc : Nat), (∀ a ∈ ds, a < 10) → (acc + 1) * 10 ^ ds.length ≤ 1000000000000 → Lib.parseUint10 acc (ds.map ch) = .ok (sumD ds acc)
 | [], acc, _, _ => rfl
 | a :: ds, acc, h, hb => by
  have ha := h a (by simp)
  rw [List.length_cons, Nat.pow_succ, Nat.mul_comm (10 ^ ds.length) 10, ← Nat.mul_assoc] at hb
  have hpos : 1 ≤ 10 ^ ds.length := Nat.one_le_pow _ _ (by decide)
  have hle : (acc + 1) * 10 ≤ 1000000000000 := Nat.le_trans (Nat.le_mul_of_pos_right _ hpos) hb
  have ih := parse_sum ds (acc * 10 + a) (fun x hx => h x (by simp [hx])) (Nat.le_trans (Nat.mul_le_mul_right _ (by omega)) hb)
  rw [List.map_cons, Lib.parseUint10, if_pos (by rw [ch_nat a ha]; omega), ch_nat a ha]
  rw [show 48 + a - 48 = a by omega]
  repeat (first | rw [if_neg (by omega)] | exact ih)
theorem decV_text (n : Int) (h0 : 0 ≤ n) (h9 : n ≤ 9999) : decV (Lib.itoa n) = (n, true) := by
 obtain ⟨m, rfl⟩ := Int.eq_ofNat_of_zero_le h0
 obtain ⟨ds, h⟩ := figures m (by omega)
 have hp := parse_sum ds 0 h.small (by
  rw [Nat.zero_add, Nat.one_mul]
  exact Nat.le_trans (Nat.pow_le_pow_right (by decide) h.four) (by decide))
 have he : Lib.atoiAll (Lib.itoa (m : Int)) = .ok (m : Int) := by
  rw [itoa_nat _ h0, Int.toNat_natCast, h.text]
  cases hd : ds with
  | nil => have := h.one; rw [hd] at this; exact absurd this (by decide)
  | cons a r =>
   have ha := h.small a (by rw [hd]; simp)
   rw [List.map_cons, Lib.atoiAll_plain _ _ (by rw [ch_nat a ha]; omega) (by rw [ch_nat a ha]; omega)]
   unfold Lib.parseMag
   rw [if_neg (by simp), ← List.map_cons, ← hd, hp, h.sum]
   unfold Lib.signless
   exact if_neg (by omega)
 unfold decV
 rw [he]
 simp
theorem itoa_signs (n : Int) (h0 : 0 ≤ n) (h9 : n ≤ 9999) : ∀ x ∈ Lib.itoa n, 48 ≤ x.toNat ∧ x.toNat ≤ 57 := by
 obtain ⟨m, rfl⟩ := Int.eq_ofNat_of_zero_le h0
 obtain ⟨ds, h⟩ := figures m (by omega)
 rw [itoa_nat _ h0, Int.toNat_natCast]
 exact ch_sign h
theorem cutAt_sum (c : UInt8) : ∀ l : List UInt8, l.length + 1 = ((cutAt c l).map fun p => p.length + 1).sum
 | [] => rfl
 | a :: l => by
  have ih := cutAt_sum c l
  rw [cutAt]
  by_cases e : a = c
  ·rw [if_pos e, List.map_cons, List.sum_cons, List.length_cons, ← ih]
   simp only [List.length_nil]
   omega
  ·rw [if_neg e]
   cases hq : cutAt c l with
   | nil => exact absurd hq (cutAt_ne c l)
   | cons y r =>
    rw [hq, List.map_cons, List.sum_cons] at ih
    simp only [front, List.map_cons, List.sum_cons, List.length_append, List.length_cons, List.length_nil]
    omega
theorem sum_le {α : Type} (f : α → Nat) (n : Nat) : ∀ l : List α, (∀ x ∈ l, f x ≤ n) → (l.map f).sum ≤ l.length * n
 | [], _ => by simp
 | x :: l, h => by
  have h1 := h x (by simp)
  have h2 := sum_le f n l (fun y hy => h y (by simp [hy]))
  rw [List.map_cons, List.sum_cons, List.length_cons, Nat.add_mul]
  omega
theorem label_le {s : ByteArray} (h : labelB s = true) : s.size ≤ 8 := by
 unfold labelB at h
 rw [Bool.and_eq_true] at h
 exact (of_decide_eq_true h.1).2
theorem domain_le {d : ByteArray} (h : domainB d = true) : d.size ≤ 26 := by
 unfold domainB at h
 rw [Bool.and_eq_true] at h
 have h3 := of_decide_eq_true h.2
 have hs := cutAt_sum 46 d.data.toList
 rw [← labels_data, List.map_map] at hs
 have hb := sum_le ((fun p : List UInt8 => p.length + 1) ∘ fun x : ByteArray => x.data.toList) 9 (labelsOf d) (fun x hx => by
  have := label_le (List.all_eq_true.1 h.1 x hx)
  show x.data.toList.length + 1 ≤ 9
  rw [data_length]
  omega)
 rw [data_length] at hs
 have : (labelsOf d).length * 9 ≤ 3 * 9 := Nat.mul_le_mul_right _ h3
 omega
theorem addrT_small {u d : ByteArray} (h : (nullB u d || addrB u d) = true) : (addrT u d).length ≤ 37 := by
 have hl := addrT_le u d
 cases hn : nullB u d
 ·rw [hn, Bool.false_or] at h
  unfold addrB at h
  rw [Bool.and_eq_true] at h
  have := label_le h.1
  have := domain_le h.2
  omega
 ·obtain ⟨rfl, rfl⟩ := null_empty hn
  simp only [B_size, List.length_nil] at hl
  omega
theorem mailT_small {u d : ByteArray} {ts : List S32} {body : List ByteArray} (h : mailB u d ts body = true) : (mailT u d ts body).length ≤ 800 := by
 obtain ⟨h1, h2, h3, _, h5⟩ := mail_parts h
 have hb := body_small h5
 have ha := addrT_small h1
 have ht : (toT ts).length ≤ ts.length * 42 := flat_le _ _ ts (fun a ha => by
  have := addrT_small (u := a.f0) (d := a.f1) (by rw [h3 a ha, Bool.or_true])
  simp only [List.length_append, List.length_cons, List.length_nil]
  omega)
 have hd : (body.flatMap fun s => dotL s.data.toList).length ≤ body.length * 43 := flat_le _ _ body (fun s hs => by
  have := (dotL_length s.data.toList).2
  have := hb.2.1 s hs
  rw [data_length] at *
  omega)
 have e1 : ts.length * 42 ≤ 4 * 42 := Nat.mul_le_mul_right _ h2.2
 have e2 : body.length * 43 ≤ 12 * 43 := Nat.mul_le_mul_right _ hb.1
 unfold mailT dotsL
 simp only [List.length_append, List.length_cons, List.length_nil]
 omega
end Go.Proofs.YtbncnjgflhoneaaGreatDoor.Hand
