/- brooklaw7.EvalParts tells true at every input -/
import Derived.Test.YthfpaoacjpjnfaaGreatDoorMEParts2
import Derived.Test.YthfpaoacjpjnfaaGreatDoorMEParts5
import Derived.Test.YthfpaoacjpjnfaaGreatDoorMEParts4
import Derived.Lib.IndexMore
import Derived.Lib.IndexLaws
import Derived.Test.YthfpaoacjpjnfaaGreatDoorCards
import Derived.Test.YthfpaoacjpjnfaaGreatDoorTie
import Derived.WalkKit
import Derived.ProofKit
import Derived.OpenShut
import Derived.ShutString
import Derived.ChangeOld
import Derived.ChangeSame
import Derived.Below
import Derived.SizedLaws
import Derived.Deep.DeepHandedRow
import Derived.JoinedCond
import Derived.SevenTiedAt
import Derived.Lay
namespace Go.Proofs.YthfpaoacjpjnfaaGreatDoor.P
open Go.RowKit Go.Proofs.YthfpaoacjpjnfaaGreatDoorW.PrintWords Go.Proofs.YthfpaoacjpjnfaaGreatDoorW.PrintLast Go.Proofs.YthfpaoacjpjnfaaGreatDoorW.PrintMore
attribute [local go_sem] max2_int min2_int max_two min_two max_three min_three max_four min_four
set_option linter.unusedVariables false
set_option linter.unusedSimpArgs false
mutual
def brooklaw7_EvalParts.j0 : Nat → ByteArray → ByteArray → ByteArray → Bool → Bool → Option (Bool)
 | 0, _, _, _, _, _ => none
 | k + 1, x0, x1, x2, x3, x25 => if x25 = true then ((brooklaw7_awake.f k).bind fun t542 => (some t542)) else ((brookref1_Fold.f k x0).bind fun t543 => (if 1 + t543.size ≤ 9223372036854775807 then (if ((⟨#[120]⟩ : ByteArray) ++ t543).size + 1 ≤ 9223372036854775807 then ((brookref1_Fold.f k x1).bind fun t544 => (if 1 + t544.size ≤ 9223372036854775807 then (if ((⟨#[121]⟩ : ByteArray) ++ t544).size + 1 ≤ 9223372036854775807 then ((brookref1_Fold.f k x2).bind fun t545 => (if 1 + t545.size ≤ 9223372036854775807 then (if ((⟨#[122]⟩ : ByteArray) ++ t545).size + 1 ≤ 9223372036854775807 then (if (((⟨#[120]⟩ : ByteArray) ++ t543) ++ (⟨#[49]⟩ : ByteArray)).size + (((⟨#[121]⟩ : ByteArray) ++ t544) ++ (⟨#[50]⟩ : ByteArray)).size ≤ 9223372036854775807 then (if ((((⟨#[120]⟩ : ByteArray) ++ t543) ++ (⟨#[49]⟩ : ByteArray)) ++ (((⟨#[121]⟩ : ByteArray) ++ t544) ++ (⟨#[50]⟩ : ByteArray))).size + (((⟨#[122]⟩ : ByteArray) ++ t545) ++ (⟨#[51]⟩ : ByteArray)).size ≤ 9223372036854775807 then ((some (([(⟨(⟨#[99, 110]⟩ : ByteArray), (([(⟨#[111, 116, 104, 101, 114]⟩ : ByteArray), ((((⟨#[120]⟩ : ByteArray) ++ t543) ++ (⟨#[49]⟩ : ByteArray)) ++ (((⟨#[121]⟩ : ByteArray) ++ t544) ++ (⟨#[50]⟩ : ByteArray))) ++ (((⟨#[122]⟩ : ByteArray) ++ t545) ++ (⟨#[51]⟩ : ByteArray))] : List ByteArray))⟩ : S45)] : List (S45)) : List (S45))).bind fun y549 => (if x3 = true then (if 1 ≤ ((((⟨#[120]⟩ : ByteArray) ++ t543) ++ (⟨#[49]⟩ : ByteArray)).size : Int) then (if 1 + ((((⟨#[120]⟩ : ByteArray) ++ t543) ++ (⟨#[49]⟩ : ByteArray)).extract 1 (((⟨#[120]⟩ : ByteArray) ++ t543) ++ (⟨#[49]⟩ : ByteArray)).size).size ≤ 9223372036854775807 then (if 1 ≤ ((((⟨#[122]⟩ : ByteArray) ++ t545) ++ (⟨#[51]⟩ : ByteArray)).size : Int) then (if 1 + ((((⟨#[122]⟩ : ByteArray) ++ t545) ++ (⟨#[51]⟩ : ByteArray)).extract 1 (((⟨#[122]⟩ : ByteArray) ++ t545) ++ (⟨#[51]⟩ : ByteArray)).size).size ≤ 9223372036854775807 then (brooklaw7_EvalParts.j1 k ((⟨#[88]⟩ : ByteArray) ++ ((((⟨#[120]⟩ : ByteArray) ++ t543) ++ (⟨#[49]⟩ : ByteArray)).extract 1 (((⟨#[120]⟩ : ByteArray) ++ t543) ++ (⟨#[49]⟩ : ByteArray)).size)) (((⟨#[121]⟩ : ByteArray) ++ t544) ++ (⟨#[50]⟩ : ByteArray)) ((⟨#[90]⟩ : ByteArray) ++ ((((⟨#[122]⟩ : ByteArray) ++ t545) ++ (⟨#[51]⟩ : ByteArray)).extract 1 (((⟨#[122]⟩ : ByteArray) ++ t545) ++ (⟨#[51]⟩ : ByteArray)).size)) (⟨#[]⟩ : ByteArray) y549) else (none)) else (none)) else (none)) else (none)) else (brooklaw7_EvalParts.j1 k (((⟨#[120]⟩ : ByteArray) ++ t543) ++ (⟨#[49]⟩ : ByteArray)) (((⟨#[121]⟩ : ByteArray) ++ t544) ++ (⟨#[50]⟩ : ByteArray)) (((⟨#[122]⟩ : ByteArray) ++ t545) ++ (⟨#[51]⟩ : ByteArray)) (⟨#[]⟩ : ByteArray) y549))) else (none)) else (none)) else (none)) else (none))) else (none)) else (none))) else (none)) else (none)))
def brooklaw7_EvalParts.j1 : Nat → ByteArray → ByteArray → ByteArray → ByteArray → List (S45) → Option (Bool)
 | 0, _, _, _, _, _ => none
 | k + 1, x9, x10, x11, x553000, x553001 => (brooklaw7_sub.f k x553000 x553001 (([x9, (⟨#[]⟩ : ByteArray)] : List ByteArray))).bind fun t556 => (if t556 = 1 then ((brooklaw7_sub.f k x553000 x553001 (([(⟨#[]⟩ : ByteArray), x11] : List ByteArray))).bind fun t560 => (if t560 = 1 then ((brooklaw7_sub.f k x553000 x553001 (([(⟨#[]⟩ : ByteArray), x10, (⟨#[]⟩ : ByteArray)] : List ByteArray))).bind fun t564 => (if t564 = 1 then ((brooklaw7_sub.f k x553000 x553001 (([x9, x10, x11] : List ByteArray))).bind fun t568 => (if t568 = 1 then ((brooklaw7_sub.f k x553000 x553001 (([(⟨#[]⟩ : ByteArray), x9, x10, x11, (⟨#[]⟩ : ByteArray)] : List ByteArray))).bind fun t572 => (if t572 = 1 then ((brooklaw7_sub.f k x553000 x553001 (([x9, x11, x10, (⟨#[]⟩ : ByteArray)] : List ByteArray))).bind fun t576 => (if t576 = 0 then (if x11.size + 1 ≤ 9223372036854775807 then ((brooklaw7_sub.f k x553000 x553001 (([(⟨#[]⟩ : ByteArray), x10, x11 ++ (⟨#[33]⟩ : ByteArray)] : List ByteArray))).bind fun t580 => (if t580 = 0 then (if x9.size + x10.size ≤ 9223372036854775807 then (if x10.size + x11.size ≤ 9223372036854775807 then ((brooklaw7_sub.f k x553000 x553001 (([x9 ++ x10, x10 ++ x11] : List ByteArray))).bind fun t584 => (if t584 = 0 then ((brooklaw7_awake.f k).bind fun t585 => (some t585)) else (some false))) else (none)) else (none)) else (some false))) else (none)) else (some false))) else (some false))) else (some false))) else (some false))) else (some false))) else (some false))
end
def brooklaw7_EvalParts.f (k : Nat) (a0 : ByteArray) (a1 : ByteArray) (a2 : ByteArray) (a3 : Bool) : Option (Bool) := if (a0.size : Int) > 20 then (brooklaw7_EvalParts.j0 k a0 a1 a2 a3 true) else (if (a1.size : Int) > 20 then (brooklaw7_EvalParts.j0 k a0 a1 a2 a3 true) else (brooklaw7_EvalParts.j0 k a0 a1 a2 a3 (decide ((a2.size : Int) > 20))))
set_option maxHeartbeats 8000000 in
set_option maxRecDepth 100000 in
theorem brooklaw7_EvalParts.calls (k : Nat) (a0 : ByteArray) (a1 : ByteArray) (a2 : ByteArray) (a3 : Bool) (r : Bool) (w : World) (hG : Gl w) (h : brooklaw7_EvalParts.f k a0 a1 a2 a3 = some r) (hr : r = true := by rfl) :
  Calls Tryz.prog 7 #[.string a0, .string a1, .string a2, .bool a3] w fun e w' => e = .returned (.bool r) ∧ Below w.heap.size w w' := by
 have HRT := Aside0.mk hr
 clear hr
 have hu45 := Tryz.underlying45
 have hu28 := Tryz.underlying28
 have HB := Aside0.mk (Below.refl w.heap.size w)
 have HG := Aside0.mk hG
 clear hG
 have H : (if (a0.size : Int) > 20 then (brooklaw7_EvalParts.j0 k a0 a1 a2 a3 true) else (if (a1.size : Int) > 20 then (brooklaw7_EvalParts.j0 k a0 a1 a2 a3 true) else (brooklaw7_EvalParts.j0 k a0 a1 a2 a3 (decide ((a2.size : Int) > 20))))) = some r := h
 clear h
 have HC5 := Aside0.mk H
 clear H
 go_enter Tryz.func7, Tryz.ntmps7
 go_upto_region 1 with (fail)
 go_cut [25] (fun v25 wc => ∃ (kq : Nat) (x25_4 : Bool), v25 = .bool x25_4 ∧ Aside0 (brooklaw7_EvalParts.j0 kq a0 a1 a2 a3 x25_4 = some r) ∧ Aside0 (kq ≤ k) ∧ Aside0 (Below w.heap.size w wc))
 case first =>
  have H := HC5.out
  clear HC5
  by_cases c6 : (a0.size : Int) > 20
  ·rw [if_pos c6] at H
   have c6b0 : decide (20 < (a0.size : Int)) = true := decide_eq_true c6
   have c6b1 : decide (20 < a0.size) = true := decide_eq_true (by omega)
   clear c6
   (first | rw [c6b0] | (simp only [i64_w, i32_w]; rw [c6b0]) | skip)
   have H' := Aside0.mk H
   clear H
   go_wp2
   go_meet
   case rel => exact ⟨_, (true), (by first | rfl | (simp; done) | (simp [*]; done) | (simp [*, i64_w, i32_w, u8_w]; done) | (simp only [bneNil, beqNil]; done) | (simp only [bneNil, beqNil]; simp; done) | (simp only [bneNil, beqNil]; simp [*]; done)), H', ⟨by first | omega | exact Nat.le_refl _⟩, ⟨by repeat (first | (with_reducible first | exact HB.out | apply below_alloc | apply pw_below_drewN | apply below_drew1) | exact HB.out)⟩⟩
  ·rw [if_neg c6] at H
   have c6b0 : decide (20 < (a0.size : Int)) = false := decide_eq_false c6
   have c6b1 : decide (20 < a0.size) = false := decide_eq_false (by omega)
   clear c6
   (first | rw [c6b0] | (simp only [i64_w, i32_w]; rw [c6b0]) | skip)
   by_cases c7 : (a1.size : Int) > 20
   ·rw [if_pos c7] at H
    have c7b0 : decide (20 < (a1.size : Int)) = true := decide_eq_true c7
    have c7b1 : decide (20 < a1.size) = true := decide_eq_true (by omega)
    clear c7
    have H' := Aside0.mk H
    clear H
    go_wp2
    go_meet
    case rel => exact ⟨_, (true), (by first | rfl | (simp; done) | (simp [*]; done) | (simp [*, i64_w, i32_w, u8_w]; done) | (simp only [bneNil, beqNil]; done) | (simp only [bneNil, beqNil]; simp; done) | (simp only [bneNil, beqNil]; simp [*]; done)), H', ⟨by first | omega | exact Nat.le_refl _⟩, ⟨by repeat (first | (with_reducible first | exact HB.out | apply below_alloc | apply pw_below_drewN | apply below_drew1) | exact HB.out)⟩⟩
   ·rw [if_neg c7] at H
    have c7b0 : decide (20 < (a1.size : Int)) = false := decide_eq_false c7
    have c7b1 : decide (20 < a1.size) = false := decide_eq_false (by omega)
    clear c7
    have H' := Aside0.mk H
    clear H
    go_wp2
    go_meet
    case rel => exact ⟨_, (decide ((a2.size : Int) > 20)), (by first | rfl | (simp; done) | (simp [*]; done) | (simp [*, i64_w, i32_w, u8_w]; done) | (simp only [bneNil, beqNil]; done) | (simp only [bneNil, beqNil]; simp; done) | (simp only [bneNil, beqNil]; simp [*]; done)), H', ⟨by first | omega | exact Nat.le_refl _⟩, ⟨by repeat (first | (with_reducible first | exact HB.out | apply below_alloc | apply pw_below_drewN | apply below_drew1) | exact HB.out)⟩⟩
 case rest =>
  clear HC5
  try clear p2
  try clear c6
  try clear c6b0
  try clear c6b1
  try clear c7
  try clear c7b0
  try clear c7b1
  obtain ⟨kq, x25_4, rfl, HA, HJ4, HB⟩ := hcut
  cases kq with
  | zero => exact absurd HA.out (by simp [brooklaw7_EvalParts.j0])
  | succ kj4 =>
   have H := HA.out
   clear HA
   simp only [brooklaw7_EvalParts.j0] at H
   by_cases c8 : x25_4 = true
   ·subst c8
    have H1 : ((brooklaw7_awake.f kj4).bind fun t542 => (some t542)) = some r := by rw [if_pos rfl] at H; exact H
    clear H
    have H := H1
    clear H1
    replace H := Option.bind_eq_some_iff.mp H
    obtain ⟨t542, A90, H⟩ := H
    replace H : (some t542) = some r := H
    have A9 := Aside0.mk A90
    clear A90
    obtain rfl := Option.some.inj H
    go_wp2_with (first | ((with_reducible refine gate_callee (f := 15) rfl ?_); refine goesL_ (some 26) rfl rfl Tryz.func15 (by kernel_rfl) rfl #[] rfl (by (try simp only [List.map_toArray, List.map_cons, List.map_nil]); first | done | rfl | (simp only [List.length_drop, List.length_take]; rfl)) ?_; (with_reducible refine (brooklaw7_awake.calls kj4  t542 _ ?side1 A9.out).mono ?_); (case side1 => first | exact HG.out | exact Gl.drewN HG.out _ | exact Gl.below HG.out (by repeat (first | (with_reducible first | exact HB.out | apply below_alloc | apply pw_below_drewN | apply below_drew1) | exact HB.out))); rintro e w10 ⟨rfl, hb⟩; refine ⟨_, rfl, ?_⟩; have n0_ := Aside0.mk (below_step (by repeat (first | (with_reducible first | exact HB.out | apply below_alloc | apply pw_below_drewN | apply below_drew1) | exact HB.out)) hb); clear HB; have HB := n0_; clear n0_; (try clear hb); (try clear hb2); (try clear hk); (try clear hi)))
    go_ret
    exact ⟨by first | rfl | (simp [errW_none, errW_some] <;> rfl) | (simp [*, errW_none, errW_some] <;> rfl), by repeat (first | (with_reducible first | exact HB.out | apply below_alloc | apply pw_below_drewN | apply below_drew1) | exact HB.out)⟩
   ·replace c8 := Bool.eq_false_iff.mpr c8
    subst c8
    have H1 : ((brookref1_Fold.f kj4 a0).bind fun t543 => (if 1 + t543.size ≤ 9223372036854775807 then (if ((⟨#[120]⟩ : ByteArray) ++ t543).size + 1 ≤ 9223372036854775807 then ((brookref1_Fold.f kj4 a1).bind fun t544 => (if 1 + t544.size ≤ 9223372036854775807 then (if ((⟨#[121]⟩ : ByteArray) ++ t544).size + 1 ≤ 9223372036854775807 then ((brookref1_Fold.f kj4 a2).bind fun t545 => (if 1 + t545.size ≤ 9223372036854775807 then (if ((⟨#[122]⟩ : ByteArray) ++ t545).size + 1 ≤ 9223372036854775807 then (if (((⟨#[120]⟩ : ByteArray) ++ t543) ++ (⟨#[49]⟩ : ByteArray)).size + (((⟨#[121]⟩ : ByteArray) ++ t544) ++ (⟨#[50]⟩ : ByteArray)).size ≤ 9223372036854775807 then (if ((((⟨#[120]⟩ : ByteArray) ++ t543) ++ (⟨#[49]⟩ : ByteArray)) ++ (((⟨#[121]⟩ : ByteArray) ++ t544) ++ (⟨#[50]⟩ : ByteArray))).size + (((⟨#[122]⟩ : ByteArray) ++ t545) ++ (⟨#[51]⟩ : ByteArray)).size ≤ 9223372036854775807 then ((some (([(⟨(⟨#[99, 110]⟩ : ByteArray), (([(⟨#[111, 116, 104, 101, 114]⟩ : ByteArray), ((((⟨#[120]⟩ : ByteArray) ++ t543) ++ (⟨#[49]⟩ : ByteArray)) ++ (((⟨#[121]⟩ : ByteArray) ++ t544) ++ (⟨#[50]⟩ : ByteArray))) ++ (((⟨#[122]⟩ : ByteArray) ++ t545) ++ (⟨#[51]⟩ : ByteArray))] : List ByteArray))⟩ : S45)] : List (S45)) : List (S45))).bind fun y549 => (if a3 = true then (if 1 ≤ ((((⟨#[120]⟩ : ByteArray) ++ t543) ++ (⟨#[49]⟩ : ByteArray)).size : Int) then (if 1 + ((((⟨#[120]⟩ : ByteArray) ++ t543) ++ (⟨#[49]⟩ : ByteArray)).extract 1 (((⟨#[120]⟩ : ByteArray) ++ t543) ++ (⟨#[49]⟩ : ByteArray)).size).size ≤ 9223372036854775807 then (if 1 ≤ ((((⟨#[122]⟩ : ByteArray) ++ t545) ++ (⟨#[51]⟩ : ByteArray)).size : Int) then (if 1 + ((((⟨#[122]⟩ : ByteArray) ++ t545) ++ (⟨#[51]⟩ : ByteArray)).extract 1 (((⟨#[122]⟩ : ByteArray) ++ t545) ++ (⟨#[51]⟩ : ByteArray)).size).size ≤ 9223372036854775807 then (brooklaw7_EvalParts.j1 kj4 ((⟨#[88]⟩ : ByteArray) ++ ((((⟨#[120]⟩ : ByteArray) ++ t543) ++ (⟨#[49]⟩ : ByteArray)).extract 1 (((⟨#[120]⟩ : ByteArray) ++ t543) ++ (⟨#[49]⟩ : ByteArray)).size)) (((⟨#[121]⟩ : ByteArray) ++ t544) ++ (⟨#[50]⟩ : ByteArray)) ((⟨#[90]⟩ : ByteArray) ++ ((((⟨#[122]⟩ : ByteArray) ++ t545) ++ (⟨#[51]⟩ : ByteArray)).extract 1 (((⟨#[122]⟩ : ByteArray) ++ t545) ++ (⟨#[51]⟩ : ByteArray)).size)) (⟨#[]⟩ : ByteArray) y549) else (none)) else (none)) else (none)) else (none)) else (brooklaw7_EvalParts.j1 kj4 (((⟨#[120]⟩ : ByteArray) ++ t543) ++ (⟨#[49]⟩ : ByteArray)) (((⟨#[121]⟩ : ByteArray) ++ t544) ++ (⟨#[50]⟩ : ByteArray)) (((⟨#[122]⟩ : ByteArray) ++ t545) ++ (⟨#[51]⟩ : ByteArray)) (⟨#[]⟩ : ByteArray) y549))) else (none)) else (none)) else (none)) else (none))) else (none)) else (none))) else (none)) else (none))) = some r := by rw [if_neg (show ¬ (false = true) by decide)] at H; exact H
    clear H
    have H := H1
    clear H1
    replace H := Option.bind_eq_some_iff.mp H
    obtain ⟨t543, A110, H⟩ := H
    replace H : (if 1 + t543.size ≤ 9223372036854775807 then (if ((⟨#[120]⟩ : ByteArray) ++ t543).size + 1 ≤ 9223372036854775807 then ((brookref1_Fold.f kj4 a1).bind fun t544 => (if 1 + t544.size ≤ 9223372036854775807 then (if ((⟨#[121]⟩ : ByteArray) ++ t544).size + 1 ≤ 9223372036854775807 then ((brookref1_Fold.f kj4 a2).bind fun t545 => (if 1 + t545.size ≤ 9223372036854775807 then (if ((⟨#[122]⟩ : ByteArray) ++ t545).size + 1 ≤ 9223372036854775807 then (if (((⟨#[120]⟩ : ByteArray) ++ t543) ++ (⟨#[49]⟩ : ByteArray)).size + (((⟨#[121]⟩ : ByteArray) ++ t544) ++ (⟨#[50]⟩ : ByteArray)).size ≤ 9223372036854775807 then (if ((((⟨#[120]⟩ : ByteArray) ++ t543) ++ (⟨#[49]⟩ : ByteArray)) ++ (((⟨#[121]⟩ : ByteArray) ++ t544) ++ (⟨#[50]⟩ : ByteArray))).size + (((⟨#[122]⟩ : ByteArray) ++ t545) ++ (⟨#[51]⟩ : ByteArray)).size ≤ 9223372036854775807 then ((some (([(⟨(⟨#[99, 110]⟩ : ByteArray), (([(⟨#[111, 116, 104, 101, 114]⟩ : ByteArray), ((((⟨#[120]⟩ : ByteArray) ++ t543) ++ (⟨#[49]⟩ : ByteArray)) ++ (((⟨#[121]⟩ : ByteArray) ++ t544) ++ (⟨#[50]⟩ : ByteArray))) ++ (((⟨#[122]⟩ : ByteArray) ++ t545) ++ (⟨#[51]⟩ : ByteArray))] : List ByteArray))⟩ : S45)] : List (S45)) : List (S45))).bind fun y549 => (if a3 = true then (if 1 ≤ ((((⟨#[120]⟩ : ByteArray) ++ t543) ++ (⟨#[49]⟩ : ByteArray)).size : Int) then (if 1 + ((((⟨#[120]⟩ : ByteArray) ++ t543) ++ (⟨#[49]⟩ : ByteArray)).extract 1 (((⟨#[120]⟩ : ByteArray) ++ t543) ++ (⟨#[49]⟩ : ByteArray)).size).size ≤ 9223372036854775807 then (if 1 ≤ ((((⟨#[122]⟩ : ByteArray) ++ t545) ++ (⟨#[51]⟩ : ByteArray)).size : Int) then (if 1 + ((((⟨#[122]⟩ : ByteArray) ++ t545) ++ (⟨#[51]⟩ : ByteArray)).extract 1 (((⟨#[122]⟩ : ByteArray) ++ t545) ++ (⟨#[51]⟩ : ByteArray)).size).size ≤ 9223372036854775807 then (brooklaw7_EvalParts.j1 kj4 ((⟨#[88]⟩ : ByteArray) ++ ((((⟨#[120]⟩ : ByteArray) ++ t543) ++ (⟨#[49]⟩ : ByteArray)).extract 1 (((⟨#[120]⟩ : ByteArray) ++ t543) ++ (⟨#[49]⟩ : ByteArray)).size)) (((⟨#[121]⟩ : ByteArray) ++ t544) ++ (⟨#[50]⟩ : ByteArray)) ((⟨#[90]⟩ : ByteArray) ++ ((((⟨#[122]⟩ : ByteArray) ++ t545) ++ (⟨#[51]⟩ : ByteArray)).extract 1 (((⟨#[122]⟩ : ByteArray) ++ t545) ++ (⟨#[51]⟩ : ByteArray)).size)) (⟨#[]⟩ : ByteArray) y549) else (none)) else (none)) else (none)) else (none)) else (brooklaw7_EvalParts.j1 kj4 (((⟨#[120]⟩ : ByteArray) ++ t543) ++ (⟨#[49]⟩ : ByteArray)) (((⟨#[121]⟩ : ByteArray) ++ t544) ++ (⟨#[50]⟩ : ByteArray)) (((⟨#[122]⟩ : ByteArray) ++ t545) ++ (⟨#[51]⟩ : ByteArray)) (⟨#[]⟩ : ByteArray) y549))) else (none)) else (none)) else (none)) else (none))) else (none)) else (none))) else (none)) else (none)) = some r := H
    have A11 := Aside0.mk A110
    clear A110
    by_cases c12 : 1 + t543.size ≤ 9223372036854775807
    ·rw [if_pos c12] at H
     have c12b0 := eq_true c12
     have c12b1 : decide (1 + t543.size ≤ 9223372036854775807) = true := decide_eq_true c12
     try have c12b2 : (9223372036854775807 < 1 + t543.size) = False := eq_false (Nat.not_lt.2 c12)
     by_cases c13 : ((⟨#[120]⟩ : ByteArray) ++ t543).size + 1 ≤ 9223372036854775807
     ·rw [if_pos c13] at H
      have c13b0 := eq_true c13
      have c13b1 : decide (((⟨#[120]⟩ : ByteArray) ++ t543).size + 1 ≤ 9223372036854775807) = true := decide_eq_true c13
      try have c13b2 : (9223372036854775807 < ((⟨#[120]⟩ : ByteArray) ++ t543).size + 1) = False := eq_false (Nat.not_lt.2 c13)
      try (have c13b3 := c13b2; simp only [ByteArray.size_append, show ∀ a : UInt8, (⟨#[a]⟩ : ByteArray).size = 1 from fun _ => rfl, show ∀ a b : UInt8, (⟨#[a, b]⟩ : ByteArray).size = 2 from fun _ _ => rfl] at c13b3)
      replace H := Option.bind_eq_some_iff.mp H
      obtain ⟨t544, A140, H⟩ := H
      replace H : (if 1 + t544.size ≤ 9223372036854775807 then (if ((⟨#[121]⟩ : ByteArray) ++ t544).size + 1 ≤ 9223372036854775807 then ((brookref1_Fold.f kj4 a2).bind fun t545 => (if 1 + t545.size ≤ 9223372036854775807 then (if ((⟨#[122]⟩ : ByteArray) ++ t545).size + 1 ≤ 9223372036854775807 then (if (((⟨#[120]⟩ : ByteArray) ++ t543) ++ (⟨#[49]⟩ : ByteArray)).size + (((⟨#[121]⟩ : ByteArray) ++ t544) ++ (⟨#[50]⟩ : ByteArray)).size ≤ 9223372036854775807 then (if ((((⟨#[120]⟩ : ByteArray) ++ t543) ++ (⟨#[49]⟩ : ByteArray)) ++ (((⟨#[121]⟩ : ByteArray) ++ t544) ++ (⟨#[50]⟩ : ByteArray))).size + (((⟨#[122]⟩ : ByteArray) ++ t545) ++ (⟨#[51]⟩ : ByteArray)).size ≤ 9223372036854775807 then ((some (([(⟨(⟨#[99, 110]⟩ : ByteArray), (([(⟨#[111, 116, 104, 101, 114]⟩ : ByteArray), ((((⟨#[120]⟩ : ByteArray) ++ t543) ++ (⟨#[49]⟩ : ByteArray)) ++ (((⟨#[121]⟩ : ByteArray) ++ t544) ++ (⟨#[50]⟩ : ByteArray))) ++ (((⟨#[122]⟩ : ByteArray) ++ t545) ++ (⟨#[51]⟩ : ByteArray))] : List ByteArray))⟩ : S45)] : List (S45)) : List (S45))).bind fun y549 => (if a3 = true then (if 1 ≤ ((((⟨#[120]⟩ : ByteArray) ++ t543) ++ (⟨#[49]⟩ : ByteArray)).size : Int) then (if 1 + ((((⟨#[120]⟩ : ByteArray) ++ t543) ++ (⟨#[49]⟩ : ByteArray)).extract 1 (((⟨#[120]⟩ : ByteArray) ++ t543) ++ (⟨#[49]⟩ : ByteArray)).size).size ≤ 9223372036854775807 then (if 1 ≤ ((((⟨#[122]⟩ : ByteArray) ++ t545) ++ (⟨#[51]⟩ : ByteArray)).size : Int) then (if 1 + ((((⟨#[122]⟩ : ByteArray) ++ t545) ++ (⟨#[51]⟩ : ByteArray)).extract 1 (((⟨#[122]⟩ : ByteArray) ++ t545) ++ (⟨#[51]⟩ : ByteArray)).size).size ≤ 9223372036854775807 then (brooklaw7_EvalParts.j1 kj4 ((⟨#[88]⟩ : ByteArray) ++ ((((⟨#[120]⟩ : ByteArray) ++ t543) ++ (⟨#[49]⟩ : ByteArray)).extract 1 (((⟨#[120]⟩ : ByteArray) ++ t543) ++ (⟨#[49]⟩ : ByteArray)).size)) (((⟨#[121]⟩ : ByteArray) ++ t544) ++ (⟨#[50]⟩ : ByteArray)) ((⟨#[90]⟩ : ByteArray) ++ ((((⟨#[122]⟩ : ByteArray) ++ t545) ++ (⟨#[51]⟩ : ByteArray)).extract 1 (((⟨#[122]⟩ : ByteArray) ++ t545) ++ (⟨#[51]⟩ : ByteArray)).size)) (⟨#[]⟩ : ByteArray) y549) else (none)) else (none)) else (none)) else (none)) else (brooklaw7_EvalParts.j1 kj4 (((⟨#[120]⟩ : ByteArray) ++ t543) ++ (⟨#[49]⟩ : ByteArray)) (((⟨#[121]⟩ : ByteArray) ++ t544) ++ (⟨#[50]⟩ : ByteArray)) (((⟨#[122]⟩ : ByteArray) ++ t545) ++ (⟨#[51]⟩ : ByteArray)) (⟨#[]⟩ : ByteArray) y549))) else (none)) else (none)) else (none)) else (none))) else (none)) else (none)) = some r := H
      have A14 := Aside0.mk A140
      clear A140
      by_cases c15 : 1 + t544.size ≤ 9223372036854775807
      ·rw [if_pos c15] at H
       have c15b0 := eq_true c15
       have c15b1 : decide (1 + t544.size ≤ 9223372036854775807) = true := decide_eq_true c15
       try have c15b2 : (9223372036854775807 < 1 + t544.size) = False := eq_false (Nat.not_lt.2 c15)
       by_cases c16 : ((⟨#[121]⟩ : ByteArray) ++ t544).size + 1 ≤ 9223372036854775807
       ·rw [if_pos c16] at H
        have c16b0 := eq_true c16
        have c16b1 : decide (((⟨#[121]⟩ : ByteArray) ++ t544).size + 1 ≤ 9223372036854775807) = true := decide_eq_true c16
        try have c16b2 : (9223372036854775807 < ((⟨#[121]⟩ : ByteArray) ++ t544).size + 1) = False := eq_false (Nat.not_lt.2 c16)
        try (have c16b3 := c16b2; simp only [ByteArray.size_append, show ∀ a : UInt8, (⟨#[a]⟩ : ByteArray).size = 1 from fun _ => rfl, show ∀ a b : UInt8, (⟨#[a, b]⟩ : ByteArray).size = 2 from fun _ _ => rfl] at c16b3)
        replace H := Option.bind_eq_some_iff.mp H
        obtain ⟨t545, A170, H⟩ := H
        replace H : (if 1 + t545.size ≤ 9223372036854775807 then (if ((⟨#[122]⟩ : ByteArray) ++ t545).size + 1 ≤ 9223372036854775807 then (if (((⟨#[120]⟩ : ByteArray) ++ t543) ++ (⟨#[49]⟩ : ByteArray)).size + (((⟨#[121]⟩ : ByteArray) ++ t544) ++ (⟨#[50]⟩ : ByteArray)).size ≤ 9223372036854775807 then (if ((((⟨#[120]⟩ : ByteArray) ++ t543) ++ (⟨#[49]⟩ : ByteArray)) ++ (((⟨#[121]⟩ : ByteArray) ++ t544) ++ (⟨#[50]⟩ : ByteArray))).size + (((⟨#[122]⟩ : ByteArray) ++ t545) ++ (⟨#[51]⟩ : ByteArray)).size ≤ 9223372036854775807 then ((some (([(⟨(⟨#[99, 110]⟩ : ByteArray), (([(⟨#[111, 116, 104, 101, 114]⟩ : ByteArray), ((((⟨#[120]⟩ : ByteArray) ++ t543) ++ (⟨#[49]⟩ : ByteArray)) ++ (((⟨#[121]⟩ : ByteArray) ++ t544) ++ (⟨#[50]⟩ : ByteArray))) ++ (((⟨#[122]⟩ : ByteArray) ++ t545) ++ (⟨#[51]⟩ : ByteArray))] : List ByteArray))⟩ : S45)] : List (S45)) : List (S45))).bind fun y549 => (if a3 = true then (if 1 ≤ ((((⟨#[120]⟩ : ByteArray) ++ t543) ++ (⟨#[49]⟩ : ByteArray)).size : Int) then (if 1 + ((((⟨#[120]⟩ : ByteArray) ++ t543) ++ (⟨#[49]⟩ : ByteArray)).extract 1 (((⟨#[120]⟩ : ByteArray) ++ t543) ++ (⟨#[49]⟩ : ByteArray)).size).size ≤ 9223372036854775807 then (if 1 ≤ ((((⟨#[122]⟩ : ByteArray) ++ t545) ++ (⟨#[51]⟩ : ByteArray)).size : Int) then (if 1 + ((((⟨#[122]⟩ : ByteArray) ++ t545) ++ (⟨#[51]⟩ : ByteArray)).extract 1 (((⟨#[122]⟩ : ByteArray) ++ t545) ++ (⟨#[51]⟩ : ByteArray)).size).size ≤ 9223372036854775807 then (brooklaw7_EvalParts.j1 kj4 ((⟨#[88]⟩ : ByteArray) ++ ((((⟨#[120]⟩ : ByteArray) ++ t543) ++ (⟨#[49]⟩ : ByteArray)).extract 1 (((⟨#[120]⟩ : ByteArray) ++ t543) ++ (⟨#[49]⟩ : ByteArray)).size)) (((⟨#[121]⟩ : ByteArray) ++ t544) ++ (⟨#[50]⟩ : ByteArray)) ((⟨#[90]⟩ : ByteArray) ++ ((((⟨#[122]⟩ : ByteArray) ++ t545) ++ (⟨#[51]⟩ : ByteArray)).extract 1 (((⟨#[122]⟩ : ByteArray) ++ t545) ++ (⟨#[51]⟩ : ByteArray)).size)) (⟨#[]⟩ : ByteArray) y549) else (none)) else (none)) else (none)) else (none)) else (brooklaw7_EvalParts.j1 kj4 (((⟨#[120]⟩ : ByteArray) ++ t543) ++ (⟨#[49]⟩ : ByteArray)) (((⟨#[121]⟩ : ByteArray) ++ t544) ++ (⟨#[50]⟩ : ByteArray)) (((⟨#[122]⟩ : ByteArray) ++ t545) ++ (⟨#[51]⟩ : ByteArray)) (⟨#[]⟩ : ByteArray) y549))) else (none)) else (none)) else (none)) else (none)) = some r := H
        have A17 := Aside0.mk A170
        clear A170
        by_cases c18 : 1 + t545.size ≤ 9223372036854775807
        ·rw [if_pos c18] at H
         have c18b0 := eq_true c18
         have c18b1 : decide (1 + t545.size ≤ 9223372036854775807) = true := decide_eq_true c18
         try have c18b2 : (9223372036854775807 < 1 + t545.size) = False := eq_false (Nat.not_lt.2 c18)
         by_cases c19 : ((⟨#[122]⟩ : ByteArray) ++ t545).size + 1 ≤ 9223372036854775807
         ·rw [if_pos c19] at H
          have c19b0 := eq_true c19
          have c19b1 : decide (((⟨#[122]⟩ : ByteArray) ++ t545).size + 1 ≤ 9223372036854775807) = true := decide_eq_true c19
          try have c19b2 : (9223372036854775807 < ((⟨#[122]⟩ : ByteArray) ++ t545).size + 1) = False := eq_false (Nat.not_lt.2 c19)
          try (have c19b3 := c19b2; simp only [ByteArray.size_append, show ∀ a : UInt8, (⟨#[a]⟩ : ByteArray).size = 1 from fun _ => rfl, show ∀ a b : UInt8, (⟨#[a, b]⟩ : ByteArray).size = 2 from fun _ _ => rfl] at c19b3)
          by_cases c20 : (((⟨#[120]⟩ : ByteArray) ++ t543) ++ (⟨#[49]⟩ : ByteArray)).size + (((⟨#[121]⟩ : ByteArray) ++ t544) ++ (⟨#[50]⟩ : ByteArray)).size ≤ 9223372036854775807
          ·rw [if_pos c20] at H
           have c20b0 := eq_true c20
           have c20b1 : decide ((((⟨#[120]⟩ : ByteArray) ++ t543) ++ (⟨#[49]⟩ : ByteArray)).size + (((⟨#[121]⟩ : ByteArray) ++ t544) ++ (⟨#[50]⟩ : ByteArray)).size ≤ 9223372036854775807) = true := decide_eq_true c20
           try have c20b2 : (9223372036854775807 < (((⟨#[120]⟩ : ByteArray) ++ t543) ++ (⟨#[49]⟩ : ByteArray)).size + (((⟨#[121]⟩ : ByteArray) ++ t544) ++ (⟨#[50]⟩ : ByteArray)).size) = False := eq_false (Nat.not_lt.2 c20)
           try (have c20b3 := c20b2; simp only [ByteArray.size_append, show ∀ a : UInt8, (⟨#[a]⟩ : ByteArray).size = 1 from fun _ => rfl, show ∀ a b : UInt8, (⟨#[a, b]⟩ : ByteArray).size = 2 from fun _ _ => rfl] at c20b3)
           by_cases c21 : ((((⟨#[120]⟩ : ByteArray) ++ t543) ++ (⟨#[49]⟩ : ByteArray)) ++ (((⟨#[121]⟩ : ByteArray) ++ t544) ++ (⟨#[50]⟩ : ByteArray))).size + (((⟨#[122]⟩ : ByteArray) ++ t545) ++ (⟨#[51]⟩ : ByteArray)).size ≤ 9223372036854775807
           ·rw [if_pos c21] at H
            have c21b0 := eq_true c21
            have c21b1 : decide (((((⟨#[120]⟩ : ByteArray) ++ t543) ++ (⟨#[49]⟩ : ByteArray)) ++ (((⟨#[121]⟩ : ByteArray) ++ t544) ++ (⟨#[50]⟩ : ByteArray))).size + (((⟨#[122]⟩ : ByteArray) ++ t545) ++ (⟨#[51]⟩ : ByteArray)).size ≤ 9223372036854775807) = true := decide_eq_true c21
            try have c21b2 : (9223372036854775807 < ((((⟨#[120]⟩ : ByteArray) ++ t543) ++ (⟨#[49]⟩ : ByteArray)) ++ (((⟨#[121]⟩ : ByteArray) ++ t544) ++ (⟨#[50]⟩ : ByteArray))).size + (((⟨#[122]⟩ : ByteArray) ++ t545) ++ (⟨#[51]⟩ : ByteArray)).size) = False := eq_false (Nat.not_lt.2 c21)
            try (have c21b3 := c21b2; simp only [ByteArray.size_append, show ∀ a : UInt8, (⟨#[a]⟩ : ByteArray).size = 1 from fun _ => rfl, show ∀ a b : UInt8, (⟨#[a, b]⟩ : ByteArray).size = 2 from fun _ _ => rfl] at c21b3)
            obtain ⟨y546, hy546⟩ : ∃ y_ : List ByteArray, y_ = (([(⟨#[111, 116, 104, 101, 114]⟩ : ByteArray), ((((⟨#[120]⟩ : ByteArray) ++ t543) ++ (⟨#[49]⟩ : ByteArray)) ++ (((⟨#[121]⟩ : ByteArray) ++ t544) ++ (⟨#[50]⟩ : ByteArray))) ++ (((⟨#[122]⟩ : ByteArray) ++ t545) ++ (⟨#[51]⟩ : ByteArray))] : List ByteArray)) := ⟨_, rfl⟩
            replace H : ((some (([(⟨(⟨#[99, 110]⟩ : ByteArray), y546⟩ : S45)] : List (S45)) : List (S45))).bind fun y549 => (if a3 = true then (if 1 ≤ ((((⟨#[120]⟩ : ByteArray) ++ t543) ++ (⟨#[49]⟩ : ByteArray)).size : Int) then (if 1 + ((((⟨#[120]⟩ : ByteArray) ++ t543) ++ (⟨#[49]⟩ : ByteArray)).extract 1 (((⟨#[120]⟩ : ByteArray) ++ t543) ++ (⟨#[49]⟩ : ByteArray)).size).size ≤ 9223372036854775807 then (if 1 ≤ ((((⟨#[122]⟩ : ByteArray) ++ t545) ++ (⟨#[51]⟩ : ByteArray)).size : Int) then (if 1 + ((((⟨#[122]⟩ : ByteArray) ++ t545) ++ (⟨#[51]⟩ : ByteArray)).extract 1 (((⟨#[122]⟩ : ByteArray) ++ t545) ++ (⟨#[51]⟩ : ByteArray)).size).size ≤ 9223372036854775807 then (brooklaw7_EvalParts.j1 kj4 ((⟨#[88]⟩ : ByteArray) ++ ((((⟨#[120]⟩ : ByteArray) ++ t543) ++ (⟨#[49]⟩ : ByteArray)).extract 1 (((⟨#[120]⟩ : ByteArray) ++ t543) ++ (⟨#[49]⟩ : ByteArray)).size)) (((⟨#[121]⟩ : ByteArray) ++ t544) ++ (⟨#[50]⟩ : ByteArray)) ((⟨#[90]⟩ : ByteArray) ++ ((((⟨#[122]⟩ : ByteArray) ++ t545) ++ (⟨#[51]⟩ : ByteArray)).extract 1 (((⟨#[122]⟩ : ByteArray) ++ t545) ++ (⟨#[51]⟩ : ByteArray)).size)) (⟨#[]⟩ : ByteArray) y549) else (none)) else (none)) else (none)) else (none)) else (brooklaw7_EvalParts.j1 kj4 (((⟨#[120]⟩ : ByteArray) ++ t543) ++ (⟨#[49]⟩ : ByteArray)) (((⟨#[121]⟩ : ByteArray) ++ t544) ++ (⟨#[50]⟩ : ByteArray)) (((⟨#[122]⟩ : ByteArray) ++ t545) ++ (⟨#[51]⟩ : ByteArray)) (⟨#[]⟩ : ByteArray) y549))) = some r := by first | (rw [hy546]; with_reducible exact H) | (have H2_ := (Option.bind_some _ _).symm.trans H; rw [hy546]; with_reducible exact H2_) | (have H2_ := (Option.bind_some _ _).symm.trans H; with_reducible exact H2_) | with_reducible exact H | (rw [hy546]; exact H) | exact H
            have Ny546 := Aside0.mk hy546
            clear hy546
            obtain ⟨y549, hy549⟩ : ∃ y_ : List (S45), y_ = (([(⟨(⟨#[99, 110]⟩ : ByteArray), y546⟩ : S45)] : List (S45))) := ⟨_, rfl⟩
            replace H : (if a3 = true then (if 1 ≤ ((((⟨#[120]⟩ : ByteArray) ++ t543) ++ (⟨#[49]⟩ : ByteArray)).size : Int) then (if 1 + ((((⟨#[120]⟩ : ByteArray) ++ t543) ++ (⟨#[49]⟩ : ByteArray)).extract 1 (((⟨#[120]⟩ : ByteArray) ++ t543) ++ (⟨#[49]⟩ : ByteArray)).size).size ≤ 9223372036854775807 then (if 1 ≤ ((((⟨#[122]⟩ : ByteArray) ++ t545) ++ (⟨#[51]⟩ : ByteArray)).size : Int) then (if 1 + ((((⟨#[122]⟩ : ByteArray) ++ t545) ++ (⟨#[51]⟩ : ByteArray)).extract 1 (((⟨#[122]⟩ : ByteArray) ++ t545) ++ (⟨#[51]⟩ : ByteArray)).size).size ≤ 9223372036854775807 then (brooklaw7_EvalParts.j1 kj4 ((⟨#[88]⟩ : ByteArray) ++ ((((⟨#[120]⟩ : ByteArray) ++ t543) ++ (⟨#[49]⟩ : ByteArray)).extract 1 (((⟨#[120]⟩ : ByteArray) ++ t543) ++ (⟨#[49]⟩ : ByteArray)).size)) (((⟨#[121]⟩ : ByteArray) ++ t544) ++ (⟨#[50]⟩ : ByteArray)) ((⟨#[90]⟩ : ByteArray) ++ ((((⟨#[122]⟩ : ByteArray) ++ t545) ++ (⟨#[51]⟩ : ByteArray)).extract 1 (((⟨#[122]⟩ : ByteArray) ++ t545) ++ (⟨#[51]⟩ : ByteArray)).size)) (⟨#[]⟩ : ByteArray) y549) else (none)) else (none)) else (none)) else (none)) else (brooklaw7_EvalParts.j1 kj4 (((⟨#[120]⟩ : ByteArray) ++ t543) ++ (⟨#[49]⟩ : ByteArray)) (((⟨#[121]⟩ : ByteArray) ++ t544) ++ (⟨#[50]⟩ : ByteArray)) (((⟨#[122]⟩ : ByteArray) ++ t545) ++ (⟨#[51]⟩ : ByteArray)) (⟨#[]⟩ : ByteArray) y549)) = some r := by first | (rw [hy549]; with_reducible exact H) | (have H2_ := (Option.bind_some _ _).symm.trans H; rw [hy549]; with_reducible exact H2_) | (have H2_ := (Option.bind_some _ _).symm.trans H; with_reducible exact H2_) | with_reducible exact H | (rw [hy549]; exact H) | exact H
            have Ny549 := Aside0.mk hy549
            clear hy549
            have HC22 := Aside0.mk H
            clear H
            go_upto_if 48 with (first | ((with_reducible refine gate_callee (f := 21) rfl ?_); refine goesL_ (some 28) rfl rfl Tryz.func21 (by kernel_rfl) rfl #[.string a0] rfl (by (try simp only [List.map_toArray, List.map_cons, List.map_nil]); first | done | rfl | (simp only [List.length_drop, List.length_take]; rfl)) ?_; (with_reducible refine (brookref1_Fold.calls kj4 a0 t543 _ A11.out).mono ?_); rintro e w23 ⟨rfl, hb⟩; refine ⟨_, rfl, ?_⟩; have n0_ := Aside0.mk (below_step (by repeat (first | (with_reducible first | exact HB.out | apply below_alloc | apply pw_below_drewN | apply below_drew1) | exact HB.out)) hb); clear HB; have HB := n0_; clear n0_; (try clear hb); (try clear hb2); (try clear hk); (try clear hi)) | ((with_reducible refine gate_callee (f := 21) rfl ?_); refine goesL_ (some 32) rfl rfl Tryz.func21 (by kernel_rfl) rfl #[.string a1] rfl (by (try simp only [List.map_toArray, List.map_cons, List.map_nil]); first | done | rfl | (simp only [List.length_drop, List.length_take]; rfl)) ?_; (with_reducible refine (brookref1_Fold.calls kj4 a1 t544 _ A14.out).mono ?_); rintro e w24 ⟨rfl, hb⟩; refine ⟨_, rfl, ?_⟩; have n0_ := Aside0.mk (below_step (by repeat (first | (with_reducible first | exact HB.out | apply below_alloc | apply pw_below_drewN | apply below_drew1) | exact HB.out)) hb); clear HB; have HB := n0_; clear n0_; (try clear hb); (try clear hb2); (try clear hk); (try clear hi)) | ((with_reducible refine gate_callee (f := 21) rfl ?_); refine goesL_ (some 36) rfl rfl Tryz.func21 (by kernel_rfl) rfl #[.string a2] rfl (by (try simp only [List.map_toArray, List.map_cons, List.map_nil]); first | done | rfl | (simp only [List.length_drop, List.length_take]; rfl)) ?_; (with_reducible refine (brookref1_Fold.calls kj4 a2 t545 _ A17.out).mono ?_); rintro e w25 ⟨rfl, hb⟩; refine ⟨_, rfl, ?_⟩; have n0_ := Aside0.mk (below_step (by repeat (first | (with_reducible first | exact HB.out | apply below_alloc | apply pw_below_drewN | apply below_drew1) | exact HB.out)) hb); clear HB; have HB := n0_; clear n0_; (try clear hb); (try clear hb2); (try clear hk); (try clear hi)) | ((with_reducible refine gate_dst (N := 44) rfl ?_); (try (refine gate_guard (by rfl) ?_; dsimp only)); refine Kd.R_lit Kd.string _ 9 ?hg (N := 44) ?hd (xs := ([(⟨#[111, 116, 104, 101, 114]⟩ : ByteArray), ((((⟨#[120]⟩ : ByteArray) ++ t543) ++ (⟨#[49]⟩ : ByteArray)) ++ (((⟨#[121]⟩ : ByteArray) ++ t544) ++ (⟨#[50]⟩ : ByteArray))) ++ (((⟨#[122]⟩ : ByteArray) ++ t545) ++ (⟨#[51]⟩ : ByteArray))] : List ByteArray)) (inner := [.string (⟨#[111, 116, 104, 101, 114]⟩ : ByteArray), .string (((((⟨#[120]⟩ : ByteArray) ++ t543) ++ (⟨#[49]⟩ : ByteArray)) ++ (((⟨#[121]⟩ : ByteArray) ++ t544) ++ (⟨#[50]⟩ : ByteArray))) ++ (((⟨#[122]⟩ : ByteArray) ++ t545) ++ (⟨#[51]⟩ : ByteArray)))]) (ok := fun _ => True) (okp := fun _ => True) ?hr ?hp (fun _ hk => hk) trivial (Below.refl _ _) (Nat.le_refl _) (by simp) ?_; (case hd => rfl); (case hg => rfl); (case hr => first | (go_simp; done) | (go_simp; rfl)); (case hp => exact (Reps.one (show Kd.M Kd.string _ _ _ (⟨#[111, 116, 104, 101, 114]⟩ : ByteArray) [.string (⟨#[111, 116, 104, 101, 114]⟩ : ByteArray)] from rfl) (Reps.one (show Kd.M Kd.string _ _ _ (((((⟨#[120]⟩ : ByteArray) ++ t543) ++ (⟨#[49]⟩ : ByteArray)) ++ (((⟨#[121]⟩ : ByteArray) ++ t544) ++ (⟨#[50]⟩ : ByteArray))) ++ (((⟨#[122]⟩ : ByteArray) ++ t545) ++ (⟨#[51]⟩ : ByteArray))) [.string (((((⟨#[120]⟩ : ByteArray) ++ t543) ++ (⟨#[49]⟩ : ByteArray)) ++ (((⟨#[121]⟩ : ByteArray) ++ t544) ++ (⟨#[50]⟩ : ByteArray))) ++ (((⟨#[122]⟩ : ByteArray) ++ t545) ++ (⟨#[51]⟩ : ByteArray)))] from rfl) (Reps.none _ _)))); intro v547 w26 ho27 hb hg_ hnew_; clear hg_ hnew_; (first | rw [← Ny546.out] at ho27 | (simp only [Int.reduceToNat] at ho27; rw [← Ny546.out] at ho27)); have n0_ := Aside0.mk (Kd.R_lower ho27 (below_size (by repeat (first | (with_reducible first | exact HB.out | apply below_alloc | apply pw_below_drewN | apply below_drew1) | exact HB.out)))); have n1_ := Aside0.mk (below_step (by repeat (first | (with_reducible first | exact HB.out | apply below_alloc | apply pw_below_drewN | apply below_drew1) | exact HB.out)) hb); clear HB; have HO548 := n0_; have HB := n1_; clear n0_ n1_; clear hb ho27; obtain ⟨Ao28, co28, eo28⟩ := Kd.R_slice HO548.out; subst eo28) | ((with_reducible refine gate_dst (N := 46) rfl ?_); (try (refine gate_guard (by rfl) ?_; dsimp only)); refine Kd.N_lit k45 _ 45 ?hg (N' := 46) ?hd (xs := ([(⟨(⟨#[99, 110]⟩ : ByteArray), y546⟩ : S45)] : List (S45))) (inner := [.string (⟨#[99, 110]⟩ : ByteArray), .slice Ao28 y546.length co28]) (ok := (fun _ => True)) (okp := (fun _ => True)) ?hr ?hp (fun _ hk => hk) ((show ∀ k_, w26.heap.size ≤ k_ → (fun _ => True) k_ from fun k_ hk => trivial) _ (Nat.le_refl _)) (Below.refl _ _) (Nat.le_refl _) (by simp) ?_; (case hd => rfl); (case hg => rfl); (case hr => first | (go_simp; done) | (go_simp; rfl)); (case hp => exact (Reps.c2 (show Kd.FK k45 _ _ (⟨(⟨#[99, 110]⟩ : ByteArray), y546⟩ : S45) [.string (⟨#[99, 110]⟩ : ByteArray), .slice Ao28 y546.length co28] from (k45_mkF _ _ (⟨(⟨#[99, 110]⟩ : ByteArray), y546⟩ : S45) (Kd.R_reads' (Kd.R_mono (ok' := (fun _ => True)) (HO548.out) (fun k_ hk => trivial))).2.1 (Kd.R_F (Kd.R_mono (ok' := (fun _ => True)) (HO548.out) (fun k_ hk => trivial))))) (Reps.none _ _))); intro v550 w29 ho30 hb hg_ hnew_; clear hg_ hnew_; (first | rw [← Ny549.out] at ho30 | (simp only [Int.reduceToNat] at ho30; rw [← Ny549.out] at ho30)); have n0_ := Aside0.mk (Kd.N_lower ho30 (below_size (by repeat (first | (with_reducible first | exact HB.out | apply below_alloc | apply pw_below_drewN | apply below_drew1) | exact HB.out)))); have n1_ := Aside0.mk (below_step (by repeat (first | (with_reducible first | exact HB.out | apply below_alloc | apply pw_below_drewN | apply below_drew1) | exact HB.out)) hb); clear HB; clear HO548; have HO551 := n0_; have HB := n1_; clear n0_ n1_; clear hb ho30; obtain ⟨Ao31, co31, eo31⟩ := Kd.N_slice HO551.out; subst eo31) | ((with_reducible refine gate_dst (N := 12) rfl ?_); (try (refine gate_guard (by rfl) ?_; dsimp only)); refine box_event ?hg (N := 12) ?hd (cs := #[.string (⟨#[]⟩ : ByteArray), .slice none 0 0]) (t := 28) ?hr ?_; (case hd => rfl); (case hg => rfl); (case hr => first | (go_simp; done) | (go_simp; rfl)); intro gb552 hg w32 hbox hb; have n0_ := Aside0.mk (Kd.N_below (Kd.N_elderB (by (with_reducible repeat (first | apply Kd.N_alloc | apply Kd.N_drewN | apply Kd.N_drew)); exact HO551.out) gb552 (Nat.le_of_eq hg.symm)) hb); have n1_ := Aside0.mk (below_step (by repeat (first | (with_reducible first | exact HB.out | apply below_alloc | apply pw_below_drewN | apply below_drew1) | exact HB.out)) hb); have n2_ := Aside0.mk (hbox); have n3_ := Aside0.mk ((by rw [hg]; exact (below_size (by repeat (first | (with_reducible first | exact HB.out | apply below_alloc | apply pw_below_drewN | apply below_drew1) | exact HB.out))) : w.heap.size ≤ gb552)); have n4_ := Aside0.mk ((by rw [hg]; exact (below_size (by repeat (first | (with_reducible first | exact HB.out | apply below_alloc | apply pw_below_drewN | apply below_drew1) | exact HB.out))) : w.heap.size ≤ gb552)); clear HO551; clear HB; have HO551 := n0_; have HB := n1_; have BK552 := n2_; have GW552 := n3_; have GE552 := n4_; clear n0_ n1_ n2_ n3_ n4_; clear hb hbox hg; have hcz33_0 : w32.cell? ⟨gb552, 0, none⟩ = some (.string (⟨#[]⟩ : ByteArray)) := (blk_cell BK552.out 0).trans rfl; have hcz33_1 : w32.cell? ⟨gb552, 1, none⟩ = some (.slice none 0 0) := (blk_cell BK552.out 1).trans rfl; have hfz33_0 := blk_frozen BK552.out 0; have hfz33_1 := blk_frozen BK552.out 1))
            (try simp only [Act.put, List.setIfInBounds_toArray, List.set_cons_zero, List.set_cons_succ])
            go_cut [9, 11] (fun v9 v11 wc => ∃ (kq : Nat) (x9_21 : ByteArray) (x11_21 : ByteArray), v9 = .string x9_21 ∧ v11 = .string x11_21 ∧ Aside0 (brooklaw7_EvalParts.j1 kq x9_21 (((⟨#[121]⟩ : ByteArray) ++ t544) ++ (⟨#[50]⟩ : ByteArray)) x11_21 (⟨#[]⟩ : ByteArray) y549 = some r) ∧ Aside0 (kq ≤ kj4) ∧ Aside0 (Kd.N k45 45 wc w.heap.size (fun k_ => k_ ≠ gb552) (.slice Ao31 y549.length co31) y549) ∧ Aside0 (wc.heap[gb552]? = some (.cells #[.string (⟨#[]⟩ : ByteArray), (.slice Ao31 y549.length co31)] 28 (0, 0))) ∧ Aside0 (Below w.heap.size w wc))
            case first =>
             have H := HC22.out
             clear HC22
             by_cases c34 : a3 = true
             ·subst c34
              have H1 : (if 1 ≤ ((((⟨#[120]⟩ : ByteArray) ++ t543) ++ (⟨#[49]⟩ : ByteArray)).size : Int) then (if 1 + ((((⟨#[120]⟩ : ByteArray) ++ t543) ++ (⟨#[49]⟩ : ByteArray)).extract 1 (((⟨#[120]⟩ : ByteArray) ++ t543) ++ (⟨#[49]⟩ : ByteArray)).size).size ≤ 9223372036854775807 then (if 1 ≤ ((((⟨#[122]⟩ : ByteArray) ++ t545) ++ (⟨#[51]⟩ : ByteArray)).size : Int) then (if 1 + ((((⟨#[122]⟩ : ByteArray) ++ t545) ++ (⟨#[51]⟩ : ByteArray)).extract 1 (((⟨#[122]⟩ : ByteArray) ++ t545) ++ (⟨#[51]⟩ : ByteArray)).size).size ≤ 9223372036854775807 then (brooklaw7_EvalParts.j1 kj4 ((⟨#[88]⟩ : ByteArray) ++ ((((⟨#[120]⟩ : ByteArray) ++ t543) ++ (⟨#[49]⟩ : ByteArray)).extract 1 (((⟨#[120]⟩ : ByteArray) ++ t543) ++ (⟨#[49]⟩ : ByteArray)).size)) (((⟨#[121]⟩ : ByteArray) ++ t544) ++ (⟨#[50]⟩ : ByteArray)) ((⟨#[90]⟩ : ByteArray) ++ ((((⟨#[122]⟩ : ByteArray) ++ t545) ++ (⟨#[51]⟩ : ByteArray)).extract 1 (((⟨#[122]⟩ : ByteArray) ++ t545) ++ (⟨#[51]⟩ : ByteArray)).size)) (⟨#[]⟩ : ByteArray) y549) else (none)) else (none)) else (none)) else (none)) = some r := by rw [if_pos rfl] at H; exact H
              clear H
              have H := H1
              clear H1
              by_cases c35 : 1 ≤ ((((⟨#[120]⟩ : ByteArray) ++ t543) ++ (⟨#[49]⟩ : ByteArray)).size : Int)
              ·rw [if_pos c35] at H
               have c35b0 := eq_true c35
               have c35b1 : decide (1 ≤ ((((⟨#[120]⟩ : ByteArray) ++ t543) ++ (⟨#[49]⟩ : ByteArray)).size : Int)) = true := decide_eq_true c35
               by_cases c36 : 1 + ((((⟨#[120]⟩ : ByteArray) ++ t543) ++ (⟨#[49]⟩ : ByteArray)).extract 1 (((⟨#[120]⟩ : ByteArray) ++ t543) ++ (⟨#[49]⟩ : ByteArray)).size).size ≤ 9223372036854775807
               ·rw [if_pos c36] at H
                have c36b0 := eq_true c36
                have c36b1 : decide (1 + ((((⟨#[120]⟩ : ByteArray) ++ t543) ++ (⟨#[49]⟩ : ByteArray)).extract 1 (((⟨#[120]⟩ : ByteArray) ++ t543) ++ (⟨#[49]⟩ : ByteArray)).size).size ≤ 9223372036854775807) = true := decide_eq_true c36
                have c36b4 : (9223372036854775807 < 1 + (1 + t543.size)) = False := eq_false (Nat.not_lt.2 (by have hh := c36; simp only [ByteArray.size_extract, ByteArray.size_append, show ∀ a : UInt8, (⟨#[a]⟩ : ByteArray).size = 1 from fun _ => rfl] at hh; omega))
                try have c36b2 : (9223372036854775807 < 1 + ((((⟨#[120]⟩ : ByteArray) ++ t543) ++ (⟨#[49]⟩ : ByteArray)).extract 1 (((⟨#[120]⟩ : ByteArray) ++ t543) ++ (⟨#[49]⟩ : ByteArray)).size).size) = False := eq_false (Nat.not_lt.2 c36)
                try (have c36b3 := c36b2; simp only [ByteArray.size_append, show ∀ a : UInt8, (⟨#[a]⟩ : ByteArray).size = 1 from fun _ => rfl, show ∀ a b : UInt8, (⟨#[a, b]⟩ : ByteArray).size = 2 from fun _ _ => rfl] at c36b3)
                by_cases c37 : 1 ≤ ((((⟨#[122]⟩ : ByteArray) ++ t545) ++ (⟨#[51]⟩ : ByteArray)).size : Int)
                ·rw [if_pos c37] at H
                 have c37b0 := eq_true c37
                 have c37b1 : decide (1 ≤ ((((⟨#[122]⟩ : ByteArray) ++ t545) ++ (⟨#[51]⟩ : ByteArray)).size : Int)) = true := decide_eq_true c37
                 by_cases c38 : 1 + ((((⟨#[122]⟩ : ByteArray) ++ t545) ++ (⟨#[51]⟩ : ByteArray)).extract 1 (((⟨#[122]⟩ : ByteArray) ++ t545) ++ (⟨#[51]⟩ : ByteArray)).size).size ≤ 9223372036854775807
                 ·rw [if_pos c38] at H
                  have c38b0 := eq_true c38
                  have c38b1 : decide (1 + ((((⟨#[122]⟩ : ByteArray) ++ t545) ++ (⟨#[51]⟩ : ByteArray)).extract 1 (((⟨#[122]⟩ : ByteArray) ++ t545) ++ (⟨#[51]⟩ : ByteArray)).size).size ≤ 9223372036854775807) = true := decide_eq_true c38
                  have c38b4 : (9223372036854775807 < 1 + (1 + t545.size)) = False := eq_false (Nat.not_lt.2 (by have hh := c38; simp only [ByteArray.size_extract, ByteArray.size_append, show ∀ a : UInt8, (⟨#[a]⟩ : ByteArray).size = 1 from fun _ => rfl] at hh; omega))
                  try have c38b2 : (9223372036854775807 < 1 + ((((⟨#[122]⟩ : ByteArray) ++ t545) ++ (⟨#[51]⟩ : ByteArray)).extract 1 (((⟨#[122]⟩ : ByteArray) ++ t545) ++ (⟨#[51]⟩ : ByteArray)).size).size) = False := eq_false (Nat.not_lt.2 c38)
                  try (have c38b3 := c38b2; simp only [ByteArray.size_append, show ∀ a : UInt8, (⟨#[a]⟩ : ByteArray).size = 1 from fun _ => rfl, show ∀ a b : UInt8, (⟨#[a, b]⟩ : ByteArray).size = 2 from fun _ _ => rfl] at c38b3)
                  have H' := Aside0.mk H
                  clear H
                  go_wp2
                  go_meet
                  case rel => exact ⟨_, ((⟨#[88]⟩ : ByteArray) ++ ((((⟨#[120]⟩ : ByteArray) ++ t543) ++ (⟨#[49]⟩ : ByteArray)).extract 1 (((⟨#[120]⟩ : ByteArray) ++ t543) ++ (⟨#[49]⟩ : ByteArray)).size)), ((⟨#[90]⟩ : ByteArray) ++ ((((⟨#[122]⟩ : ByteArray) ++ t545) ++ (⟨#[51]⟩ : ByteArray)).extract 1 (((⟨#[122]⟩ : ByteArray) ++ t545) ++ (⟨#[51]⟩ : ByteArray)).size)), (by first | rfl | (simp only [ByteArray.size_append]; rfl) | (simp; done) | (simp [*]; done) | (simp [*, i64_w, i32_w, u8_w]; done) | (simp only [bneNil, beqNil]; done) | (simp only [bneNil, beqNil]; simp; done) | (simp only [bneNil, beqNil]; simp [*]; done)), (by first | rfl | (simp only [ByteArray.size_append]; rfl) | (simp; done) | (simp [*]; done) | (simp [*, i64_w, i32_w, u8_w]; done) | (simp only [bneNil, beqNil]; done) | (simp only [bneNil, beqNil]; simp; done) | (simp only [bneNil, beqNil]; simp [*]; done)), H', ⟨by have := HJ4.out; first | omega | exact Nat.le_refl _⟩, ⟨by (with_reducible repeat (first | apply Kd.N_alloc | apply Kd.N_drewN | apply Kd.N_drew)); exact Kd.N_mono (Kd.N_far (p := ⟨gb552, 1, none⟩) (Kd.N_far (p := ⟨gb552, 0, none⟩) (Kd.N_mono HO551.out (fun k_ hk => (⟨hk, hk.2⟩ : _ ∧ k_ ≠ gb552))) (fun _ hk => hk.2) (.string (⟨#[]⟩ : ByteArray))) (fun _ hk => hk.2) (.slice Ao31 y549.length co31)) (fun _ hk => hk.1.2)⟩, ⟨by (with_reducible repeat (first | refine blk_drewN ?_ _ | refine blk_drew ?_ | refine blk_alloc ?_ _)); refine blk_put (cs := #[.string (⟨#[]⟩ : ByteArray), .slice none 0 0]) ?_ 1 _ (by first | rfl | (simp only [bneNil, beqNil]; rfl) | simp [bneNil, beqNil]); (with_reducible repeat (first | refine blk_drewN ?_ _ | refine blk_drew ?_ | refine blk_alloc ?_ _)); refine blk_put (cs := #[.string (⟨#[]⟩ : ByteArray), .slice none 0 0]) ?_ 0 _ (by first | rfl | (simp only [bneNil, beqNil]; rfl) | simp [bneNil, beqNil]); (with_reducible repeat (first | refine blk_drewN ?_ _ | refine blk_drew ?_ | refine blk_alloc ?_ _)); exact BK552.out⟩, ⟨by repeat (first | (with_reducible first | exact HB.out | apply below_alloc | apply pw_below_drewN | apply below_drew1 | refine below_set ?_ GE552.out) | exact HB.out)⟩⟩
                 ·rw [if_neg c38] at H
                  exact absurd H (by simp)
                ·rw [if_neg c37] at H
                 exact absurd H (by simp)
               ·rw [if_neg c36] at H
                exact absurd H (by simp)
              ·rw [if_neg c35] at H
               exact absurd H (by simp)
             ·replace c34 := Bool.eq_false_iff.mpr c34
              subst c34
              have H1 : (brooklaw7_EvalParts.j1 kj4 (((⟨#[120]⟩ : ByteArray) ++ t543) ++ (⟨#[49]⟩ : ByteArray)) (((⟨#[121]⟩ : ByteArray) ++ t544) ++ (⟨#[50]⟩ : ByteArray)) (((⟨#[122]⟩ : ByteArray) ++ t545) ++ (⟨#[51]⟩ : ByteArray)) (⟨#[]⟩ : ByteArray) y549) = some r := by rw [if_neg (show ¬ (false = true) by decide)] at H; exact H
              clear H
              have H := H1
              clear H1
              have H' := Aside0.mk H
              clear H
              go_wp2
              go_meet
              case rel => exact ⟨_, (((⟨#[120]⟩ : ByteArray) ++ t543) ++ (⟨#[49]⟩ : ByteArray)), (((⟨#[122]⟩ : ByteArray) ++ t545) ++ (⟨#[51]⟩ : ByteArray)), (by first | rfl | (simp; done) | (simp [*]; done) | (simp [*, i64_w, i32_w, u8_w]; done) | (simp only [bneNil, beqNil]; done) | (simp only [bneNil, beqNil]; simp; done) | (simp only [bneNil, beqNil]; simp [*]; done)), (by first | rfl | (simp; done) | (simp [*]; done) | (simp [*, i64_w, i32_w, u8_w]; done) | (simp only [bneNil, beqNil]; done) | (simp only [bneNil, beqNil]; simp; done) | (simp only [bneNil, beqNil]; simp [*]; done)), H', ⟨by have := HJ4.out; first | omega | exact Nat.le_refl _⟩, ⟨by (with_reducible repeat (first | apply Kd.N_alloc | apply Kd.N_drewN | apply Kd.N_drew)); exact Kd.N_mono (Kd.N_far (p := ⟨gb552, 1, none⟩) (Kd.N_far (p := ⟨gb552, 0, none⟩) (Kd.N_mono HO551.out (fun k_ hk => (⟨hk, hk.2⟩ : _ ∧ k_ ≠ gb552))) (fun _ hk => hk.2) (.string (⟨#[]⟩ : ByteArray))) (fun _ hk => hk.2) (.slice Ao31 y549.length co31)) (fun _ hk => hk.1.2)⟩, ⟨by (with_reducible repeat (first | refine blk_drewN ?_ _ | refine blk_drew ?_ | refine blk_alloc ?_ _)); refine blk_put (cs := #[.string (⟨#[]⟩ : ByteArray), .slice none 0 0]) ?_ 1 _ (by first | rfl | (simp only [bneNil, beqNil]; rfl) | simp [bneNil, beqNil]); (with_reducible repeat (first | refine blk_drewN ?_ _ | refine blk_drew ?_ | refine blk_alloc ?_ _)); refine blk_put (cs := #[.string (⟨#[]⟩ : ByteArray), .slice none 0 0]) ?_ 0 _ (by first | rfl | (simp only [bneNil, beqNil]; rfl) | simp [bneNil, beqNil]); (with_reducible repeat (first | refine blk_drewN ?_ _ | refine blk_drew ?_ | refine blk_alloc ?_ _)); exact BK552.out⟩, ⟨by repeat (first | (with_reducible first | exact HB.out | apply below_alloc | apply pw_below_drewN | apply below_drew1 | refine below_set ?_ GE552.out) | exact HB.out)⟩⟩
            case rest =>
             clear HC22
             try clear c1
             try clear c2
             try clear p2
             try clear c3
             try clear c6
             try clear c6b0
             try clear c6b1
             try clear c7
             try clear c7b0
             try clear c7b1
             try clear c8
             try clear c12
             try clear c12b0
             try clear c12b1
             try clear c12b2
             try clear c13
             try clear c13b0
             try clear c13b1
             try clear c13b2
             try clear c15
             try clear c15b0
             try clear c15b1
             try clear c15b2
             try clear c16
             try clear c16b0
             try clear c16b1
             try clear c16b2
             try clear c18
             try clear c18b0
             try clear c18b1
             try clear c18b2
             try clear c19
             try clear c19b0
             try clear c19b1
             try clear c19b2
             try clear c20
             try clear c20b0
             try clear c20b1
             try clear c20b2
             try clear c21
             try clear c21b0
             try clear c21b1
             try clear c21b2
             try clear c34
             try clear c35
             try clear c35b0
             try clear c35b1
             try clear c36
             try clear c36b0
             try clear c36b1
             try clear c36b2
             try clear c37
             try clear c37b0
             try clear c37b1
             try clear c38
             try clear c38b0
             try clear c38b1
             try clear c38b2
             try clear hcz33_0
             try clear hcz33_1
             try clear hfz33_0
             try clear hfz33_1
             try clear p2
             obtain ⟨kq, x9_21, x11_21, rfl, rfl, HA, HJ21, HO_553001, BK552, HB⟩ := hcut
             cases kq with
             | zero => exact absurd HA.out (by simp [brooklaw7_EvalParts.j1])
             | succ kj21 =>
              have H := HA.out
              clear HA
              simp only [brooklaw7_EvalParts.j1] at H
              obtain ⟨y553, hy553⟩ : ∃ y_ : List ByteArray, y_ = (([x9_21, (⟨#[]⟩ : ByteArray)] : List ByteArray)) := ⟨_, rfl⟩
              replace H : ((brooklaw7_sub.f kj21 (⟨#[]⟩ : ByteArray) y549 y553).bind fun t556 => (if t556 = 1 then ((brooklaw7_sub.f kj21 (⟨#[]⟩ : ByteArray) y549 (([(⟨#[]⟩ : ByteArray), x11_21] : List ByteArray))).bind fun t560 => (if t560 = 1 then ((brooklaw7_sub.f kj21 (⟨#[]⟩ : ByteArray) y549 (([(⟨#[]⟩ : ByteArray), (((⟨#[121]⟩ : ByteArray) ++ t544) ++ (⟨#[50]⟩ : ByteArray)), (⟨#[]⟩ : ByteArray)] : List ByteArray))).bind fun t564 => (if t564 = 1 then ((brooklaw7_sub.f kj21 (⟨#[]⟩ : ByteArray) y549 (([x9_21, (((⟨#[121]⟩ : ByteArray) ++ t544) ++ (⟨#[50]⟩ : ByteArray)), x11_21] : List ByteArray))).bind fun t568 => (if t568 = 1 then ((brooklaw7_sub.f kj21 (⟨#[]⟩ : ByteArray) y549 (([(⟨#[]⟩ : ByteArray), x9_21, (((⟨#[121]⟩ : ByteArray) ++ t544) ++ (⟨#[50]⟩ : ByteArray)), x11_21, (⟨#[]⟩ : ByteArray)] : List ByteArray))).bind fun t572 => (if t572 = 1 then ((brooklaw7_sub.f kj21 (⟨#[]⟩ : ByteArray) y549 (([x9_21, x11_21, (((⟨#[121]⟩ : ByteArray) ++ t544) ++ (⟨#[50]⟩ : ByteArray)), (⟨#[]⟩ : ByteArray)] : List ByteArray))).bind fun t576 => (if t576 = 0 then (if x11_21.size + 1 ≤ 9223372036854775807 then ((brooklaw7_sub.f kj21 (⟨#[]⟩ : ByteArray) y549 (([(⟨#[]⟩ : ByteArray), (((⟨#[121]⟩ : ByteArray) ++ t544) ++ (⟨#[50]⟩ : ByteArray)), x11_21 ++ (⟨#[33]⟩ : ByteArray)] : List ByteArray))).bind fun t580 => (if t580 = 0 then (if x9_21.size + (((⟨#[121]⟩ : ByteArray) ++ t544) ++ (⟨#[50]⟩ : ByteArray)).size ≤ 9223372036854775807 then (if (((⟨#[121]⟩ : ByteArray) ++ t544) ++ (⟨#[50]⟩ : ByteArray)).size + x11_21.size ≤ 9223372036854775807 then ((brooklaw7_sub.f kj21 (⟨#[]⟩ : ByteArray) y549 (([x9_21 ++ (((⟨#[121]⟩ : ByteArray) ++ t544) ++ (⟨#[50]⟩ : ByteArray)), (((⟨#[121]⟩ : ByteArray) ++ t544) ++ (⟨#[50]⟩ : ByteArray)) ++ x11_21] : List ByteArray))).bind fun t584 => (if t584 = 0 then ((brooklaw7_awake.f kj21).bind fun t585 => (some t585)) else (some false))) else (none)) else (none)) else (some false))) else (none)) else (some false))) else (some false))) else (some false))) else (some false))) else (some false))) else (some false))) = some r := by first | (rw [hy553]; with_reducible exact H) | (have H2_ := (Option.bind_some _ _).symm.trans H; rw [hy553]; with_reducible exact H2_) | (have H2_ := (Option.bind_some _ _).symm.trans H; with_reducible exact H2_) | with_reducible exact H | (rw [hy553]; exact H) | exact H
              have Ny553 := Aside0.mk hy553
              clear hy553
              replace H := Option.bind_eq_some_iff.mp H
              obtain ⟨t556, A390, H⟩ := H
              replace H : (if t556 = 1 then ((brooklaw7_sub.f kj21 (⟨#[]⟩ : ByteArray) y549 (([(⟨#[]⟩ : ByteArray), x11_21] : List ByteArray))).bind fun t560 => (if t560 = 1 then ((brooklaw7_sub.f kj21 (⟨#[]⟩ : ByteArray) y549 (([(⟨#[]⟩ : ByteArray), (((⟨#[121]⟩ : ByteArray) ++ t544) ++ (⟨#[50]⟩ : ByteArray)), (⟨#[]⟩ : ByteArray)] : List ByteArray))).bind fun t564 => (if t564 = 1 then ((brooklaw7_sub.f kj21 (⟨#[]⟩ : ByteArray) y549 (([x9_21, (((⟨#[121]⟩ : ByteArray) ++ t544) ++ (⟨#[50]⟩ : ByteArray)), x11_21] : List ByteArray))).bind fun t568 => (if t568 = 1 then ((brooklaw7_sub.f kj21 (⟨#[]⟩ : ByteArray) y549 (([(⟨#[]⟩ : ByteArray), x9_21, (((⟨#[121]⟩ : ByteArray) ++ t544) ++ (⟨#[50]⟩ : ByteArray)), x11_21, (⟨#[]⟩ : ByteArray)] : List ByteArray))).bind fun t572 => (if t572 = 1 then ((brooklaw7_sub.f kj21 (⟨#[]⟩ : ByteArray) y549 (([x9_21, x11_21, (((⟨#[121]⟩ : ByteArray) ++ t544) ++ (⟨#[50]⟩ : ByteArray)), (⟨#[]⟩ : ByteArray)] : List ByteArray))).bind fun t576 => (if t576 = 0 then (if x11_21.size + 1 ≤ 9223372036854775807 then ((brooklaw7_sub.f kj21 (⟨#[]⟩ : ByteArray) y549 (([(⟨#[]⟩ : ByteArray), (((⟨#[121]⟩ : ByteArray) ++ t544) ++ (⟨#[50]⟩ : ByteArray)), x11_21 ++ (⟨#[33]⟩ : ByteArray)] : List ByteArray))).bind fun t580 => (if t580 = 0 then (if x9_21.size + (((⟨#[121]⟩ : ByteArray) ++ t544) ++ (⟨#[50]⟩ : ByteArray)).size ≤ 9223372036854775807 then (if (((⟨#[121]⟩ : ByteArray) ++ t544) ++ (⟨#[50]⟩ : ByteArray)).size + x11_21.size ≤ 9223372036854775807 then ((brooklaw7_sub.f kj21 (⟨#[]⟩ : ByteArray) y549 (([x9_21 ++ (((⟨#[121]⟩ : ByteArray) ++ t544) ++ (⟨#[50]⟩ : ByteArray)), (((⟨#[121]⟩ : ByteArray) ++ t544) ++ (⟨#[50]⟩ : ByteArray)) ++ x11_21] : List ByteArray))).bind fun t584 => (if t584 = 0 then ((brooklaw7_awake.f kj21).bind fun t585 => (some t585)) else (some false))) else (none)) else (none)) else (some false))) else (none)) else (some false))) else (some false))) else (some false))) else (some false))) else (some false))) else (some false)) = some r := H
              have A39 := Aside0.mk A390
              clear A390
              by_cases c40 : t556 = 1
              ·rw [if_pos c40] at H
               have c40b0 : (t556 == 1) = true := beq_iff_eq.mpr c40
               have c40b1 : (t556 != 1) = false := bne_eq_false_iff_eq.mpr c40
               clear c40
               obtain ⟨y557, hy557⟩ : ∃ y_ : List ByteArray, y_ = (([(⟨#[]⟩ : ByteArray), x11_21] : List ByteArray)) := ⟨_, rfl⟩
               replace H : ((brooklaw7_sub.f kj21 (⟨#[]⟩ : ByteArray) y549 y557).bind fun t560 => (if t560 = 1 then ((brooklaw7_sub.f kj21 (⟨#[]⟩ : ByteArray) y549 (([(⟨#[]⟩ : ByteArray), (((⟨#[121]⟩ : ByteArray) ++ t544) ++ (⟨#[50]⟩ : ByteArray)), (⟨#[]⟩ : ByteArray)] : List ByteArray))).bind fun t564 => (if t564 = 1 then ((brooklaw7_sub.f kj21 (⟨#[]⟩ : ByteArray) y549 (([x9_21, (((⟨#[121]⟩ : ByteArray) ++ t544) ++ (⟨#[50]⟩ : ByteArray)), x11_21] : List ByteArray))).bind fun t568 => (if t568 = 1 then ((brooklaw7_sub.f kj21 (⟨#[]⟩ : ByteArray) y549 (([(⟨#[]⟩ : ByteArray), x9_21, (((⟨#[121]⟩ : ByteArray) ++ t544) ++ (⟨#[50]⟩ : ByteArray)), x11_21, (⟨#[]⟩ : ByteArray)] : List ByteArray))).bind fun t572 => (if t572 = 1 then ((brooklaw7_sub.f kj21 (⟨#[]⟩ : ByteArray) y549 (([x9_21, x11_21, (((⟨#[121]⟩ : ByteArray) ++ t544) ++ (⟨#[50]⟩ : ByteArray)), (⟨#[]⟩ : ByteArray)] : List ByteArray))).bind fun t576 => (if t576 = 0 then (if x11_21.size + 1 ≤ 9223372036854775807 then ((brooklaw7_sub.f kj21 (⟨#[]⟩ : ByteArray) y549 (([(⟨#[]⟩ : ByteArray), (((⟨#[121]⟩ : ByteArray) ++ t544) ++ (⟨#[50]⟩ : ByteArray)), x11_21 ++ (⟨#[33]⟩ : ByteArray)] : List ByteArray))).bind fun t580 => (if t580 = 0 then (if x9_21.size + (((⟨#[121]⟩ : ByteArray) ++ t544) ++ (⟨#[50]⟩ : ByteArray)).size ≤ 9223372036854775807 then (if (((⟨#[121]⟩ : ByteArray) ++ t544) ++ (⟨#[50]⟩ : ByteArray)).size + x11_21.size ≤ 9223372036854775807 then ((brooklaw7_sub.f kj21 (⟨#[]⟩ : ByteArray) y549 (([x9_21 ++ (((⟨#[121]⟩ : ByteArray) ++ t544) ++ (⟨#[50]⟩ : ByteArray)), (((⟨#[121]⟩ : ByteArray) ++ t544) ++ (⟨#[50]⟩ : ByteArray)) ++ x11_21] : List ByteArray))).bind fun t584 => (if t584 = 0 then ((brooklaw7_awake.f kj21).bind fun t585 => (some t585)) else (some false))) else (none)) else (none)) else (some false))) else (none)) else (some false))) else (some false))) else (some false))) else (some false))) else (some false))) = some r := by first | (rw [hy557]; with_reducible exact H) | (have H2_ := (Option.bind_some _ _).symm.trans H; rw [hy557]; with_reducible exact H2_) | (have H2_ := (Option.bind_some _ _).symm.trans H; with_reducible exact H2_) | with_reducible exact H | (rw [hy557]; exact H) | exact H
               have Ny557 := Aside0.mk hy557
               clear hy557
               replace H := Option.bind_eq_some_iff.mp H
               obtain ⟨t560, A410, H⟩ := H
               replace H : (if t560 = 1 then ((brooklaw7_sub.f kj21 (⟨#[]⟩ : ByteArray) y549 (([(⟨#[]⟩ : ByteArray), (((⟨#[121]⟩ : ByteArray) ++ t544) ++ (⟨#[50]⟩ : ByteArray)), (⟨#[]⟩ : ByteArray)] : List ByteArray))).bind fun t564 => (if t564 = 1 then ((brooklaw7_sub.f kj21 (⟨#[]⟩ : ByteArray) y549 (([x9_21, (((⟨#[121]⟩ : ByteArray) ++ t544) ++ (⟨#[50]⟩ : ByteArray)), x11_21] : List ByteArray))).bind fun t568 => (if t568 = 1 then ((brooklaw7_sub.f kj21 (⟨#[]⟩ : ByteArray) y549 (([(⟨#[]⟩ : ByteArray), x9_21, (((⟨#[121]⟩ : ByteArray) ++ t544) ++ (⟨#[50]⟩ : ByteArray)), x11_21, (⟨#[]⟩ : ByteArray)] : List ByteArray))).bind fun t572 => (if t572 = 1 then ((brooklaw7_sub.f kj21 (⟨#[]⟩ : ByteArray) y549 (([x9_21, x11_21, (((⟨#[121]⟩ : ByteArray) ++ t544) ++ (⟨#[50]⟩ : ByteArray)), (⟨#[]⟩ : ByteArray)] : List ByteArray))).bind fun t576 => (if t576 = 0 then (if x11_21.size + 1 ≤ 9223372036854775807 then ((brooklaw7_sub.f kj21 (⟨#[]⟩ : ByteArray) y549 (([(⟨#[]⟩ : ByteArray), (((⟨#[121]⟩ : ByteArray) ++ t544) ++ (⟨#[50]⟩ : ByteArray)), x11_21 ++ (⟨#[33]⟩ : ByteArray)] : List ByteArray))).bind fun t580 => (if t580 = 0 then (if x9_21.size + (((⟨#[121]⟩ : ByteArray) ++ t544) ++ (⟨#[50]⟩ : ByteArray)).size ≤ 9223372036854775807 then (if (((⟨#[121]⟩ : ByteArray) ++ t544) ++ (⟨#[50]⟩ : ByteArray)).size + x11_21.size ≤ 9223372036854775807 then ((brooklaw7_sub.f kj21 (⟨#[]⟩ : ByteArray) y549 (([x9_21 ++ (((⟨#[121]⟩ : ByteArray) ++ t544) ++ (⟨#[50]⟩ : ByteArray)), (((⟨#[121]⟩ : ByteArray) ++ t544) ++ (⟨#[50]⟩ : ByteArray)) ++ x11_21] : List ByteArray))).bind fun t584 => (if t584 = 0 then ((brooklaw7_awake.f kj21).bind fun t585 => (some t585)) else (some false))) else (none)) else (none)) else (some false))) else (none)) else (some false))) else (some false))) else (some false))) else (some false))) else (some false)) = some r := H
               have A41 := Aside0.mk A410
               clear A410
               by_cases c42 : t560 = 1
               ·rw [if_pos c42] at H
                have c42b0 : (t560 == 1) = true := beq_iff_eq.mpr c42
                have c42b1 : (t560 != 1) = false := bne_eq_false_iff_eq.mpr c42
                clear c42
                obtain ⟨y561, hy561⟩ : ∃ y_ : List ByteArray, y_ = (([(⟨#[]⟩ : ByteArray), (((⟨#[121]⟩ : ByteArray) ++ t544) ++ (⟨#[50]⟩ : ByteArray)), (⟨#[]⟩ : ByteArray)] : List ByteArray)) := ⟨_, rfl⟩
                replace H : ((brooklaw7_sub.f kj21 (⟨#[]⟩ : ByteArray) y549 y561).bind fun t564 => (if t564 = 1 then ((brooklaw7_sub.f kj21 (⟨#[]⟩ : ByteArray) y549 (([x9_21, (((⟨#[121]⟩ : ByteArray) ++ t544) ++ (⟨#[50]⟩ : ByteArray)), x11_21] : List ByteArray))).bind fun t568 => (if t568 = 1 then ((brooklaw7_sub.f kj21 (⟨#[]⟩ : ByteArray) y549 (([(⟨#[]⟩ : ByteArray), x9_21, (((⟨#[121]⟩ : ByteArray) ++ t544) ++ (⟨#[50]⟩ : ByteArray)), x11_21, (⟨#[]⟩ : ByteArray)] : List ByteArray))).bind fun t572 => (if t572 = 1 then ((brooklaw7_sub.f kj21 (⟨#[]⟩ : ByteArray) y549 (([x9_21, x11_21, (((⟨#[121]⟩ : ByteArray) ++ t544) ++ (⟨#[50]⟩ : ByteArray)), (⟨#[]⟩ : ByteArray)] : List ByteArray))).bind fun t576 => (if t576 = 0 then (if x11_21.size + 1 ≤ 9223372036854775807 then ((brooklaw7_sub.f kj21 (⟨#[]⟩ : ByteArray) y549 (([(⟨#[]⟩ : ByteArray), (((⟨#[121]⟩ : ByteArray) ++ t544) ++ (⟨#[50]⟩ : ByteArray)), x11_21 ++ (⟨#[33]⟩ : ByteArray)] : List ByteArray))).bind fun t580 => (if t580 = 0 then (if x9_21.size + (((⟨#[121]⟩ : ByteArray) ++ t544) ++ (⟨#[50]⟩ : ByteArray)).size ≤ 9223372036854775807 then (if (((⟨#[121]⟩ : ByteArray) ++ t544) ++ (⟨#[50]⟩ : ByteArray)).size + x11_21.size ≤ 9223372036854775807 then ((brooklaw7_sub.f kj21 (⟨#[]⟩ : ByteArray) y549 (([x9_21 ++ (((⟨#[121]⟩ : ByteArray) ++ t544) ++ (⟨#[50]⟩ : ByteArray)), (((⟨#[121]⟩ : ByteArray) ++ t544) ++ (⟨#[50]⟩ : ByteArray)) ++ x11_21] : List ByteArray))).bind fun t584 => (if t584 = 0 then ((brooklaw7_awake.f kj21).bind fun t585 => (some t585)) else (some false))) else (none)) else (none)) else (some false))) else (none)) else (some false))) else (some false))) else (some false))) else (some false))) = some r := by first | (rw [hy561]; with_reducible exact H) | (have H2_ := (Option.bind_some _ _).symm.trans H; rw [hy561]; with_reducible exact H2_) | (have H2_ := (Option.bind_some _ _).symm.trans H; with_reducible exact H2_) | with_reducible exact H | (rw [hy561]; exact H) | exact H
                have Ny561 := Aside0.mk hy561
                clear hy561
                replace H := Option.bind_eq_some_iff.mp H
                obtain ⟨t564, A430, H⟩ := H
                replace H : (if t564 = 1 then ((brooklaw7_sub.f kj21 (⟨#[]⟩ : ByteArray) y549 (([x9_21, (((⟨#[121]⟩ : ByteArray) ++ t544) ++ (⟨#[50]⟩ : ByteArray)), x11_21] : List ByteArray))).bind fun t568 => (if t568 = 1 then ((brooklaw7_sub.f kj21 (⟨#[]⟩ : ByteArray) y549 (([(⟨#[]⟩ : ByteArray), x9_21, (((⟨#[121]⟩ : ByteArray) ++ t544) ++ (⟨#[50]⟩ : ByteArray)), x11_21, (⟨#[]⟩ : ByteArray)] : List ByteArray))).bind fun t572 => (if t572 = 1 then ((brooklaw7_sub.f kj21 (⟨#[]⟩ : ByteArray) y549 (([x9_21, x11_21, (((⟨#[121]⟩ : ByteArray) ++ t544) ++ (⟨#[50]⟩ : ByteArray)), (⟨#[]⟩ : ByteArray)] : List ByteArray))).bind fun t576 => (if t576 = 0 then (if x11_21.size + 1 ≤ 9223372036854775807 then ((brooklaw7_sub.f kj21 (⟨#[]⟩ : ByteArray) y549 (([(⟨#[]⟩ : ByteArray), (((⟨#[121]⟩ : ByteArray) ++ t544) ++ (⟨#[50]⟩ : ByteArray)), x11_21 ++ (⟨#[33]⟩ : ByteArray)] : List ByteArray))).bind fun t580 => (if t580 = 0 then (if x9_21.size + (((⟨#[121]⟩ : ByteArray) ++ t544) ++ (⟨#[50]⟩ : ByteArray)).size ≤ 9223372036854775807 then (if (((⟨#[121]⟩ : ByteArray) ++ t544) ++ (⟨#[50]⟩ : ByteArray)).size + x11_21.size ≤ 9223372036854775807 then ((brooklaw7_sub.f kj21 (⟨#[]⟩ : ByteArray) y549 (([x9_21 ++ (((⟨#[121]⟩ : ByteArray) ++ t544) ++ (⟨#[50]⟩ : ByteArray)), (((⟨#[121]⟩ : ByteArray) ++ t544) ++ (⟨#[50]⟩ : ByteArray)) ++ x11_21] : List ByteArray))).bind fun t584 => (if t584 = 0 then ((brooklaw7_awake.f kj21).bind fun t585 => (some t585)) else (some false))) else (none)) else (none)) else (some false))) else (none)) else (some false))) else (some false))) else (some false))) else (some false)) = some r := H
                have A43 := Aside0.mk A430
                clear A430
                by_cases c44 : t564 = 1
                ·rw [if_pos c44] at H
                 have c44b0 : (t564 == 1) = true := beq_iff_eq.mpr c44
                 have c44b1 : (t564 != 1) = false := bne_eq_false_iff_eq.mpr c44
                 clear c44
                 obtain ⟨y565, hy565⟩ : ∃ y_ : List ByteArray, y_ = (([x9_21, (((⟨#[121]⟩ : ByteArray) ++ t544) ++ (⟨#[50]⟩ : ByteArray)), x11_21] : List ByteArray)) := ⟨_, rfl⟩
                 replace H : ((brooklaw7_sub.f kj21 (⟨#[]⟩ : ByteArray) y549 y565).bind fun t568 => (if t568 = 1 then ((brooklaw7_sub.f kj21 (⟨#[]⟩ : ByteArray) y549 (([(⟨#[]⟩ : ByteArray), x9_21, (((⟨#[121]⟩ : ByteArray) ++ t544) ++ (⟨#[50]⟩ : ByteArray)), x11_21, (⟨#[]⟩ : ByteArray)] : List ByteArray))).bind fun t572 => (if t572 = 1 then ((brooklaw7_sub.f kj21 (⟨#[]⟩ : ByteArray) y549 (([x9_21, x11_21, (((⟨#[121]⟩ : ByteArray) ++ t544) ++ (⟨#[50]⟩ : ByteArray)), (⟨#[]⟩ : ByteArray)] : List ByteArray))).bind fun t576 => (if t576 = 0 then (if x11_21.size + 1 ≤ 9223372036854775807 then ((brooklaw7_sub.f kj21 (⟨#[]⟩ : ByteArray) y549 (([(⟨#[]⟩ : ByteArray), (((⟨#[121]⟩ : ByteArray) ++ t544) ++ (⟨#[50]⟩ : ByteArray)), x11_21 ++ (⟨#[33]⟩ : ByteArray)] : List ByteArray))).bind fun t580 => (if t580 = 0 then (if x9_21.size + (((⟨#[121]⟩ : ByteArray) ++ t544) ++ (⟨#[50]⟩ : ByteArray)).size ≤ 9223372036854775807 then (if (((⟨#[121]⟩ : ByteArray) ++ t544) ++ (⟨#[50]⟩ : ByteArray)).size + x11_21.size ≤ 9223372036854775807 then ((brooklaw7_sub.f kj21 (⟨#[]⟩ : ByteArray) y549 (([x9_21 ++ (((⟨#[121]⟩ : ByteArray) ++ t544) ++ (⟨#[50]⟩ : ByteArray)), (((⟨#[121]⟩ : ByteArray) ++ t544) ++ (⟨#[50]⟩ : ByteArray)) ++ x11_21] : List ByteArray))).bind fun t584 => (if t584 = 0 then ((brooklaw7_awake.f kj21).bind fun t585 => (some t585)) else (some false))) else (none)) else (none)) else (some false))) else (none)) else (some false))) else (some false))) else (some false))) = some r := by first | (rw [hy565]; with_reducible exact H) | (have H2_ := (Option.bind_some _ _).symm.trans H; rw [hy565]; with_reducible exact H2_) | (have H2_ := (Option.bind_some _ _).symm.trans H; with_reducible exact H2_) | with_reducible exact H | (rw [hy565]; exact H) | exact H
                 have Ny565 := Aside0.mk hy565
                 clear hy565
                 replace H := Option.bind_eq_some_iff.mp H
                 obtain ⟨t568, A450, H⟩ := H
                 replace H : (if t568 = 1 then ((brooklaw7_sub.f kj21 (⟨#[]⟩ : ByteArray) y549 (([(⟨#[]⟩ : ByteArray), x9_21, (((⟨#[121]⟩ : ByteArray) ++ t544) ++ (⟨#[50]⟩ : ByteArray)), x11_21, (⟨#[]⟩ : ByteArray)] : List ByteArray))).bind fun t572 => (if t572 = 1 then ((brooklaw7_sub.f kj21 (⟨#[]⟩ : ByteArray) y549 (([x9_21, x11_21, (((⟨#[121]⟩ : ByteArray) ++ t544) ++ (⟨#[50]⟩ : ByteArray)), (⟨#[]⟩ : ByteArray)] : List ByteArray))).bind fun t576 => (if t576 = 0 then (if x11_21.size + 1 ≤ 9223372036854775807 then ((brooklaw7_sub.f kj21 (⟨#[]⟩ : ByteArray) y549 (([(⟨#[]⟩ : ByteArray), (((⟨#[121]⟩ : ByteArray) ++ t544) ++ (⟨#[50]⟩ : ByteArray)), x11_21 ++ (⟨#[33]⟩ : ByteArray)] : List ByteArray))).bind fun t580 => (if t580 = 0 then (if x9_21.size + (((⟨#[121]⟩ : ByteArray) ++ t544) ++ (⟨#[50]⟩ : ByteArray)).size ≤ 9223372036854775807 then (if (((⟨#[121]⟩ : ByteArray) ++ t544) ++ (⟨#[50]⟩ : ByteArray)).size + x11_21.size ≤ 9223372036854775807 then ((brooklaw7_sub.f kj21 (⟨#[]⟩ : ByteArray) y549 (([x9_21 ++ (((⟨#[121]⟩ : ByteArray) ++ t544) ++ (⟨#[50]⟩ : ByteArray)), (((⟨#[121]⟩ : ByteArray) ++ t544) ++ (⟨#[50]⟩ : ByteArray)) ++ x11_21] : List ByteArray))).bind fun t584 => (if t584 = 0 then ((brooklaw7_awake.f kj21).bind fun t585 => (some t585)) else (some false))) else (none)) else (none)) else (some false))) else (none)) else (some false))) else (some false))) else (some false)) = some r := H
                 have A45 := Aside0.mk A450
                 clear A450
                 by_cases c46 : t568 = 1
                 ·rw [if_pos c46] at H
                  have c46b0 : (t568 == 1) = true := beq_iff_eq.mpr c46
                  have c46b1 : (t568 != 1) = false := bne_eq_false_iff_eq.mpr c46
                  clear c46
                  obtain ⟨y569, hy569⟩ : ∃ y_ : List ByteArray, y_ = (([(⟨#[]⟩ : ByteArray), x9_21, (((⟨#[121]⟩ : ByteArray) ++ t544) ++ (⟨#[50]⟩ : ByteArray)), x11_21, (⟨#[]⟩ : ByteArray)] : List ByteArray)) := ⟨_, rfl⟩
                  replace H : ((brooklaw7_sub.f kj21 (⟨#[]⟩ : ByteArray) y549 y569).bind fun t572 => (if t572 = 1 then ((brooklaw7_sub.f kj21 (⟨#[]⟩ : ByteArray) y549 (([x9_21, x11_21, (((⟨#[121]⟩ : ByteArray) ++ t544) ++ (⟨#[50]⟩ : ByteArray)), (⟨#[]⟩ : ByteArray)] : List ByteArray))).bind fun t576 => (if t576 = 0 then (if x11_21.size + 1 ≤ 9223372036854775807 then ((brooklaw7_sub.f kj21 (⟨#[]⟩ : ByteArray) y549 (([(⟨#[]⟩ : ByteArray), (((⟨#[121]⟩ : ByteArray) ++ t544) ++ (⟨#[50]⟩ : ByteArray)), x11_21 ++ (⟨#[33]⟩ : ByteArray)] : List ByteArray))).bind fun t580 => (if t580 = 0 then (if x9_21.size + (((⟨#[121]⟩ : ByteArray) ++ t544) ++ (⟨#[50]⟩ : ByteArray)).size ≤ 9223372036854775807 then (if (((⟨#[121]⟩ : ByteArray) ++ t544) ++ (⟨#[50]⟩ : ByteArray)).size + x11_21.size ≤ 9223372036854775807 then ((brooklaw7_sub.f kj21 (⟨#[]⟩ : ByteArray) y549 (([x9_21 ++ (((⟨#[121]⟩ : ByteArray) ++ t544) ++ (⟨#[50]⟩ : ByteArray)), (((⟨#[121]⟩ : ByteArray) ++ t544) ++ (⟨#[50]⟩ : ByteArray)) ++ x11_21] : List ByteArray))).bind fun t584 => (if t584 = 0 then ((brooklaw7_awake.f kj21).bind fun t585 => (some t585)) else (some false))) else (none)) else (none)) else (some false))) else (none)) else (some false))) else (some false))) = some r := by first | (rw [hy569]; with_reducible exact H) | (have H2_ := (Option.bind_some _ _).symm.trans H; rw [hy569]; with_reducible exact H2_) | (have H2_ := (Option.bind_some _ _).symm.trans H; with_reducible exact H2_) | with_reducible exact H | (rw [hy569]; exact H) | exact H
                  have Ny569 := Aside0.mk hy569
                  clear hy569
                  replace H := Option.bind_eq_some_iff.mp H
                  obtain ⟨t572, A470, H⟩ := H
                  replace H : (if t572 = 1 then ((brooklaw7_sub.f kj21 (⟨#[]⟩ : ByteArray) y549 (([x9_21, x11_21, (((⟨#[121]⟩ : ByteArray) ++ t544) ++ (⟨#[50]⟩ : ByteArray)), (⟨#[]⟩ : ByteArray)] : List ByteArray))).bind fun t576 => (if t576 = 0 then (if x11_21.size + 1 ≤ 9223372036854775807 then ((brooklaw7_sub.f kj21 (⟨#[]⟩ : ByteArray) y549 (([(⟨#[]⟩ : ByteArray), (((⟨#[121]⟩ : ByteArray) ++ t544) ++ (⟨#[50]⟩ : ByteArray)), x11_21 ++ (⟨#[33]⟩ : ByteArray)] : List ByteArray))).bind fun t580 => (if t580 = 0 then (if x9_21.size + (((⟨#[121]⟩ : ByteArray) ++ t544) ++ (⟨#[50]⟩ : ByteArray)).size ≤ 9223372036854775807 then (if (((⟨#[121]⟩ : ByteArray) ++ t544) ++ (⟨#[50]⟩ : ByteArray)).size + x11_21.size ≤ 9223372036854775807 then ((brooklaw7_sub.f kj21 (⟨#[]⟩ : ByteArray) y549 (([x9_21 ++ (((⟨#[121]⟩ : ByteArray) ++ t544) ++ (⟨#[50]⟩ : ByteArray)), (((⟨#[121]⟩ : ByteArray) ++ t544) ++ (⟨#[50]⟩ : ByteArray)) ++ x11_21] : List ByteArray))).bind fun t584 => (if t584 = 0 then ((brooklaw7_awake.f kj21).bind fun t585 => (some t585)) else (some false))) else (none)) else (none)) else (some false))) else (none)) else (some false))) else (some false)) = some r := H
                  have A47 := Aside0.mk A470
                  clear A470
                  by_cases c48 : t572 = 1
                  ·rw [if_pos c48] at H
                   have c48b0 : (t572 == 1) = true := beq_iff_eq.mpr c48
                   have c48b1 : (t572 != 1) = false := bne_eq_false_iff_eq.mpr c48
                   clear c48
                   obtain ⟨y573, hy573⟩ : ∃ y_ : List ByteArray, y_ = (([x9_21, x11_21, (((⟨#[121]⟩ : ByteArray) ++ t544) ++ (⟨#[50]⟩ : ByteArray)), (⟨#[]⟩ : ByteArray)] : List ByteArray)) := ⟨_, rfl⟩
                   replace H : ((brooklaw7_sub.f kj21 (⟨#[]⟩ : ByteArray) y549 y573).bind fun t576 => (if t576 = 0 then (if x11_21.size + 1 ≤ 9223372036854775807 then ((brooklaw7_sub.f kj21 (⟨#[]⟩ : ByteArray) y549 (([(⟨#[]⟩ : ByteArray), (((⟨#[121]⟩ : ByteArray) ++ t544) ++ (⟨#[50]⟩ : ByteArray)), x11_21 ++ (⟨#[33]⟩ : ByteArray)] : List ByteArray))).bind fun t580 => (if t580 = 0 then (if x9_21.size + (((⟨#[121]⟩ : ByteArray) ++ t544) ++ (⟨#[50]⟩ : ByteArray)).size ≤ 9223372036854775807 then (if (((⟨#[121]⟩ : ByteArray) ++ t544) ++ (⟨#[50]⟩ : ByteArray)).size + x11_21.size ≤ 9223372036854775807 then ((brooklaw7_sub.f kj21 (⟨#[]⟩ : ByteArray) y549 (([x9_21 ++ (((⟨#[121]⟩ : ByteArray) ++ t544) ++ (⟨#[50]⟩ : ByteArray)), (((⟨#[121]⟩ : ByteArray) ++ t544) ++ (⟨#[50]⟩ : ByteArray)) ++ x11_21] : List ByteArray))).bind fun t584 => (if t584 = 0 then ((brooklaw7_awake.f kj21).bind fun t585 => (some t585)) else (some false))) else (none)) else (none)) else (some false))) else (none)) else (some false))) = some r := by first | (rw [hy573]; with_reducible exact H) | (have H2_ := (Option.bind_some _ _).symm.trans H; rw [hy573]; with_reducible exact H2_) | (have H2_ := (Option.bind_some _ _).symm.trans H; with_reducible exact H2_) | with_reducible exact H | (rw [hy573]; exact H) | exact H
                   have Ny573 := Aside0.mk hy573
                   clear hy573
                   replace H := Option.bind_eq_some_iff.mp H
                   obtain ⟨t576, A490, H⟩ := H
                   replace H : (if t576 = 0 then (if x11_21.size + 1 ≤ 9223372036854775807 then ((brooklaw7_sub.f kj21 (⟨#[]⟩ : ByteArray) y549 (([(⟨#[]⟩ : ByteArray), (((⟨#[121]⟩ : ByteArray) ++ t544) ++ (⟨#[50]⟩ : ByteArray)), x11_21 ++ (⟨#[33]⟩ : ByteArray)] : List ByteArray))).bind fun t580 => (if t580 = 0 then (if x9_21.size + (((⟨#[121]⟩ : ByteArray) ++ t544) ++ (⟨#[50]⟩ : ByteArray)).size ≤ 9223372036854775807 then (if (((⟨#[121]⟩ : ByteArray) ++ t544) ++ (⟨#[50]⟩ : ByteArray)).size + x11_21.size ≤ 9223372036854775807 then ((brooklaw7_sub.f kj21 (⟨#[]⟩ : ByteArray) y549 (([x9_21 ++ (((⟨#[121]⟩ : ByteArray) ++ t544) ++ (⟨#[50]⟩ : ByteArray)), (((⟨#[121]⟩ : ByteArray) ++ t544) ++ (⟨#[50]⟩ : ByteArray)) ++ x11_21] : List ByteArray))).bind fun t584 => (if t584 = 0 then ((brooklaw7_awake.f kj21).bind fun t585 => (some t585)) else (some false))) else (none)) else (none)) else (some false))) else (none)) else (some false)) = some r := H
                   have A49 := Aside0.mk A490
                   clear A490
                   by_cases c50 : t576 = 0
                   ·rw [if_pos c50] at H
                    have c50b0 : (t576 == 0) = true := beq_iff_eq.mpr c50
                    have c50b1 : (t576 != 0) = false := bne_eq_false_iff_eq.mpr c50
                    clear c50
                    by_cases c51 : x11_21.size + 1 ≤ 9223372036854775807
                    ·rw [if_pos c51] at H
                     have c51b0 := eq_true c51
                     have c51b1 : decide (x11_21.size + 1 ≤ 9223372036854775807) = true := decide_eq_true c51
                     try have c51b2 : (9223372036854775807 < x11_21.size + 1) = False := eq_false (Nat.not_lt.2 c51)
                     obtain ⟨y577, hy577⟩ : ∃ y_ : List ByteArray, y_ = (([(⟨#[]⟩ : ByteArray), (((⟨#[121]⟩ : ByteArray) ++ t544) ++ (⟨#[50]⟩ : ByteArray)), x11_21 ++ (⟨#[33]⟩ : ByteArray)] : List ByteArray)) := ⟨_, rfl⟩
                     replace H : ((brooklaw7_sub.f kj21 (⟨#[]⟩ : ByteArray) y549 y577).bind fun t580 => (if t580 = 0 then (if x9_21.size + (((⟨#[121]⟩ : ByteArray) ++ t544) ++ (⟨#[50]⟩ : ByteArray)).size ≤ 9223372036854775807 then (if (((⟨#[121]⟩ : ByteArray) ++ t544) ++ (⟨#[50]⟩ : ByteArray)).size + x11_21.size ≤ 9223372036854775807 then ((brooklaw7_sub.f kj21 (⟨#[]⟩ : ByteArray) y549 (([x9_21 ++ (((⟨#[121]⟩ : ByteArray) ++ t544) ++ (⟨#[50]⟩ : ByteArray)), (((⟨#[121]⟩ : ByteArray) ++ t544) ++ (⟨#[50]⟩ : ByteArray)) ++ x11_21] : List ByteArray))).bind fun t584 => (if t584 = 0 then ((brooklaw7_awake.f kj21).bind fun t585 => (some t585)) else (some false))) else (none)) else (none)) else (some false))) = some r := by first | (rw [hy577]; with_reducible exact H) | (have H2_ := (Option.bind_some _ _).symm.trans H; rw [hy577]; with_reducible exact H2_) | (have H2_ := (Option.bind_some _ _).symm.trans H; with_reducible exact H2_) | with_reducible exact H | (rw [hy577]; exact H) | exact H
                     have Ny577 := Aside0.mk hy577
                     clear hy577
                     replace H := Option.bind_eq_some_iff.mp H
                     obtain ⟨t580, A520, H⟩ := H
                     replace H : (if t580 = 0 then (if x9_21.size + (((⟨#[121]⟩ : ByteArray) ++ t544) ++ (⟨#[50]⟩ : ByteArray)).size ≤ 9223372036854775807 then (if (((⟨#[121]⟩ : ByteArray) ++ t544) ++ (⟨#[50]⟩ : ByteArray)).size + x11_21.size ≤ 9223372036854775807 then ((brooklaw7_sub.f kj21 (⟨#[]⟩ : ByteArray) y549 (([x9_21 ++ (((⟨#[121]⟩ : ByteArray) ++ t544) ++ (⟨#[50]⟩ : ByteArray)), (((⟨#[121]⟩ : ByteArray) ++ t544) ++ (⟨#[50]⟩ : ByteArray)) ++ x11_21] : List ByteArray))).bind fun t584 => (if t584 = 0 then ((brooklaw7_awake.f kj21).bind fun t585 => (some t585)) else (some false))) else (none)) else (none)) else (some false)) = some r := H
                     have A52 := Aside0.mk A520
                     clear A520
                     by_cases c53 : t580 = 0
                     ·rw [if_pos c53] at H
                      have c53b0 : (t580 == 0) = true := beq_iff_eq.mpr c53
                      have c53b1 : (t580 != 0) = false := bne_eq_false_iff_eq.mpr c53
                      clear c53
                      by_cases c54 : x9_21.size + (((⟨#[121]⟩ : ByteArray) ++ t544) ++ (⟨#[50]⟩ : ByteArray)).size ≤ 9223372036854775807
                      ·rw [if_pos c54] at H
                       have c54b0 := eq_true c54
                       have c54b1 : decide (x9_21.size + (((⟨#[121]⟩ : ByteArray) ++ t544) ++ (⟨#[50]⟩ : ByteArray)).size ≤ 9223372036854775807) = true := decide_eq_true c54
                       try have c54b2 : (9223372036854775807 < x9_21.size + (((⟨#[121]⟩ : ByteArray) ++ t544) ++ (⟨#[50]⟩ : ByteArray)).size) = False := eq_false (Nat.not_lt.2 c54)
                       try (have c54b3 := c54b2; simp only [ByteArray.size_append, show ∀ a : UInt8, (⟨#[a]⟩ : ByteArray).size = 1 from fun _ => rfl, show ∀ a b : UInt8, (⟨#[a, b]⟩ : ByteArray).size = 2 from fun _ _ => rfl] at c54b3)
                       by_cases c55 : (((⟨#[121]⟩ : ByteArray) ++ t544) ++ (⟨#[50]⟩ : ByteArray)).size + x11_21.size ≤ 9223372036854775807
                       ·rw [if_pos c55] at H
                        have c55b0 := eq_true c55
                        have c55b1 : decide ((((⟨#[121]⟩ : ByteArray) ++ t544) ++ (⟨#[50]⟩ : ByteArray)).size + x11_21.size ≤ 9223372036854775807) = true := decide_eq_true c55
                        try have c55b2 : (9223372036854775807 < (((⟨#[121]⟩ : ByteArray) ++ t544) ++ (⟨#[50]⟩ : ByteArray)).size + x11_21.size) = False := eq_false (Nat.not_lt.2 c55)
                        try (have c55b3 := c55b2; simp only [ByteArray.size_append, show ∀ a : UInt8, (⟨#[a]⟩ : ByteArray).size = 1 from fun _ => rfl, show ∀ a b : UInt8, (⟨#[a, b]⟩ : ByteArray).size = 2 from fun _ _ => rfl] at c55b3)
                        obtain ⟨y581, hy581⟩ : ∃ y_ : List ByteArray, y_ = (([x9_21 ++ (((⟨#[121]⟩ : ByteArray) ++ t544) ++ (⟨#[50]⟩ : ByteArray)), (((⟨#[121]⟩ : ByteArray) ++ t544) ++ (⟨#[50]⟩ : ByteArray)) ++ x11_21] : List ByteArray)) := ⟨_, rfl⟩
                        replace H : ((brooklaw7_sub.f kj21 (⟨#[]⟩ : ByteArray) y549 y581).bind fun t584 => (if t584 = 0 then ((brooklaw7_awake.f kj21).bind fun t585 => (some t585)) else (some false))) = some r := by first | (rw [hy581]; with_reducible exact H) | (have H2_ := (Option.bind_some _ _).symm.trans H; rw [hy581]; with_reducible exact H2_) | (have H2_ := (Option.bind_some _ _).symm.trans H; with_reducible exact H2_) | with_reducible exact H | (rw [hy581]; exact H) | exact H
                        have Ny581 := Aside0.mk hy581
                        clear hy581
                        replace H := Option.bind_eq_some_iff.mp H
                        obtain ⟨t584, A560, H⟩ := H
                        replace H : (if t584 = 0 then ((brooklaw7_awake.f kj21).bind fun t585 => (some t585)) else (some false)) = some r := H
                        have A56 := Aside0.mk A560
                        clear A560
                        by_cases c57 : t584 = 0
                        ·rw [if_pos c57] at H
                         have c57b0 : (t584 == 0) = true := beq_iff_eq.mpr c57
                         have c57b1 : (t584 != 0) = false := bne_eq_false_iff_eq.mpr c57
                         clear c57
                         replace H := Option.bind_eq_some_iff.mp H
                         obtain ⟨t585, A580, H⟩ := H
                         replace H : (some t585) = some r := H
                         have A58 := Aside0.mk A580
                         clear A580
                         obtain rfl := Option.some.inj H
                         have hcz59_0 : wc.cell? ⟨gb552, 0, none⟩ = some (.string (⟨#[]⟩ : ByteArray)) := (blk_cell BK552.out 0).trans rfl
                         have hcz59_1 : wc.cell? ⟨gb552, 1, none⟩ = some (.slice Ao31 y549.length co31) := (blk_cell BK552.out 1).trans rfl
                         have hfz59_0 := blk_frozen BK552.out 0
                         have hfz59_1 := blk_frozen BK552.out 1
                         go_upto_region 8 with (fail)
                         simp only [List.append_eq, List.cons_append, List.nil_append]
                         go_wp2_with (first | ((with_reducible refine gate_dst (N := 57) rfl ?_); (try (refine gate_guard (by rfl) ?_; dsimp only)); refine Kd.R_lit Kd.string _ 9 ?hg (N := 57) ?hd (xs := ([x9_21, (⟨#[]⟩ : ByteArray)] : List ByteArray)) (inner := [.string x9_21, .string (⟨#[]⟩ : ByteArray)]) (ok := fun _ => True) (okp := fun _ => True) ?hr ?hp (fun _ hk => hk) trivial (Below.refl _ _) (Nat.le_refl _) (by simp) ?_; (case hd => rfl); (case hg => rfl); (case hr => first | (go_simp; done) | (go_simp; rfl)); (case hp => exact (Reps.one (show Kd.M Kd.string _ _ _ x9_21 [.string x9_21] from rfl) (Reps.one (show Kd.M Kd.string _ _ _ (⟨#[]⟩ : ByteArray) [.string (⟨#[]⟩ : ByteArray)] from rfl) (Reps.none _ _)))); intro v554 w60 ho61 hb hg_ hnew_; clear hg_ hnew_; (first | rw [← Ny553.out] at ho61 | (simp only [Int.reduceToNat] at ho61; rw [← Ny553.out] at ho61)); have n0_ := Aside0.mk (Kd.N_elder' (by (with_reducible repeat (first | apply Kd.N_alloc | apply Kd.N_drewN | apply Kd.N_drew)); exact HO_553001.out) (Kd.R_base ho61) hb); have n1_ := Aside0.mk (Kd.R_lower ho61 (below_size (by repeat (first | (with_reducible first | exact HB.out | apply below_alloc | apply pw_below_drewN | apply below_drew1 | refine below_set ?_ GE552.out) | exact HB.out)))); have n2_ := Aside0.mk (blk_below (g := gb552) (o := .cells #[.string (⟨#[]⟩ : ByteArray), .slice Ao31 y549.length co31] 28 (0, 0)) (by (with_reducible repeat (first | refine blk_drewN ?_ _ | refine blk_drew ?_ | refine blk_alloc ?_ _)); exact BK552.out) hb); have n3_ := Aside0.mk (below_step (by repeat (first | (with_reducible first | exact HB.out | apply below_alloc | apply pw_below_drewN | apply below_drew1 | refine below_set ?_ GE552.out) | exact HB.out)) hb); clear HO_553001; clear BK552; clear HB; have HO_553001 := n0_; have HO555 := n1_; have BK552 := n2_; have HB := n3_; clear n0_ n1_ n2_ n3_; clear hb ho61; obtain ⟨Ao62, co62, eo62⟩ := Kd.R_slice HO555.out; subst eo62) | ((with_reducible refine gate_callee (f := 22) rfl ?_); refine goesL_ (some 58) rfl rfl Tryz.func22 (by kernel_rfl) rfl #[.agg #[.string (⟨#[]⟩ : ByteArray), .slice Ao31 y549.length co31], .slice Ao62 y553.length co62] rfl (by (try simp only [List.map_toArray, List.map_cons, List.map_nil]); first | done | rfl | (simp only [List.length_drop, List.length_take]; rfl)) ?_; (with_reducible refine (brooklaw7_sub.calls kj21 (⟨#[]⟩ : ByteArray) _ _ y549 _ _ y553 t556 _ ?side1 ?side2 ?side3 ?side4 ?side5 A39.out).mono ?_); (case side1 => repeat (first | exact (Kd.N_reads' HO_553001.out).2.2 | (with_reducible refine Kd.C_alloc ?_ _) | (with_reducible refine Kd.C_drewN ?_ _) | (with_reducible refine Kd.C_drew ?_))); (case side2 => exact (Kd.N_reads' HO_553001.out).2.1); (case side3 => repeat (first | exact (Kd.R_reads' HO555.out).2.2 | (with_reducible refine Kd.C_alloc ?_ _) | (with_reducible refine Kd.C_drewN ?_ _) | (with_reducible refine Kd.C_drew ?_))); (case side4 => exact (Kd.R_reads' HO555.out).2.1); (case side5 => first | exact HG.out | exact Gl.drewN HG.out _ | exact Gl.below HG.out (by repeat (first | (with_reducible first | exact HB.out | apply below_alloc | apply pw_below_drewN | apply below_drew1 | refine below_set ?_ GE552.out) | exact HB.out))); rintro e w63 ⟨rfl, hb⟩; refine ⟨_, rfl, ?_⟩; have n0_ := Aside0.mk (Kd.N_below (by (with_reducible repeat (first | apply Kd.N_alloc | apply Kd.N_drewN | apply Kd.N_drew)); exact HO_553001.out) hb); have n1_ := Aside0.mk (Kd.R_below (by (with_reducible repeat (first | apply Kd.R_alloc | apply Kd.R_drewN | apply Kd.R_drew)); exact HO555.out) hb); have n2_ := Aside0.mk (blk_below (g := gb552) (o := .cells #[.string (⟨#[]⟩ : ByteArray), .slice Ao31 y549.length co31] 28 (0, 0)) (by (with_reducible repeat (first | refine blk_drewN ?_ _ | refine blk_drew ?_ | refine blk_alloc ?_ _)); exact BK552.out) hb); have n3_ := Aside0.mk (below_step (by repeat (first | (with_reducible first | exact HB.out | apply below_alloc | apply pw_below_drewN | apply below_drew1 | refine below_set ?_ GE552.out) | exact HB.out)) hb); clear HO_553001; clear HO555; clear BK552; clear HB; have HO_553001 := n0_; have HO555 := n1_; have BK552 := n2_; have HB := n3_; clear n0_ n1_ n2_ n3_; (try clear hb); (try clear hb2); (try clear hk); (try clear hi); have hcz64_0 : w63.cell? ⟨gb552, 0, none⟩ = some (.string (⟨#[]⟩ : ByteArray)) := (blk_cell BK552.out 0).trans rfl; have hcz64_1 : w63.cell? ⟨gb552, 1, none⟩ = some (.slice Ao31 y549.length co31) := (blk_cell BK552.out 1).trans rfl; have hfz64_0 := blk_frozen BK552.out 0; have hfz64_1 := blk_frozen BK552.out 1) | ((with_reducible refine gate_dst (N := 63) rfl ?_); (try (refine gate_guard (by rfl) ?_; dsimp only)); refine Kd.R_lit Kd.string _ 9 ?hg (N := 63) ?hd (xs := ([(⟨#[]⟩ : ByteArray), x11_21] : List ByteArray)) (inner := [.string (⟨#[]⟩ : ByteArray), .string x11_21]) (ok := fun _ => True) (okp := fun _ => True) ?hr ?hp (fun _ hk => hk) trivial (Below.refl _ _) (Nat.le_refl _) (by simp) ?_; (case hd => rfl); (case hg => rfl); (case hr => first | (go_simp; done) | (go_simp; rfl)); (case hp => exact (Reps.one (show Kd.M Kd.string _ _ _ (⟨#[]⟩ : ByteArray) [.string (⟨#[]⟩ : ByteArray)] from rfl) (Reps.one (show Kd.M Kd.string _ _ _ x11_21 [.string x11_21] from rfl) (Reps.none _ _)))); intro v558 w65 ho66 hb hg_ hnew_; clear hg_ hnew_; (first | rw [← Ny557.out] at ho66 | (simp only [Int.reduceToNat] at ho66; rw [← Ny557.out] at ho66)); have n0_ := Aside0.mk (Kd.N_elder' (by (with_reducible repeat (first | apply Kd.N_alloc | apply Kd.N_drewN | apply Kd.N_drew)); exact HO_553001.out) (Kd.R_base ho66) hb); have n1_ := Aside0.mk (Kd.R_elder' (by (with_reducible repeat (first | apply Kd.R_alloc | apply Kd.R_drewN | apply Kd.R_drew)); exact HO555.out) (Kd.R_base ho66) hb); have n2_ := Aside0.mk (Kd.R_lower (Kd.R_new' ho66 (Kd.R_lt (by (with_reducible repeat (first | apply Kd.R_alloc | apply Kd.R_drewN | apply Kd.R_drew)); exact HO555.out))) (below_size (by repeat (first | (with_reducible first | exact HB.out | apply below_alloc | apply pw_below_drewN | apply below_drew1 | refine below_set ?_ GE552.out) | exact HB.out)))); have n3_ := Aside0.mk (blk_below (g := gb552) (o := .cells #[.string (⟨#[]⟩ : ByteArray), .slice Ao31 y549.length co31] 28 (0, 0)) (by (with_reducible repeat (first | refine blk_drewN ?_ _ | refine blk_drew ?_ | refine blk_alloc ?_ _)); exact BK552.out) hb); have n4_ := Aside0.mk (below_step (by repeat (first | (with_reducible first | exact HB.out | apply below_alloc | apply pw_below_drewN | apply below_drew1 | refine below_set ?_ GE552.out) | exact HB.out)) hb); clear HO_553001; clear HO555; clear BK552; clear HB; have HO_553001 := n0_; have HO555 := n1_; have HO559 := n2_; have BK552 := n3_; have HB := n4_; clear n0_ n1_ n2_ n3_ n4_; clear hb ho66; obtain ⟨Ao67, co67, eo67⟩ := Kd.R_slice HO559.out; subst eo67) | (go_at_call 22; (with_reducible refine (brooklaw7_sub.calls kj21 (⟨#[]⟩ : ByteArray) _ _ y549 _ _ y557 t560 _ ?side1 ?side2 ?side3 ?side4 ?side5 A41.out).mono ?_); (case side1 => repeat (first | exact (Kd.N_reads' HO_553001.out).2.2 | (with_reducible refine Kd.C_alloc ?_ _) | (with_reducible refine Kd.C_drewN ?_ _) | (with_reducible refine Kd.C_drew ?_))); (case side2 => exact (Kd.N_reads' HO_553001.out).2.1); (case side3 => repeat (first | exact (Kd.R_reads' HO559.out).2.2 | (with_reducible refine Kd.C_alloc ?_ _) | (with_reducible refine Kd.C_drewN ?_ _) | (with_reducible refine Kd.C_drew ?_))); (case side4 => exact (Kd.R_reads' HO559.out).2.1); (case side5 => first | exact HG.out | exact Gl.drewN HG.out _ | exact Gl.below HG.out (by repeat (first | (with_reducible first | exact HB.out | apply below_alloc | apply pw_below_drewN | apply below_drew1 | refine below_set ?_ GE552.out) | exact HB.out))); rintro e w68 ⟨rfl, hb⟩; have n0_ := Aside0.mk (Kd.N_below (by (with_reducible repeat (first | apply Kd.N_alloc | apply Kd.N_drewN | apply Kd.N_drew)); exact HO_553001.out) hb); have n1_ := Aside0.mk (Kd.R_below (by (with_reducible repeat (first | apply Kd.R_alloc | apply Kd.R_drewN | apply Kd.R_drew)); exact HO555.out) hb); have n2_ := Aside0.mk (Kd.R_below (by (with_reducible repeat (first | apply Kd.R_alloc | apply Kd.R_drewN | apply Kd.R_drew)); exact HO559.out) hb); have n3_ := Aside0.mk (blk_below (g := gb552) (o := .cells #[.string (⟨#[]⟩ : ByteArray), .slice Ao31 y549.length co31] 28 (0, 0)) (by (with_reducible repeat (first | refine blk_drewN ?_ _ | refine blk_drew ?_ | refine blk_alloc ?_ _)); exact BK552.out) hb); have n4_ := Aside0.mk (below_step (by repeat (first | (with_reducible first | exact HB.out | apply below_alloc | apply pw_below_drewN | apply below_drew1 | refine below_set ?_ GE552.out) | exact HB.out)) hb); clear HO_553001; clear HO555; clear HO559; clear BK552; clear HB; have HO_553001 := n0_; have HO555 := n1_; have HO559 := n2_; have BK552 := n3_; have HB := n4_; clear n0_ n1_ n2_ n3_ n4_; (try clear hb); (try clear hb2); (try clear hk); (try clear hi); have hcz69_0 : w68.cell? ⟨gb552, 0, none⟩ = some (.string (⟨#[]⟩ : ByteArray)) := (blk_cell BK552.out 0).trans rfl; have hcz69_1 : w68.cell? ⟨gb552, 1, none⟩ = some (.slice Ao31 y549.length co31) := (blk_cell BK552.out 1).trans rfl; have hfz69_0 := blk_frozen BK552.out 0; have hfz69_1 := blk_frozen BK552.out 1) | ((with_reducible refine gate_dst (N := 70) rfl ?_); (try (refine gate_guard (by rfl) ?_; dsimp only)); refine Kd.R_lit Kd.string _ 9 ?hg (N := 70) ?hd (xs := ([(⟨#[]⟩ : ByteArray), (((⟨#[121]⟩ : ByteArray) ++ t544) ++ (⟨#[50]⟩ : ByteArray)), (⟨#[]⟩ : ByteArray)] : List ByteArray)) (inner := [.string (⟨#[]⟩ : ByteArray), .string (((⟨#[121]⟩ : ByteArray) ++ t544) ++ (⟨#[50]⟩ : ByteArray)), .string (⟨#[]⟩ : ByteArray)]) (ok := fun _ => True) (okp := fun _ => True) ?hr ?hp (fun _ hk => hk) trivial (Below.refl _ _) (Nat.le_refl _) (by simp) ?_; (case hd => rfl); (case hg => rfl); (case hr => first | (go_simp; done) | (go_simp; rfl)); (case hp => exact (Reps.one (show Kd.M Kd.string _ _ _ (⟨#[]⟩ : ByteArray) [.string (⟨#[]⟩ : ByteArray)] from rfl) (Reps.one (show Kd.M Kd.string _ _ _ (((⟨#[121]⟩ : ByteArray) ++ t544) ++ (⟨#[50]⟩ : ByteArray)) [.string (((⟨#[121]⟩ : ByteArray) ++ t544) ++ (⟨#[50]⟩ : ByteArray))] from rfl) (Reps.one (show Kd.M Kd.string _ _ _ (⟨#[]⟩ : ByteArray) [.string (⟨#[]⟩ : ByteArray)] from rfl) (Reps.none _ _))))); intro v562 w70 ho71 hb hg_ hnew_; clear hg_ hnew_; (first | rw [← Ny561.out] at ho71 | (simp only [Int.reduceToNat] at ho71; rw [← Ny561.out] at ho71)); have n0_ := Aside0.mk (Kd.N_elder' (by (with_reducible repeat (first | apply Kd.N_alloc | apply Kd.N_drewN | apply Kd.N_drew)); exact HO_553001.out) (Kd.R_base ho71) hb); have n1_ := Aside0.mk (Kd.R_elder' (by (with_reducible repeat (first | apply Kd.R_alloc | apply Kd.R_drewN | apply Kd.R_drew)); exact HO555.out) (Kd.R_base ho71) hb); have n2_ := Aside0.mk (Kd.R_elder' (by (with_reducible repeat (first | apply Kd.R_alloc | apply Kd.R_drewN | apply Kd.R_drew)); exact HO559.out) (Kd.R_base ho71) hb); have n3_ := Aside0.mk (Kd.R_lower (Kd.R_new' (Kd.R_new' ho71 (Kd.R_lt (by (with_reducible repeat (first | apply Kd.R_alloc | apply Kd.R_drewN | apply Kd.R_drew)); exact HO555.out))) (Kd.R_lt (by (with_reducible repeat (first | apply Kd.R_alloc | apply Kd.R_drewN | apply Kd.R_drew)); exact HO559.out))) (below_size (by repeat (first | (with_reducible first | exact HB.out | apply below_alloc | apply pw_below_drewN | apply below_drew1 | refine below_set ?_ GE552.out) | exact HB.out)))); have n4_ := Aside0.mk (blk_below (g := gb552) (o := .cells #[.string (⟨#[]⟩ : ByteArray), .slice Ao31 y549.length co31] 28 (0, 0)) (by (with_reducible repeat (first | refine blk_drewN ?_ _ | refine blk_drew ?_ | refine blk_alloc ?_ _)); exact BK552.out) hb); have n5_ := Aside0.mk (below_step (by repeat (first | (with_reducible first | exact HB.out | apply below_alloc | apply pw_below_drewN | apply below_drew1 | refine below_set ?_ GE552.out) | exact HB.out)) hb); clear HO_553001; clear HO555; clear HO559; clear BK552; clear HB; have HO_553001 := n0_; have HO555 := n1_; have HO559 := n2_; have HO563 := n3_; have BK552 := n4_; have HB := n5_; clear n0_ n1_ n2_ n3_ n4_ n5_; clear hb ho71; obtain ⟨Ao72, co72, eo72⟩ := Kd.R_slice HO563.out; subst eo72) | (go_at_call 22; (with_reducible refine (brooklaw7_sub.calls kj21 (⟨#[]⟩ : ByteArray) _ _ y549 _ _ y561 t564 _ ?side1 ?side2 ?side3 ?side4 ?side5 A43.out).mono ?_); (case side1 => repeat (first | exact (Kd.N_reads' HO_553001.out).2.2 | (with_reducible refine Kd.C_alloc ?_ _) | (with_reducible refine Kd.C_drewN ?_ _) | (with_reducible refine Kd.C_drew ?_))); (case side2 => exact (Kd.N_reads' HO_553001.out).2.1); (case side3 => repeat (first | exact (Kd.R_reads' HO563.out).2.2 | (with_reducible refine Kd.C_alloc ?_ _) | (with_reducible refine Kd.C_drewN ?_ _) | (with_reducible refine Kd.C_drew ?_))); (case side4 => exact (Kd.R_reads' HO563.out).2.1); (case side5 => first | exact HG.out | exact Gl.drewN HG.out _ | exact Gl.below HG.out (by repeat (first | (with_reducible first | exact HB.out | apply below_alloc | apply pw_below_drewN | apply below_drew1 | refine below_set ?_ GE552.out) | exact HB.out))); rintro e w73 ⟨rfl, hb⟩; have n0_ := Aside0.mk (Kd.N_below (by (with_reducible repeat (first | apply Kd.N_alloc | apply Kd.N_drewN | apply Kd.N_drew)); exact HO_553001.out) hb); have n1_ := Aside0.mk (Kd.R_below (by (with_reducible repeat (first | apply Kd.R_alloc | apply Kd.R_drewN | apply Kd.R_drew)); exact HO555.out) hb); have n2_ := Aside0.mk (Kd.R_below (by (with_reducible repeat (first | apply Kd.R_alloc | apply Kd.R_drewN | apply Kd.R_drew)); exact HO559.out) hb); have n3_ := Aside0.mk (Kd.R_below (by (with_reducible repeat (first | apply Kd.R_alloc | apply Kd.R_drewN | apply Kd.R_drew)); exact HO563.out) hb); have n4_ := Aside0.mk (blk_below (g := gb552) (o := .cells #[.string (⟨#[]⟩ : ByteArray), .slice Ao31 y549.length co31] 28 (0, 0)) (by (with_reducible repeat (first | refine blk_drewN ?_ _ | refine blk_drew ?_ | refine blk_alloc ?_ _)); exact BK552.out) hb); have n5_ := Aside0.mk (below_step (by repeat (first | (with_reducible first | exact HB.out | apply below_alloc | apply pw_below_drewN | apply below_drew1 | refine below_set ?_ GE552.out) | exact HB.out)) hb); clear HO_553001; clear HO555; clear HO559; clear HO563; clear BK552; clear HB; have HO_553001 := n0_; have HO555 := n1_; have HO559 := n2_; have HO563 := n3_; have BK552 := n4_; have HB := n5_; clear n0_ n1_ n2_ n3_ n4_ n5_; (try clear hb); (try clear hb2); (try clear hk); (try clear hi); have hcz74_0 : w73.cell? ⟨gb552, 0, none⟩ = some (.string (⟨#[]⟩ : ByteArray)) := (blk_cell BK552.out 0).trans rfl; have hcz74_1 : w73.cell? ⟨gb552, 1, none⟩ = some (.slice Ao31 y549.length co31) := (blk_cell BK552.out 1).trans rfl; have hfz74_0 := blk_frozen BK552.out 0; have hfz74_1 := blk_frozen BK552.out 1) | ((with_reducible refine gate_dst (N := 79) rfl ?_); (try (refine gate_guard (by rfl) ?_; dsimp only)); refine Kd.R_lit Kd.string _ 9 ?hg (N := 79) ?hd (xs := ([x9_21, (((⟨#[121]⟩ : ByteArray) ++ t544) ++ (⟨#[50]⟩ : ByteArray)), x11_21] : List ByteArray)) (inner := [.string x9_21, .string (((⟨#[121]⟩ : ByteArray) ++ t544) ++ (⟨#[50]⟩ : ByteArray)), .string x11_21]) (ok := fun _ => True) (okp := fun _ => True) ?hr ?hp (fun _ hk => hk) trivial (Below.refl _ _) (Nat.le_refl _) (by simp) ?_; (case hd => rfl); (case hg => rfl); (case hr => first | (go_simp; done) | (go_simp; rfl)); (case hp => exact (Reps.one (show Kd.M Kd.string _ _ _ x9_21 [.string x9_21] from rfl) (Reps.one (show Kd.M Kd.string _ _ _ (((⟨#[121]⟩ : ByteArray) ++ t544) ++ (⟨#[50]⟩ : ByteArray)) [.string (((⟨#[121]⟩ : ByteArray) ++ t544) ++ (⟨#[50]⟩ : ByteArray))] from rfl) (Reps.one (show Kd.M Kd.string _ _ _ x11_21 [.string x11_21] from rfl) (Reps.none _ _))))); intro v566 w75 ho76 hb hg_ hnew_; clear hg_ hnew_; (first | rw [← Ny565.out] at ho76 | (simp only [Int.reduceToNat] at ho76; rw [← Ny565.out] at ho76)); have n0_ := Aside0.mk (Kd.N_elder' (by (with_reducible repeat (first | apply Kd.N_alloc | apply Kd.N_drewN | apply Kd.N_drew)); exact HO_553001.out) (Kd.R_base ho76) hb); have n1_ := Aside0.mk (Kd.R_elder' (by (with_reducible repeat (first | apply Kd.R_alloc | apply Kd.R_drewN | apply Kd.R_drew)); exact HO555.out) (Kd.R_base ho76) hb); have n2_ := Aside0.mk (Kd.R_elder' (by (with_reducible repeat (first | apply Kd.R_alloc | apply Kd.R_drewN | apply Kd.R_drew)); exact HO559.out) (Kd.R_base ho76) hb); have n3_ := Aside0.mk (Kd.R_elder' (by (with_reducible repeat (first | apply Kd.R_alloc | apply Kd.R_drewN | apply Kd.R_drew)); exact HO563.out) (Kd.R_base ho76) hb); have n4_ := Aside0.mk (Kd.R_lower (Kd.R_new' (Kd.R_new' (Kd.R_new' ho76 (Kd.R_lt (by (with_reducible repeat (first | apply Kd.R_alloc | apply Kd.R_drewN | apply Kd.R_drew)); exact HO555.out))) (Kd.R_lt (by (with_reducible repeat (first | apply Kd.R_alloc | apply Kd.R_drewN | apply Kd.R_drew)); exact HO559.out))) (Kd.R_lt (by (with_reducible repeat (first | apply Kd.R_alloc | apply Kd.R_drewN | apply Kd.R_drew)); exact HO563.out))) (below_size (by repeat (first | (with_reducible first | exact HB.out | apply below_alloc | apply pw_below_drewN | apply below_drew1 | refine below_set ?_ GE552.out) | exact HB.out)))); have n5_ := Aside0.mk (blk_below (g := gb552) (o := .cells #[.string (⟨#[]⟩ : ByteArray), .slice Ao31 y549.length co31] 28 (0, 0)) (by (with_reducible repeat (first | refine blk_drewN ?_ _ | refine blk_drew ?_ | refine blk_alloc ?_ _)); exact BK552.out) hb); have n6_ := Aside0.mk (below_step (by repeat (first | (with_reducible first | exact HB.out | apply below_alloc | apply pw_below_drewN | apply below_drew1 | refine below_set ?_ GE552.out) | exact HB.out)) hb); clear HO_553001; clear HO555; clear HO559; clear HO563; clear BK552; clear HB; have HO_553001 := n0_; have HO555 := n1_; have HO559 := n2_; have HO563 := n3_; have HO567 := n4_; have BK552 := n5_; have HB := n6_; clear n0_ n1_ n2_ n3_ n4_ n5_ n6_; clear hb ho76; obtain ⟨Ao77, co77, eo77⟩ := Kd.R_slice HO567.out; subst eo77) | (go_at_call 22; (with_reducible refine (brooklaw7_sub.calls kj21 (⟨#[]⟩ : ByteArray) _ _ y549 _ _ y565 t568 _ ?side1 ?side2 ?side3 ?side4 ?side5 A45.out).mono ?_); (case side1 => repeat (first | exact (Kd.N_reads' HO_553001.out).2.2 | (with_reducible refine Kd.C_alloc ?_ _) | (with_reducible refine Kd.C_drewN ?_ _) | (with_reducible refine Kd.C_drew ?_))); (case side2 => exact (Kd.N_reads' HO_553001.out).2.1); (case side3 => repeat (first | exact (Kd.R_reads' HO567.out).2.2 | (with_reducible refine Kd.C_alloc ?_ _) | (with_reducible refine Kd.C_drewN ?_ _) | (with_reducible refine Kd.C_drew ?_))); (case side4 => exact (Kd.R_reads' HO567.out).2.1); (case side5 => first | exact HG.out | exact Gl.drewN HG.out _ | exact Gl.below HG.out (by repeat (first | (with_reducible first | exact HB.out | apply below_alloc | apply pw_below_drewN | apply below_drew1 | refine below_set ?_ GE552.out) | exact HB.out))); rintro e w78 ⟨rfl, hb⟩; have n0_ := Aside0.mk (Kd.N_below (by (with_reducible repeat (first | apply Kd.N_alloc | apply Kd.N_drewN | apply Kd.N_drew)); exact HO_553001.out) hb); have n1_ := Aside0.mk (Kd.R_below (by (with_reducible repeat (first | apply Kd.R_alloc | apply Kd.R_drewN | apply Kd.R_drew)); exact HO555.out) hb); have n2_ := Aside0.mk (Kd.R_below (by (with_reducible repeat (first | apply Kd.R_alloc | apply Kd.R_drewN | apply Kd.R_drew)); exact HO559.out) hb); have n3_ := Aside0.mk (Kd.R_below (by (with_reducible repeat (first | apply Kd.R_alloc | apply Kd.R_drewN | apply Kd.R_drew)); exact HO563.out) hb); have n4_ := Aside0.mk (Kd.R_below (by (with_reducible repeat (first | apply Kd.R_alloc | apply Kd.R_drewN | apply Kd.R_drew)); exact HO567.out) hb); have n5_ := Aside0.mk (blk_below (g := gb552) (o := .cells #[.string (⟨#[]⟩ : ByteArray), .slice Ao31 y549.length co31] 28 (0, 0)) (by (with_reducible repeat (first | refine blk_drewN ?_ _ | refine blk_drew ?_ | refine blk_alloc ?_ _)); exact BK552.out) hb); have n6_ := Aside0.mk (below_step (by repeat (first | (with_reducible first | exact HB.out | apply below_alloc | apply pw_below_drewN | apply below_drew1 | refine below_set ?_ GE552.out) | exact HB.out)) hb); clear HO_553001; clear HO555; clear HO559; clear HO563; clear HO567; clear BK552; clear HB; have HO_553001 := n0_; have HO555 := n1_; have HO559 := n2_; have HO563 := n3_; have HO567 := n4_; have BK552 := n5_; have HB := n6_; clear n0_ n1_ n2_ n3_ n4_ n5_ n6_; (try clear hb); (try clear hb2); (try clear hk); (try clear hi); have hcz79_0 : w78.cell? ⟨gb552, 0, none⟩ = some (.string (⟨#[]⟩ : ByteArray)) := (blk_cell BK552.out 0).trans rfl; have hcz79_1 : w78.cell? ⟨gb552, 1, none⟩ = some (.slice Ao31 y549.length co31) := (blk_cell BK552.out 1).trans rfl; have hfz79_0 := blk_frozen BK552.out 0; have hfz79_1 := blk_frozen BK552.out 1) | ((with_reducible refine gate_dst (N := 88) rfl ?_); (try (refine gate_guard (by rfl) ?_; dsimp only)); refine Kd.R_lit Kd.string _ 9 ?hg (N := 88) ?hd (xs := ([(⟨#[]⟩ : ByteArray), x9_21, (((⟨#[121]⟩ : ByteArray) ++ t544) ++ (⟨#[50]⟩ : ByteArray)), x11_21, (⟨#[]⟩ : ByteArray)] : List ByteArray)) (inner := [.string (⟨#[]⟩ : ByteArray), .string x9_21, .string (((⟨#[121]⟩ : ByteArray) ++ t544) ++ (⟨#[50]⟩ : ByteArray)), .string x11_21, .string (⟨#[]⟩ : ByteArray)]) (ok := fun _ => True) (okp := fun _ => True) ?hr ?hp (fun _ hk => hk) trivial (Below.refl _ _) (Nat.le_refl _) (by simp) ?_; (case hd => rfl); (case hg => rfl); (case hr => first | (go_simp; done) | (go_simp; rfl)); (case hp => exact (Reps.one (show Kd.M Kd.string _ _ _ (⟨#[]⟩ : ByteArray) [.string (⟨#[]⟩ : ByteArray)] from rfl) (Reps.one (show Kd.M Kd.string _ _ _ x9_21 [.string x9_21] from rfl) (Reps.one (show Kd.M Kd.string _ _ _ (((⟨#[121]⟩ : ByteArray) ++ t544) ++ (⟨#[50]⟩ : ByteArray)) [.string (((⟨#[121]⟩ : ByteArray) ++ t544) ++ (⟨#[50]⟩ : ByteArray))] from rfl) (Reps.one (show Kd.M Kd.string _ _ _ x11_21 [.string x11_21] from rfl) (Reps.one (show Kd.M Kd.string _ _ _ (⟨#[]⟩ : ByteArray) [.string (⟨#[]⟩ : ByteArray)] from rfl) (Reps.none _ _))))))); intro v570 w80 ho81 hb hg_ hnew_; clear hg_ hnew_; (first | rw [← Ny569.out] at ho81 | (simp only [Int.reduceToNat] at ho81; rw [← Ny569.out] at ho81)); have n0_ := Aside0.mk (Kd.N_elder' (by (with_reducible repeat (first | apply Kd.N_alloc | apply Kd.N_drewN | apply Kd.N_drew)); exact HO_553001.out) (Kd.R_base ho81) hb); have n1_ := Aside0.mk (Kd.R_elder' (by (with_reducible repeat (first | apply Kd.R_alloc | apply Kd.R_drewN | apply Kd.R_drew)); exact HO555.out) (Kd.R_base ho81) hb); have n2_ := Aside0.mk (Kd.R_elder' (by (with_reducible repeat (first | apply Kd.R_alloc | apply Kd.R_drewN | apply Kd.R_drew)); exact HO559.out) (Kd.R_base ho81) hb); have n3_ := Aside0.mk (Kd.R_elder' (by (with_reducible repeat (first | apply Kd.R_alloc | apply Kd.R_drewN | apply Kd.R_drew)); exact HO563.out) (Kd.R_base ho81) hb); have n4_ := Aside0.mk (Kd.R_elder' (by (with_reducible repeat (first | apply Kd.R_alloc | apply Kd.R_drewN | apply Kd.R_drew)); exact HO567.out) (Kd.R_base ho81) hb); have n5_ := Aside0.mk (Kd.R_lower (Kd.R_new' (Kd.R_new' (Kd.R_new' (Kd.R_new' ho81 (Kd.R_lt (by (with_reducible repeat (first | apply Kd.R_alloc | apply Kd.R_drewN | apply Kd.R_drew)); exact HO555.out))) (Kd.R_lt (by (with_reducible repeat (first | apply Kd.R_alloc | apply Kd.R_drewN | apply Kd.R_drew)); exact HO559.out))) (Kd.R_lt (by (with_reducible repeat (first | apply Kd.R_alloc | apply Kd.R_drewN | apply Kd.R_drew)); exact HO563.out))) (Kd.R_lt (by (with_reducible repeat (first | apply Kd.R_alloc | apply Kd.R_drewN | apply Kd.R_drew)); exact HO567.out))) (below_size (by repeat (first | (with_reducible first | exact HB.out | apply below_alloc | apply pw_below_drewN | apply below_drew1 | refine below_set ?_ GE552.out) | exact HB.out)))); have n6_ := Aside0.mk (blk_below (g := gb552) (o := .cells #[.string (⟨#[]⟩ : ByteArray), .slice Ao31 y549.length co31] 28 (0, 0)) (by (with_reducible repeat (first | refine blk_drewN ?_ _ | refine blk_drew ?_ | refine blk_alloc ?_ _)); exact BK552.out) hb); have n7_ := Aside0.mk (below_step (by repeat (first | (with_reducible first | exact HB.out | apply below_alloc | apply pw_below_drewN | apply below_drew1 | refine below_set ?_ GE552.out) | exact HB.out)) hb); clear HO_553001; clear HO555; clear HO559; clear HO563; clear HO567; clear BK552; clear HB; have HO_553001 := n0_; have HO555 := n1_; have HO559 := n2_; have HO563 := n3_; have HO567 := n4_; have HO571 := n5_; have BK552 := n6_; have HB := n7_; clear n0_ n1_ n2_ n3_ n4_ n5_ n6_ n7_; clear hb ho81; obtain ⟨Ao82, co82, eo82⟩ := Kd.R_slice HO571.out; subst eo82) | (go_at_call 22; (with_reducible refine (brooklaw7_sub.calls kj21 (⟨#[]⟩ : ByteArray) _ _ y549 _ _ y569 t572 _ ?side1 ?side2 ?side3 ?side4 ?side5 A47.out).mono ?_); (case side1 => repeat (first | exact (Kd.N_reads' HO_553001.out).2.2 | (with_reducible refine Kd.C_alloc ?_ _) | (with_reducible refine Kd.C_drewN ?_ _) | (with_reducible refine Kd.C_drew ?_))); (case side2 => exact (Kd.N_reads' HO_553001.out).2.1); (case side3 => repeat (first | exact (Kd.R_reads' HO571.out).2.2 | (with_reducible refine Kd.C_alloc ?_ _) | (with_reducible refine Kd.C_drewN ?_ _) | (with_reducible refine Kd.C_drew ?_))); (case side4 => exact (Kd.R_reads' HO571.out).2.1); (case side5 => first | exact HG.out | exact Gl.drewN HG.out _ | exact Gl.below HG.out (by repeat (first | (with_reducible first | exact HB.out | apply below_alloc | apply pw_below_drewN | apply below_drew1 | refine below_set ?_ GE552.out) | exact HB.out))); rintro e w83 ⟨rfl, hb⟩; have n0_ := Aside0.mk (Kd.N_below (by (with_reducible repeat (first | apply Kd.N_alloc | apply Kd.N_drewN | apply Kd.N_drew)); exact HO_553001.out) hb); have n1_ := Aside0.mk (Kd.R_below (by (with_reducible repeat (first | apply Kd.R_alloc | apply Kd.R_drewN | apply Kd.R_drew)); exact HO555.out) hb); have n2_ := Aside0.mk (Kd.R_below (by (with_reducible repeat (first | apply Kd.R_alloc | apply Kd.R_drewN | apply Kd.R_drew)); exact HO559.out) hb); have n3_ := Aside0.mk (Kd.R_below (by (with_reducible repeat (first | apply Kd.R_alloc | apply Kd.R_drewN | apply Kd.R_drew)); exact HO563.out) hb); have n4_ := Aside0.mk (Kd.R_below (by (with_reducible repeat (first | apply Kd.R_alloc | apply Kd.R_drewN | apply Kd.R_drew)); exact HO567.out) hb); have n5_ := Aside0.mk (Kd.R_below (by (with_reducible repeat (first | apply Kd.R_alloc | apply Kd.R_drewN | apply Kd.R_drew)); exact HO571.out) hb); have n6_ := Aside0.mk (blk_below (g := gb552) (o := .cells #[.string (⟨#[]⟩ : ByteArray), .slice Ao31 y549.length co31] 28 (0, 0)) (by (with_reducible repeat (first | refine blk_drewN ?_ _ | refine blk_drew ?_ | refine blk_alloc ?_ _)); exact BK552.out) hb); have n7_ := Aside0.mk (below_step (by repeat (first | (with_reducible first | exact HB.out | apply below_alloc | apply pw_below_drewN | apply below_drew1 | refine below_set ?_ GE552.out) | exact HB.out)) hb); clear HO_553001; clear HO555; clear HO559; clear HO563; clear HO567; clear HO571; clear BK552; clear HB; have HO_553001 := n0_; have HO555 := n1_; have HO559 := n2_; have HO563 := n3_; have HO567 := n4_; have HO571 := n5_; have BK552 := n6_; have HB := n7_; clear n0_ n1_ n2_ n3_ n4_ n5_ n6_ n7_; (try clear hb); (try clear hb2); (try clear hk); (try clear hi); have hcz84_0 : w83.cell? ⟨gb552, 0, none⟩ = some (.string (⟨#[]⟩ : ByteArray)) := (blk_cell BK552.out 0).trans rfl; have hcz84_1 : w83.cell? ⟨gb552, 1, none⟩ = some (.slice Ao31 y549.length co31) := (blk_cell BK552.out 1).trans rfl; have hfz84_0 := blk_frozen BK552.out 0; have hfz84_1 := blk_frozen BK552.out 1) | ((with_reducible refine gate_dst (N := 97) rfl ?_); (try (refine gate_guard (by rfl) ?_; dsimp only)); refine Kd.R_lit Kd.string _ 9 ?hg (N := 97) ?hd (xs := ([x9_21, x11_21, (((⟨#[121]⟩ : ByteArray) ++ t544) ++ (⟨#[50]⟩ : ByteArray)), (⟨#[]⟩ : ByteArray)] : List ByteArray)) (inner := [.string x9_21, .string x11_21, .string (((⟨#[121]⟩ : ByteArray) ++ t544) ++ (⟨#[50]⟩ : ByteArray)), .string (⟨#[]⟩ : ByteArray)]) (ok := fun _ => True) (okp := fun _ => True) ?hr ?hp (fun _ hk => hk) trivial (Below.refl _ _) (Nat.le_refl _) (by simp) ?_; (case hd => rfl); (case hg => rfl); (case hr => first | (go_simp; done) | (go_simp; rfl)); (case hp => exact (Reps.one (show Kd.M Kd.string _ _ _ x9_21 [.string x9_21] from rfl) (Reps.one (show Kd.M Kd.string _ _ _ x11_21 [.string x11_21] from rfl) (Reps.one (show Kd.M Kd.string _ _ _ (((⟨#[121]⟩ : ByteArray) ++ t544) ++ (⟨#[50]⟩ : ByteArray)) [.string (((⟨#[121]⟩ : ByteArray) ++ t544) ++ (⟨#[50]⟩ : ByteArray))] from rfl) (Reps.one (show Kd.M Kd.string _ _ _ (⟨#[]⟩ : ByteArray) [.string (⟨#[]⟩ : ByteArray)] from rfl) (Reps.none _ _)))))); intro v574 w85 ho86 hb hg_ hnew_; clear hg_ hnew_; (first | rw [← Ny573.out] at ho86 | (simp only [Int.reduceToNat] at ho86; rw [← Ny573.out] at ho86)); have n0_ := Aside0.mk (Kd.N_elder' (by (with_reducible repeat (first | apply Kd.N_alloc | apply Kd.N_drewN | apply Kd.N_drew)); exact HO_553001.out) (Kd.R_base ho86) hb); have n1_ := Aside0.mk (Kd.R_elder' (by (with_reducible repeat (first | apply Kd.R_alloc | apply Kd.R_drewN | apply Kd.R_drew)); exact HO555.out) (Kd.R_base ho86) hb); have n2_ := Aside0.mk (Kd.R_elder' (by (with_reducible repeat (first | apply Kd.R_alloc | apply Kd.R_drewN | apply Kd.R_drew)); exact HO559.out) (Kd.R_base ho86) hb); have n3_ := Aside0.mk (Kd.R_elder' (by (with_reducible repeat (first | apply Kd.R_alloc | apply Kd.R_drewN | apply Kd.R_drew)); exact HO563.out) (Kd.R_base ho86) hb); have n4_ := Aside0.mk (Kd.R_elder' (by (with_reducible repeat (first | apply Kd.R_alloc | apply Kd.R_drewN | apply Kd.R_drew)); exact HO567.out) (Kd.R_base ho86) hb); have n5_ := Aside0.mk (Kd.R_elder' (by (with_reducible repeat (first | apply Kd.R_alloc | apply Kd.R_drewN | apply Kd.R_drew)); exact HO571.out) (Kd.R_base ho86) hb); have n6_ := Aside0.mk (Kd.R_lower (Kd.R_new' (Kd.R_new' (Kd.R_new' (Kd.R_new' (Kd.R_new' ho86 (Kd.R_lt (by (with_reducible repeat (first | apply Kd.R_alloc | apply Kd.R_drewN | apply Kd.R_drew)); exact HO555.out))) (Kd.R_lt (by (with_reducible repeat (first | apply Kd.R_alloc | apply Kd.R_drewN | apply Kd.R_drew)); exact HO559.out))) (Kd.R_lt (by (with_reducible repeat (first | apply Kd.R_alloc | apply Kd.R_drewN | apply Kd.R_drew)); exact HO563.out))) (Kd.R_lt (by (with_reducible repeat (first | apply Kd.R_alloc | apply Kd.R_drewN | apply Kd.R_drew)); exact HO567.out))) (Kd.R_lt (by (with_reducible repeat (first | apply Kd.R_alloc | apply Kd.R_drewN | apply Kd.R_drew)); exact HO571.out))) (below_size (by repeat (first | (with_reducible first | exact HB.out | apply below_alloc | apply pw_below_drewN | apply below_drew1 | refine below_set ?_ GE552.out) | exact HB.out)))); have n7_ := Aside0.mk (blk_below (g := gb552) (o := .cells #[.string (⟨#[]⟩ : ByteArray), .slice Ao31 y549.length co31] 28 (0, 0)) (by (with_reducible repeat (first | refine blk_drewN ?_ _ | refine blk_drew ?_ | refine blk_alloc ?_ _)); exact BK552.out) hb); have n8_ := Aside0.mk (below_step (by repeat (first | (with_reducible first | exact HB.out | apply below_alloc | apply pw_below_drewN | apply below_drew1 | refine below_set ?_ GE552.out) | exact HB.out)) hb); clear HO_553001; clear HO555; clear HO559; clear HO563; clear HO567; clear HO571; clear BK552; clear HB; have HO_553001 := n0_; have HO555 := n1_; have HO559 := n2_; have HO563 := n3_; have HO567 := n4_; have HO571 := n5_; have HO575 := n6_; have BK552 := n7_; have HB := n8_; clear n0_ n1_ n2_ n3_ n4_ n5_ n6_ n7_ n8_; clear hb ho86; obtain ⟨Ao87, co87, eo87⟩ := Kd.R_slice HO575.out; subst eo87) | (go_at_call 22; (with_reducible refine (brooklaw7_sub.calls kj21 (⟨#[]⟩ : ByteArray) _ _ y549 _ _ y573 t576 _ ?side1 ?side2 ?side3 ?side4 ?side5 A49.out).mono ?_); (case side1 => repeat (first | exact (Kd.N_reads' HO_553001.out).2.2 | (with_reducible refine Kd.C_alloc ?_ _) | (with_reducible refine Kd.C_drewN ?_ _) | (with_reducible refine Kd.C_drew ?_))); (case side2 => exact (Kd.N_reads' HO_553001.out).2.1); (case side3 => repeat (first | exact (Kd.R_reads' HO575.out).2.2 | (with_reducible refine Kd.C_alloc ?_ _) | (with_reducible refine Kd.C_drewN ?_ _) | (with_reducible refine Kd.C_drew ?_))); (case side4 => exact (Kd.R_reads' HO575.out).2.1); (case side5 => first | exact HG.out | exact Gl.drewN HG.out _ | exact Gl.below HG.out (by repeat (first | (with_reducible first | exact HB.out | apply below_alloc | apply pw_below_drewN | apply below_drew1 | refine below_set ?_ GE552.out) | exact HB.out))); rintro e w88 ⟨rfl, hb⟩; have n0_ := Aside0.mk (Kd.N_below (by (with_reducible repeat (first | apply Kd.N_alloc | apply Kd.N_drewN | apply Kd.N_drew)); exact HO_553001.out) hb); have n1_ := Aside0.mk (Kd.R_below (by (with_reducible repeat (first | apply Kd.R_alloc | apply Kd.R_drewN | apply Kd.R_drew)); exact HO555.out) hb); have n2_ := Aside0.mk (Kd.R_below (by (with_reducible repeat (first | apply Kd.R_alloc | apply Kd.R_drewN | apply Kd.R_drew)); exact HO559.out) hb); have n3_ := Aside0.mk (Kd.R_below (by (with_reducible repeat (first | apply Kd.R_alloc | apply Kd.R_drewN | apply Kd.R_drew)); exact HO563.out) hb); have n4_ := Aside0.mk (Kd.R_below (by (with_reducible repeat (first | apply Kd.R_alloc | apply Kd.R_drewN | apply Kd.R_drew)); exact HO567.out) hb); have n5_ := Aside0.mk (Kd.R_below (by (with_reducible repeat (first | apply Kd.R_alloc | apply Kd.R_drewN | apply Kd.R_drew)); exact HO571.out) hb); have n6_ := Aside0.mk (Kd.R_below (by (with_reducible repeat (first | apply Kd.R_alloc | apply Kd.R_drewN | apply Kd.R_drew)); exact HO575.out) hb); have n7_ := Aside0.mk (blk_below (g := gb552) (o := .cells #[.string (⟨#[]⟩ : ByteArray), .slice Ao31 y549.length co31] 28 (0, 0)) (by (with_reducible repeat (first | refine blk_drewN ?_ _ | refine blk_drew ?_ | refine blk_alloc ?_ _)); exact BK552.out) hb); have n8_ := Aside0.mk (below_step (by repeat (first | (with_reducible first | exact HB.out | apply below_alloc | apply pw_below_drewN | apply below_drew1 | refine below_set ?_ GE552.out) | exact HB.out)) hb); clear HO_553001; clear HO555; clear HO559; clear HO563; clear HO567; clear HO571; clear HO575; clear BK552; clear HB; have HO_553001 := n0_; have HO555 := n1_; have HO559 := n2_; have HO563 := n3_; have HO567 := n4_; have HO571 := n5_; have HO575 := n6_; have BK552 := n7_; have HB := n8_; clear n0_ n1_ n2_ n3_ n4_ n5_ n6_ n7_ n8_; (try clear hb); (try clear hb2); (try clear hk); (try clear hi); have hcz89_0 : w88.cell? ⟨gb552, 0, none⟩ = some (.string (⟨#[]⟩ : ByteArray)) := (blk_cell BK552.out 0).trans rfl; have hcz89_1 : w88.cell? ⟨gb552, 1, none⟩ = some (.slice Ao31 y549.length co31) := (blk_cell BK552.out 1).trans rfl; have hfz89_0 := blk_frozen BK552.out 0; have hfz89_1 := blk_frozen BK552.out 1) | ((with_reducible refine gate_dst (N := 106) rfl ?_); (try (refine gate_guard (by rfl) ?_; dsimp only)); refine Kd.R_lit Kd.string _ 9 ?hg (N := 106) ?hd (xs := ([(⟨#[]⟩ : ByteArray), (((⟨#[121]⟩ : ByteArray) ++ t544) ++ (⟨#[50]⟩ : ByteArray)), x11_21 ++ (⟨#[33]⟩ : ByteArray)] : List ByteArray)) (inner := [.string (⟨#[]⟩ : ByteArray), .string (((⟨#[121]⟩ : ByteArray) ++ t544) ++ (⟨#[50]⟩ : ByteArray)), .string (x11_21 ++ (⟨#[33]⟩ : ByteArray))]) (ok := fun _ => True) (okp := fun _ => True) ?hr ?hp (fun _ hk => hk) trivial (Below.refl _ _) (Nat.le_refl _) (by simp) ?_; (case hd => rfl); (case hg => rfl); (case hr => first | (go_simp; done) | (go_simp; rfl)); (case hp => exact (Reps.one (show Kd.M Kd.string _ _ _ (⟨#[]⟩ : ByteArray) [.string (⟨#[]⟩ : ByteArray)] from rfl) (Reps.one (show Kd.M Kd.string _ _ _ (((⟨#[121]⟩ : ByteArray) ++ t544) ++ (⟨#[50]⟩ : ByteArray)) [.string (((⟨#[121]⟩ : ByteArray) ++ t544) ++ (⟨#[50]⟩ : ByteArray))] from rfl) (Reps.one (show Kd.M Kd.string _ _ _ (x11_21 ++ (⟨#[33]⟩ : ByteArray)) [.string (x11_21 ++ (⟨#[33]⟩ : ByteArray))] from rfl) (Reps.none _ _))))); intro v578 w90 ho91 hb hg_ hnew_; clear hg_ hnew_; (first | rw [← Ny577.out] at ho91 | (simp only [Int.reduceToNat] at ho91; rw [← Ny577.out] at ho91)); have n0_ := Aside0.mk (Kd.N_elder' (by (with_reducible repeat (first | apply Kd.N_alloc | apply Kd.N_drewN | apply Kd.N_drew)); exact HO_553001.out) (Kd.R_base ho91) hb); have n1_ := Aside0.mk (Kd.R_elder' (by (with_reducible repeat (first | apply Kd.R_alloc | apply Kd.R_drewN | apply Kd.R_drew)); exact HO555.out) (Kd.R_base ho91) hb); have n2_ := Aside0.mk (Kd.R_elder' (by (with_reducible repeat (first | apply Kd.R_alloc | apply Kd.R_drewN | apply Kd.R_drew)); exact HO559.out) (Kd.R_base ho91) hb); have n3_ := Aside0.mk (Kd.R_elder' (by (with_reducible repeat (first | apply Kd.R_alloc | apply Kd.R_drewN | apply Kd.R_drew)); exact HO563.out) (Kd.R_base ho91) hb); have n4_ := Aside0.mk (Kd.R_elder' (by (with_reducible repeat (first | apply Kd.R_alloc | apply Kd.R_drewN | apply Kd.R_drew)); exact HO567.out) (Kd.R_base ho91) hb); have n5_ := Aside0.mk (Kd.R_elder' (by (with_reducible repeat (first | apply Kd.R_alloc | apply Kd.R_drewN | apply Kd.R_drew)); exact HO571.out) (Kd.R_base ho91) hb); have n6_ := Aside0.mk (Kd.R_elder' (by (with_reducible repeat (first | apply Kd.R_alloc | apply Kd.R_drewN | apply Kd.R_drew)); exact HO575.out) (Kd.R_base ho91) hb); have n7_ := Aside0.mk (Kd.R_lower (Kd.R_new' (Kd.R_new' (Kd.R_new' (Kd.R_new' (Kd.R_new' (Kd.R_new' ho91 (Kd.R_lt (by (with_reducible repeat (first | apply Kd.R_alloc | apply Kd.R_drewN | apply Kd.R_drew)); exact HO555.out))) (Kd.R_lt (by (with_reducible repeat (first | apply Kd.R_alloc | apply Kd.R_drewN | apply Kd.R_drew)); exact HO559.out))) (Kd.R_lt (by (with_reducible repeat (first | apply Kd.R_alloc | apply Kd.R_drewN | apply Kd.R_drew)); exact HO563.out))) (Kd.R_lt (by (with_reducible repeat (first | apply Kd.R_alloc | apply Kd.R_drewN | apply Kd.R_drew)); exact HO567.out))) (Kd.R_lt (by (with_reducible repeat (first | apply Kd.R_alloc | apply Kd.R_drewN | apply Kd.R_drew)); exact HO571.out))) (Kd.R_lt (by (with_reducible repeat (first | apply Kd.R_alloc | apply Kd.R_drewN | apply Kd.R_drew)); exact HO575.out))) (below_size (by repeat (first | (with_reducible first | exact HB.out | apply below_alloc | apply pw_below_drewN | apply below_drew1 | refine below_set ?_ GE552.out) | exact HB.out)))); have n8_ := Aside0.mk (blk_below (g := gb552) (o := .cells #[.string (⟨#[]⟩ : ByteArray), .slice Ao31 y549.length co31] 28 (0, 0)) (by (with_reducible repeat (first | refine blk_drewN ?_ _ | refine blk_drew ?_ | refine blk_alloc ?_ _)); exact BK552.out) hb); have n9_ := Aside0.mk (below_step (by repeat (first | (with_reducible first | exact HB.out | apply below_alloc | apply pw_below_drewN | apply below_drew1 | refine below_set ?_ GE552.out) | exact HB.out)) hb); clear HO_553001; clear HO555; clear HO559; clear HO563; clear HO567; clear HO571; clear HO575; clear BK552; clear HB; have HO_553001 := n0_; have HO555 := n1_; have HO559 := n2_; have HO563 := n3_; have HO567 := n4_; have HO571 := n5_; have HO575 := n6_; have HO579 := n7_; have BK552 := n8_; have HB := n9_; clear n0_ n1_ n2_ n3_ n4_ n5_ n6_ n7_ n8_ n9_; clear hb ho91; obtain ⟨Ao92, co92, eo92⟩ := Kd.R_slice HO579.out; subst eo92) | (go_at_call 22; (with_reducible refine (brooklaw7_sub.calls kj21 (⟨#[]⟩ : ByteArray) _ _ y549 _ _ y577 t580 _ ?side1 ?side2 ?side3 ?side4 ?side5 A52.out).mono ?_); (case side1 => repeat (first | exact (Kd.N_reads' HO_553001.out).2.2 | (with_reducible refine Kd.C_alloc ?_ _) | (with_reducible refine Kd.C_drewN ?_ _) | (with_reducible refine Kd.C_drew ?_))); (case side2 => exact (Kd.N_reads' HO_553001.out).2.1); (case side3 => repeat (first | exact (Kd.R_reads' HO579.out).2.2 | (with_reducible refine Kd.C_alloc ?_ _) | (with_reducible refine Kd.C_drewN ?_ _) | (with_reducible refine Kd.C_drew ?_))); (case side4 => exact (Kd.R_reads' HO579.out).2.1); (case side5 => first | exact HG.out | exact Gl.drewN HG.out _ | exact Gl.below HG.out (by repeat (first | (with_reducible first | exact HB.out | apply below_alloc | apply pw_below_drewN | apply below_drew1 | refine below_set ?_ GE552.out) | exact HB.out))); rintro e w93 ⟨rfl, hb⟩; have n0_ := Aside0.mk (Kd.N_below (by (with_reducible repeat (first | apply Kd.N_alloc | apply Kd.N_drewN | apply Kd.N_drew)); exact HO_553001.out) hb); have n1_ := Aside0.mk (Kd.R_below (by (with_reducible repeat (first | apply Kd.R_alloc | apply Kd.R_drewN | apply Kd.R_drew)); exact HO555.out) hb); have n2_ := Aside0.mk (Kd.R_below (by (with_reducible repeat (first | apply Kd.R_alloc | apply Kd.R_drewN | apply Kd.R_drew)); exact HO559.out) hb); have n3_ := Aside0.mk (Kd.R_below (by (with_reducible repeat (first | apply Kd.R_alloc | apply Kd.R_drewN | apply Kd.R_drew)); exact HO563.out) hb); have n4_ := Aside0.mk (Kd.R_below (by (with_reducible repeat (first | apply Kd.R_alloc | apply Kd.R_drewN | apply Kd.R_drew)); exact HO567.out) hb); have n5_ := Aside0.mk (Kd.R_below (by (with_reducible repeat (first | apply Kd.R_alloc | apply Kd.R_drewN | apply Kd.R_drew)); exact HO571.out) hb); have n6_ := Aside0.mk (Kd.R_below (by (with_reducible repeat (first | apply Kd.R_alloc | apply Kd.R_drewN | apply Kd.R_drew)); exact HO575.out) hb); have n7_ := Aside0.mk (Kd.R_below (by (with_reducible repeat (first | apply Kd.R_alloc | apply Kd.R_drewN | apply Kd.R_drew)); exact HO579.out) hb); have n8_ := Aside0.mk (blk_below (g := gb552) (o := .cells #[.string (⟨#[]⟩ : ByteArray), .slice Ao31 y549.length co31] 28 (0, 0)) (by (with_reducible repeat (first | refine blk_drewN ?_ _ | refine blk_drew ?_ | refine blk_alloc ?_ _)); exact BK552.out) hb); have n9_ := Aside0.mk (below_step (by repeat (first | (with_reducible first | exact HB.out | apply below_alloc | apply pw_below_drewN | apply below_drew1 | refine below_set ?_ GE552.out) | exact HB.out)) hb); clear HO_553001; clear HO555; clear HO559; clear HO563; clear HO567; clear HO571; clear HO575; clear HO579; clear BK552; clear HB; have HO_553001 := n0_; have HO555 := n1_; have HO559 := n2_; have HO563 := n3_; have HO567 := n4_; have HO571 := n5_; have HO575 := n6_; have HO579 := n7_; have BK552 := n8_; have HB := n9_; clear n0_ n1_ n2_ n3_ n4_ n5_ n6_ n7_ n8_ n9_; (try clear hb); (try clear hb2); (try clear hk); (try clear hi); have hcz94_0 : w93.cell? ⟨gb552, 0, none⟩ = some (.string (⟨#[]⟩ : ByteArray)) := (blk_cell BK552.out 0).trans rfl; have hcz94_1 : w93.cell? ⟨gb552, 1, none⟩ = some (.slice Ao31 y549.length co31) := (blk_cell BK552.out 1).trans rfl; have hfz94_0 := blk_frozen BK552.out 0; have hfz94_1 := blk_frozen BK552.out 1) | ((with_reducible refine gate_dst (N := 118) rfl ?_); (try (refine gate_guard (by rfl) ?_; dsimp only)); refine Kd.R_lit Kd.string _ 9 ?hg (N := 118) ?hd (xs := ([x9_21 ++ (((⟨#[121]⟩ : ByteArray) ++ t544) ++ (⟨#[50]⟩ : ByteArray)), (((⟨#[121]⟩ : ByteArray) ++ t544) ++ (⟨#[50]⟩ : ByteArray)) ++ x11_21] : List ByteArray)) (inner := [.string (x9_21 ++ (((⟨#[121]⟩ : ByteArray) ++ t544) ++ (⟨#[50]⟩ : ByteArray))), .string ((((⟨#[121]⟩ : ByteArray) ++ t544) ++ (⟨#[50]⟩ : ByteArray)) ++ x11_21)]) (ok := fun _ => True) (okp := fun _ => True) ?hr ?hp (fun _ hk => hk) trivial (Below.refl _ _) (Nat.le_refl _) (by simp) ?_; (case hd => rfl); (case hg => rfl); (case hr => first | (go_simp; done) | (go_simp; rfl)); (case hp => exact (Reps.one (show Kd.M Kd.string _ _ _ (x9_21 ++ (((⟨#[121]⟩ : ByteArray) ++ t544) ++ (⟨#[50]⟩ : ByteArray))) [.string (x9_21 ++ (((⟨#[121]⟩ : ByteArray) ++ t544) ++ (⟨#[50]⟩ : ByteArray)))] from rfl) (Reps.one (show Kd.M Kd.string _ _ _ ((((⟨#[121]⟩ : ByteArray) ++ t544) ++ (⟨#[50]⟩ : ByteArray)) ++ x11_21) [.string ((((⟨#[121]⟩ : ByteArray) ++ t544) ++ (⟨#[50]⟩ : ByteArray)) ++ x11_21)] from rfl) (Reps.none _ _)))); intro v582 w95 ho96 hb hg_ hnew_; clear hg_ hnew_; (first | rw [← Ny581.out] at ho96 | (simp only [Int.reduceToNat] at ho96; rw [← Ny581.out] at ho96)); have n0_ := Aside0.mk (Kd.N_elder' (by (with_reducible repeat (first | apply Kd.N_alloc | apply Kd.N_drewN | apply Kd.N_drew)); exact HO_553001.out) (Kd.R_base ho96) hb); have n1_ := Aside0.mk (Kd.R_elder' (by (with_reducible repeat (first | apply Kd.R_alloc | apply Kd.R_drewN | apply Kd.R_drew)); exact HO555.out) (Kd.R_base ho96) hb); have n2_ := Aside0.mk (Kd.R_elder' (by (with_reducible repeat (first | apply Kd.R_alloc | apply Kd.R_drewN | apply Kd.R_drew)); exact HO559.out) (Kd.R_base ho96) hb); have n3_ := Aside0.mk (Kd.R_elder' (by (with_reducible repeat (first | apply Kd.R_alloc | apply Kd.R_drewN | apply Kd.R_drew)); exact HO563.out) (Kd.R_base ho96) hb); have n4_ := Aside0.mk (Kd.R_elder' (by (with_reducible repeat (first | apply Kd.R_alloc | apply Kd.R_drewN | apply Kd.R_drew)); exact HO567.out) (Kd.R_base ho96) hb); have n5_ := Aside0.mk (Kd.R_elder' (by (with_reducible repeat (first | apply Kd.R_alloc | apply Kd.R_drewN | apply Kd.R_drew)); exact HO571.out) (Kd.R_base ho96) hb); have n6_ := Aside0.mk (Kd.R_elder' (by (with_reducible repeat (first | apply Kd.R_alloc | apply Kd.R_drewN | apply Kd.R_drew)); exact HO575.out) (Kd.R_base ho96) hb); have n7_ := Aside0.mk (Kd.R_elder' (by (with_reducible repeat (first | apply Kd.R_alloc | apply Kd.R_drewN | apply Kd.R_drew)); exact HO579.out) (Kd.R_base ho96) hb); have n8_ := Aside0.mk (Kd.R_lower (Kd.R_new' (Kd.R_new' (Kd.R_new' (Kd.R_new' (Kd.R_new' (Kd.R_new' (Kd.R_new' ho96 (Kd.R_lt (by (with_reducible repeat (first | apply Kd.R_alloc | apply Kd.R_drewN | apply Kd.R_drew)); exact HO555.out))) (Kd.R_lt (by (with_reducible repeat (first | apply Kd.R_alloc | apply Kd.R_drewN | apply Kd.R_drew)); exact HO559.out))) (Kd.R_lt (by (with_reducible repeat (first | apply Kd.R_alloc | apply Kd.R_drewN | apply Kd.R_drew)); exact HO563.out))) (Kd.R_lt (by (with_reducible repeat (first | apply Kd.R_alloc | apply Kd.R_drewN | apply Kd.R_drew)); exact HO567.out))) (Kd.R_lt (by (with_reducible repeat (first | apply Kd.R_alloc | apply Kd.R_drewN | apply Kd.R_drew)); exact HO571.out))) (Kd.R_lt (by (with_reducible repeat (first | apply Kd.R_alloc | apply Kd.R_drewN | apply Kd.R_drew)); exact HO575.out))) (Kd.R_lt (by (with_reducible repeat (first | apply Kd.R_alloc | apply Kd.R_drewN | apply Kd.R_drew)); exact HO579.out))) (below_size (by repeat (first | (with_reducible first | exact HB.out | apply below_alloc | apply pw_below_drewN | apply below_drew1 | refine below_set ?_ GE552.out) | exact HB.out)))); have n9_ := Aside0.mk (blk_below (g := gb552) (o := .cells #[.string (⟨#[]⟩ : ByteArray), .slice Ao31 y549.length co31] 28 (0, 0)) (by (with_reducible repeat (first | refine blk_drewN ?_ _ | refine blk_drew ?_ | refine blk_alloc ?_ _)); exact BK552.out) hb); have n10_ := Aside0.mk (below_step (by repeat (first | (with_reducible first | exact HB.out | apply below_alloc | apply pw_below_drewN | apply below_drew1 | refine below_set ?_ GE552.out) | exact HB.out)) hb); clear HO_553001; clear HO555; clear HO559; clear HO563; clear HO567; clear HO571; clear HO575; clear HO579; clear BK552; clear HB; have HO_553001 := n0_; have HO555 := n1_; have HO559 := n2_; have HO563 := n3_; have HO567 := n4_; have HO571 := n5_; have HO575 := n6_; have HO579 := n7_; have HO583 := n8_; have BK552 := n9_; have HB := n10_; clear n0_ n1_ n2_ n3_ n4_ n5_ n6_ n7_ n8_ n9_ n10_; clear hb ho96; obtain ⟨Ao97, co97, eo97⟩ := Kd.R_slice HO583.out; subst eo97) | (go_at_call 22; (with_reducible refine (brooklaw7_sub.calls kj21 (⟨#[]⟩ : ByteArray) _ _ y549 _ _ y581 t584 _ ?side1 ?side2 ?side3 ?side4 ?side5 A56.out).mono ?_); (case side1 => repeat (first | exact (Kd.N_reads' HO_553001.out).2.2 | (with_reducible refine Kd.C_alloc ?_ _) | (with_reducible refine Kd.C_drewN ?_ _) | (with_reducible refine Kd.C_drew ?_))); (case side2 => exact (Kd.N_reads' HO_553001.out).2.1); (case side3 => repeat (first | exact (Kd.R_reads' HO583.out).2.2 | (with_reducible refine Kd.C_alloc ?_ _) | (with_reducible refine Kd.C_drewN ?_ _) | (with_reducible refine Kd.C_drew ?_))); (case side4 => exact (Kd.R_reads' HO583.out).2.1); (case side5 => first | exact HG.out | exact Gl.drewN HG.out _ | exact Gl.below HG.out (by repeat (first | (with_reducible first | exact HB.out | apply below_alloc | apply pw_below_drewN | apply below_drew1 | refine below_set ?_ GE552.out) | exact HB.out))); rintro e w98 ⟨rfl, hb⟩; have n0_ := Aside0.mk (Kd.N_below (by (with_reducible repeat (first | apply Kd.N_alloc | apply Kd.N_drewN | apply Kd.N_drew)); exact HO_553001.out) hb); have n1_ := Aside0.mk (Kd.R_below (by (with_reducible repeat (first | apply Kd.R_alloc | apply Kd.R_drewN | apply Kd.R_drew)); exact HO555.out) hb); have n2_ := Aside0.mk (Kd.R_below (by (with_reducible repeat (first | apply Kd.R_alloc | apply Kd.R_drewN | apply Kd.R_drew)); exact HO559.out) hb); have n3_ := Aside0.mk (Kd.R_below (by (with_reducible repeat (first | apply Kd.R_alloc | apply Kd.R_drewN | apply Kd.R_drew)); exact HO563.out) hb); have n4_ := Aside0.mk (Kd.R_below (by (with_reducible repeat (first | apply Kd.R_alloc | apply Kd.R_drewN | apply Kd.R_drew)); exact HO567.out) hb); have n5_ := Aside0.mk (Kd.R_below (by (with_reducible repeat (first | apply Kd.R_alloc | apply Kd.R_drewN | apply Kd.R_drew)); exact HO571.out) hb); have n6_ := Aside0.mk (Kd.R_below (by (with_reducible repeat (first | apply Kd.R_alloc | apply Kd.R_drewN | apply Kd.R_drew)); exact HO575.out) hb); have n7_ := Aside0.mk (Kd.R_below (by (with_reducible repeat (first | apply Kd.R_alloc | apply Kd.R_drewN | apply Kd.R_drew)); exact HO579.out) hb); have n8_ := Aside0.mk (Kd.R_below (by (with_reducible repeat (first | apply Kd.R_alloc | apply Kd.R_drewN | apply Kd.R_drew)); exact HO583.out) hb); have n9_ := Aside0.mk (blk_below (g := gb552) (o := .cells #[.string (⟨#[]⟩ : ByteArray), .slice Ao31 y549.length co31] 28 (0, 0)) (by (with_reducible repeat (first | refine blk_drewN ?_ _ | refine blk_drew ?_ | refine blk_alloc ?_ _)); exact BK552.out) hb); have n10_ := Aside0.mk (below_step (by repeat (first | (with_reducible first | exact HB.out | apply below_alloc | apply pw_below_drewN | apply below_drew1 | refine below_set ?_ GE552.out) | exact HB.out)) hb); clear HO_553001; clear HO555; clear HO559; clear HO563; clear HO567; clear HO571; clear HO575; clear HO579; clear HO583; clear BK552; clear HB; have HO_553001 := n0_; have HO555 := n1_; have HO559 := n2_; have HO563 := n3_; have HO567 := n4_; have HO571 := n5_; have HO575 := n6_; have HO579 := n7_; have HO583 := n8_; have BK552 := n9_; have HB := n10_; clear n0_ n1_ n2_ n3_ n4_ n5_ n6_ n7_ n8_ n9_ n10_; (try clear hb); (try clear hb2); (try clear hk); (try clear hi)) | (go_at_call 15; (with_reducible refine (brooklaw7_awake.calls kj21  t585 _ ?side1 A58.out).mono ?_); (case side1 => first | exact HG.out | exact Gl.drewN HG.out _ | exact Gl.below HG.out (by repeat (first | (with_reducible first | exact HB.out | apply below_alloc | apply pw_below_drewN | apply below_drew1 | refine below_set ?_ GE552.out) | exact HB.out))); rintro e w99 ⟨rfl, hb⟩; have n0_ := Aside0.mk (Kd.N_below (by (with_reducible repeat (first | apply Kd.N_alloc | apply Kd.N_drewN | apply Kd.N_drew)); exact HO_553001.out) hb); have n1_ := Aside0.mk (Kd.R_below (by (with_reducible repeat (first | apply Kd.R_alloc | apply Kd.R_drewN | apply Kd.R_drew)); exact HO555.out) hb); have n2_ := Aside0.mk (Kd.R_below (by (with_reducible repeat (first | apply Kd.R_alloc | apply Kd.R_drewN | apply Kd.R_drew)); exact HO559.out) hb); have n3_ := Aside0.mk (Kd.R_below (by (with_reducible repeat (first | apply Kd.R_alloc | apply Kd.R_drewN | apply Kd.R_drew)); exact HO563.out) hb); have n4_ := Aside0.mk (Kd.R_below (by (with_reducible repeat (first | apply Kd.R_alloc | apply Kd.R_drewN | apply Kd.R_drew)); exact HO567.out) hb); have n5_ := Aside0.mk (Kd.R_below (by (with_reducible repeat (first | apply Kd.R_alloc | apply Kd.R_drewN | apply Kd.R_drew)); exact HO571.out) hb); have n6_ := Aside0.mk (Kd.R_below (by (with_reducible repeat (first | apply Kd.R_alloc | apply Kd.R_drewN | apply Kd.R_drew)); exact HO575.out) hb); have n7_ := Aside0.mk (Kd.R_below (by (with_reducible repeat (first | apply Kd.R_alloc | apply Kd.R_drewN | apply Kd.R_drew)); exact HO579.out) hb); have n8_ := Aside0.mk (Kd.R_below (by (with_reducible repeat (first | apply Kd.R_alloc | apply Kd.R_drewN | apply Kd.R_drew)); exact HO583.out) hb); have n9_ := Aside0.mk (blk_below (g := gb552) (o := .cells #[.string (⟨#[]⟩ : ByteArray), .slice Ao31 y549.length co31] 28 (0, 0)) (by (with_reducible repeat (first | refine blk_drewN ?_ _ | refine blk_drew ?_ | refine blk_alloc ?_ _)); exact BK552.out) hb); have n10_ := Aside0.mk (below_step (by repeat (first | (with_reducible first | exact HB.out | apply below_alloc | apply pw_below_drewN | apply below_drew1 | refine below_set ?_ GE552.out) | exact HB.out)) hb); clear HO_553001; clear HO555; clear HO559; clear HO563; clear HO567; clear HO571; clear HO575; clear HO579; clear HO583; clear BK552; clear HB; have HO_553001 := n0_; have HO555 := n1_; have HO559 := n2_; have HO563 := n3_; have HO567 := n4_; have HO571 := n5_; have HO575 := n6_; have HO579 := n7_; have HO583 := n8_; have BK552 := n9_; have HB := n10_; clear n0_ n1_ n2_ n3_ n4_ n5_ n6_ n7_ n8_ n9_ n10_; (try clear hb); (try clear hb2); (try clear hk); (try clear hi)))
                         go_ret
                         exact ⟨by first | rfl | (simp [errW_none, errW_some] <;> rfl) | (simp [*, errW_none, errW_some] <;> rfl), by repeat (first | (with_reducible first | exact HB.out | apply below_alloc | apply pw_below_drewN | apply below_drew1 | refine below_set ?_ GE552.out) | exact HB.out)⟩
                        ·rw [if_neg c57] at H
                         have c57b0 : (t584 == 0) = false := beq_eq_false_iff_ne.mpr c57
                         have c57b1 : (t584 != 0) = true := bne_iff_ne.mpr c57
                         exact absurd ((Option.some.inj H).trans HRT.out) Bool.false_ne_true
                       ·rw [if_neg c55] at H
                        exact absurd H (by simp)
                      ·rw [if_neg c54] at H
                       exact absurd H (by simp)
                     ·rw [if_neg c53] at H
                      have c53b0 : (t580 == 0) = false := beq_eq_false_iff_ne.mpr c53
                      have c53b1 : (t580 != 0) = true := bne_iff_ne.mpr c53
                      exact absurd ((Option.some.inj H).trans HRT.out) Bool.false_ne_true
                    ·rw [if_neg c51] at H
                     exact absurd H (by simp)
                   ·rw [if_neg c50] at H
                    have c50b0 : (t576 == 0) = false := beq_eq_false_iff_ne.mpr c50
                    have c50b1 : (t576 != 0) = true := bne_iff_ne.mpr c50
                    exact absurd ((Option.some.inj H).trans HRT.out) Bool.false_ne_true
                  ·rw [if_neg c48] at H
                   have c48b0 : (t572 == 1) = false := beq_eq_false_iff_ne.mpr c48
                   have c48b1 : (t572 != 1) = true := bne_iff_ne.mpr c48
                   exact absurd ((Option.some.inj H).trans HRT.out) Bool.false_ne_true
                 ·rw [if_neg c46] at H
                  have c46b0 : (t568 == 1) = false := beq_eq_false_iff_ne.mpr c46
                  have c46b1 : (t568 != 1) = true := bne_iff_ne.mpr c46
                  exact absurd ((Option.some.inj H).trans HRT.out) Bool.false_ne_true
                ·rw [if_neg c44] at H
                 have c44b0 : (t564 == 1) = false := beq_eq_false_iff_ne.mpr c44
                 have c44b1 : (t564 != 1) = true := bne_iff_ne.mpr c44
                 exact absurd ((Option.some.inj H).trans HRT.out) Bool.false_ne_true
               ·rw [if_neg c42] at H
                have c42b0 : (t560 == 1) = false := beq_eq_false_iff_ne.mpr c42
                have c42b1 : (t560 != 1) = true := bne_iff_ne.mpr c42
                exact absurd ((Option.some.inj H).trans HRT.out) Bool.false_ne_true
              ·rw [if_neg c40] at H
               have c40b0 : (t556 == 1) = false := beq_eq_false_iff_ne.mpr c40
               have c40b1 : (t556 != 1) = true := bne_iff_ne.mpr c40
               exact absurd ((Option.some.inj H).trans HRT.out) Bool.false_ne_true
           ·rw [if_neg c21] at H
            exact absurd H (by simp)
          ·rw [if_neg c20] at H
           exact absurd H (by simp)
         ·rw [if_neg c19] at H
          exact absurd H (by simp)
        ·rw [if_neg c18] at H
         exact absurd H (by simp)
       ·rw [if_neg c16] at H
        exact absurd H (by simp)
      ·rw [if_neg c15] at H
       exact absurd H (by simp)
     ·rw [if_neg c13] at H
      exact absurd H (by simp)
    ·rw [if_neg c12] at H
     exact absurd H (by simp)
end Go.Proofs.YthfpaoacjpjnfaaGreatDoor.P


namespace Go.Proofs.YthfpaoacjpjnfaaGreatDoor.P
open Go.RowKit Go.Proofs.YthfpaoacjpjnfaaGreatDoorW.PrintWords Go.Proofs.YthfpaoacjpjnfaaGreatDoorW.PrintLast Go.Proofs.YthfpaoacjpjnfaaGreatDoorW.PrintMore
set_option linter.unusedVariables false
set_option linter.unusedSimpArgs false
theorem cut_front (s r : List UInt8) (h : s ≠ []) : Lib.cut (s ++ r) s = ([], r, true) := by
  have h0 : Lib.index (s ++ r) s = ((0 : Nat) : Int) := Lib.index_first (i := 0) (Nat.zero_le _) (by
    show s.isPrefixOf ((s ++ r).drop 0) = true
    rw [List.drop_zero, List.isPrefixOf_iff_prefix]
    exact List.prefix_append s r) (fun _ h => absurd h (Nat.not_lt_zero _))
  unfold Lib.cut
  rw [h0, if_pos (by decide)]
  show (_, (s ++ r).drop (0 + s.length), true) = _
  rw [Nat.zero_add, List.drop_left]
  rfl
theorem cut_in (a s r : List UInt8) : ∃ i, i ≤ a.length ∧ Lib.cut (a ++ s ++ r) s = ((a ++ s ++ r).take i, (a ++ s ++ r).drop (i + s.length), true) := by
  rcases Lib.index_spec (a ++ s ++ r) s with ⟨_, h2⟩ | ⟨i, h1, h2, h3, h4⟩
  · have := h2 a.length (by rw [List.length_append, List.length_append]; omega)
    rw [List.append_assoc] at this
    have hh : Lib.occAt (a ++ (s ++ r)) s a.length = true := by
      show s.isPrefixOf ((a ++ (s ++ r)).drop a.length) = true
      rw [List.drop_left, List.isPrefixOf_iff_prefix]
      exact List.prefix_append s r
    rw [hh] at this
    cases this
  · refine ⟨i, ?_, ?_⟩
    · rcases Nat.lt_or_ge a.length i with hlt | hge
      · have := h4 a.length hlt
        rw [List.append_assoc] at this
        have hh : Lib.occAt (a ++ (s ++ r)) s a.length = true := by
          show s.isPrefixOf ((a ++ (s ++ r)).drop a.length) = true
          rw [List.drop_left, List.isPrefixOf_iff_prefix]
          exact List.prefix_append s r
        rw [hh] at this
        cases this
      · exact hge
    · unfold Lib.cut
      rw [h1, if_pos (by omega), Int.toNat_natCast]
theorem cut_short (s p : List UInt8) (h : s.length < p.length) : (Lib.cut s p).2.2 = false := by
  rcases Lib.index_spec s p with ⟨h1, _⟩ | ⟨i, h1, h2, h3, _⟩
  · unfold Lib.cut
    rw [h1, if_neg (by decide)]
  · rcases Lib.occAt_room h3 with h' | h'
    · omega
    · rw [h'] at h; simp at h
theorem cut_no (s p : List UInt8) (c : UInt8) (r : List UInt8) (hp : p = c :: r) (h : c ∉ s) : (Lib.cut s p).2.2 = false := by
  rcases Lib.index_spec s p with ⟨h1, _⟩ | ⟨i, h1, h2, h3, _⟩
  · unfold Lib.cut
    rw [h1, if_neg (by decide)]
  · exact absurd (List.mem_of_getElem? (Lib.occAt_head hp h3)) h
theorem part_xs (v x : List UInt8) : Lib.hasPrefix (x ++ v) x = true ∧ Lib.trimPrefix (x ++ v) x = v := by
  have h : Lib.hasPrefix (x ++ v) x = true := by
    unfold Lib.hasPrefix
    rw [List.isPrefixOf_iff_prefix]
    exact List.prefix_append x v
  refine ⟨h, ?_⟩
  unfold Lib.trimPrefix
  rw [if_pos h, List.drop_left]
theorem part_e (v : List UInt8) : Lib.hasPrefix v [] = true ∧ Lib.trimPrefix v [] = v := part_xs v []
theorem suf_is (a b : List UInt8) : Lib.hasSuffix (a ++ b) b = true := by
  unfold Lib.hasSuffix
  rw [List.isSuffixOf_iff_suffix]
  exact List.suffix_append a b
theorem suf_e (a : List UInt8) : Lib.hasSuffix a [] = true := by have := suf_is a []; rwa [List.append_nil] at this
theorem suf_long (a b : List UInt8) (h : a.length < b.length) : Lib.hasSuffix a b = false := by
  cases hh : Lib.hasSuffix a b with
  | false => rfl
  | true =>
    unfold Lib.hasSuffix at hh
    rw [List.isSuffixOf_iff_suffix] at hh
    exact absurd hh.length_le (by omega)
theorem pb2 (v p q : List UInt8) : partedB (mk v) [mk p, mk q] = (Lib.hasPrefix v p && Lib.hasSuffix (Lib.trimPrefix v p) q) := rfl
theorem pb3 (v p a q : List UInt8) : partedB (mk v) [mk p, mk a, mk q] = endB [mk p, mk a, mk q] (midGo [mk a] (mk (Lib.trimPrefix v p)) (Lib.hasPrefix v p)) := rfl
theorem pb4 (v p a b q : List UInt8) : partedB (mk v) [mk p, mk a, mk b, mk q] = endB [mk p, mk a, mk b, mk q] (midGo [mk a, mk b] (mk (Lib.trimPrefix v p)) (Lib.hasPrefix v p)) := rfl
theorem pb5 (v p a b c q : List UInt8) : partedB (mk v) [mk p, mk a, mk b, mk c, mk q] = endB [mk p, mk a, mk b, mk c, mk q] (midGo [mk a, mk b, mk c] (mk (Lib.trimPrefix v p)) (Lib.hasPrefix v p)) := rfl
theorem mid_t (s p : List UInt8) (r : List ByteArray) : midGo (mk p :: r) (mk s) true = midGo r (mk (Lib.cut s p).2.1) (Lib.cut s p).2.2 := rfl
theorem mid_f : ∀ (l : List ByteArray) (s : ByteArray), (midGo l s false).2 = false
  | [], _ => rfl
  | p :: r, s => by
    unfold midGo
    rw [if_neg (by decide)]
    exact mid_f r s
theorem end3 (p a q s : List UInt8) (b : Bool) : endB [mk p, mk a, mk q] (mk s, b) = (b && Lib.hasSuffix s q) := rfl
theorem end5 (p a b c q s : List UInt8) (o : Bool) : endB [mk p, mk a, mk b, mk c, mk q] (mk s, o) = (o && Lib.hasSuffix s q) := rfl
theorem end_f (l : List ByteArray) (q : ByteArray × Bool) (h : q.2 = false) : endB l q = false := by unfold endB; rw [h]; rfl
theorem yes1 {X Y Z x y z : List UInt8} (hx : X = 120 :: x) (hy : Y = 121 :: y) (hz : Z = 122 :: z) : partedB (mk (X ++ Y ++ Z)) [mk X, mk []] = true := by
  rw [pb2, List.append_assoc, (part_xs _ _).1, suf_e]; rfl
theorem yes2 {X Y Z x y z : List UInt8} (hx : X = 120 :: x) (hy : Y = 121 :: y) (hz : Z = 122 :: z) : partedB (mk (X ++ Y ++ Z)) [mk [], mk Z] = true := by
  rw [pb2, (part_e _).1, (part_e _).2, suf_is]; rfl
theorem yes3 {X Y Z x y z : List UInt8} (hx : X = 120 :: x) (hy : Y = 121 :: y) (hz : Z = 122 :: z) : partedB (mk (X ++ Y ++ Z)) [mk [], mk Y, mk []] = true := by
  rw [pb3, (part_e _).1, (part_e _).2, mid_t]
  obtain ⟨i, _, e⟩ := cut_in X Y Z
  rw [e]
  show endB _ (mk _, true) = true
  rw [end3, suf_e]; rfl
theorem yes4 {X Y Z x y z : List UInt8} (hx : X = 120 :: x) (hy : Y = 121 :: y) (hz : Z = 122 :: z) : partedB (mk (X ++ Y ++ Z)) [mk X, mk Y, mk Z] = true := by
  rw [pb3, List.append_assoc, (part_xs _ _).1, (part_xs _ _).2, mid_t, cut_front _ _ (by rw [hy]; simp)]
  show endB _ (mk Z, true) = true
  rw [end3]
  have := suf_is [] Z
  rw [List.nil_append] at this
  rw [this]; rfl
theorem yes5 {X Y Z x y z : List UInt8} (hx : X = 120 :: x) (hy : Y = 121 :: y) (hz : Z = 122 :: z) : partedB (mk (X ++ Y ++ Z)) [mk [], mk X, mk Y, mk Z, mk []] = true := by
  rw [pb5, (part_e _).1, (part_e _).2, mid_t, List.append_assoc, cut_front _ _ (by rw [hx]; simp)]
  show endB _ (midGo [mk Y, mk Z] (mk (Y ++ Z)) true) = true
  rw [mid_t, cut_front _ _ (by rw [hy]; simp)]
  show endB _ (midGo [mk Z] (mk Z) true) = true
  rw [mid_t, show Lib.cut Z Z = ([], [], true) by have := cut_front Z [] (by rw [hz]; simp); rwa [List.append_nil] at this]
  show endB _ (mk _, true) = true
  rw [end5, suf_e]; rfl
theorem no6 {X Y Z x y z : List UInt8} (hx : X = 120 :: x) (hy : Y = 121 :: y) (hz : Z = 122 :: z) : partedB (mk (X ++ Y ++ Z)) [mk X, mk Z, mk Y, mk []] = false := by
  rw [pb4, List.append_assoc, (part_xs _ _).1, (part_xs _ _).2, mid_t]
  obtain ⟨i, hi, e⟩ := cut_in Y Z []
  rw [List.append_nil] at e
  rw [e]
  show endB _ (midGo [mk Y] (mk _) true) = false
  rw [mid_t]
  have hz1 : Z.length = z.length + 1 := by rw [hz]; rfl
  have hy1 : Y.length = y.length + 1 := by rw [hy]; rfl
  have h0 : i ≠ 0 := by
    intro h0
    subst h0
    unfold Lib.cut at e
    split at e
    · rename_i hc
      rcases Lib.index_spec (Y ++ Z) Z with ⟨h1, _⟩ | ⟨j, h1, h2, h3, _⟩
      · rw [h1] at hc; exact absurd hc (by decide)
      · rw [h1, Int.toNat_natCast] at e
        have e1 := congrArg (fun q : List UInt8 × List UInt8 × Bool => q.1.length) e
        have e2 : ((Y ++ Z).take j).length = ((Y ++ Z).take 0).length := e1
        rw [List.length_take, List.take_zero, List.length_nil] at e2
        rw [List.length_append] at e2
        have hj : j = 0 := by omega
        subst hj
        have := Lib.occAt_head hz h3
        rw [hy] at this
        exact absurd (Option.some.inj this) (by decide)
    · exact absurd (congrArg (fun q : List UInt8 × List UInt8 × Bool => q.2.2) e) (show ¬ (false = true) by decide)
  refine end_f _ _ ?_
  show (Lib.cut ((Y ++ Z).drop (i + Z.length)) Y).2.2 = false
  refine cut_short _ _ ?_
  rw [List.length_drop, List.length_append]
  omega
theorem no8 {X Y Z x y z : List UInt8} (hx : X = 120 :: x) (hy : Y = 121 :: y) (hz : Z = 122 :: z) : partedB (mk (X ++ Y ++ Z)) [mk (X ++ Y), mk (Y ++ Z)] = false := by
  rw [pb2, (part_xs _ _).1, (part_xs _ _).2, suf_long _ _ (by rw [List.length_append, hy]; simp)]; rfl
theorem no7 {X Y Z x y z : List UInt8} (hx : X = 120 :: x) (hy : Y = 121 :: y) (hz : Z = 122 :: z) (w : List UInt8) (hw : z = w ++ [51]) : partedB (mk (X ++ Y ++ Z)) [mk [], mk Y, mk (Z ++ [33])] = false := by
  rw [pb3, (part_e _).1, (part_e _).2, mid_t]
  obtain ⟨i, _, e⟩ := cut_in X Y Z
  rw [e]
  show endB _ (mk _, true) = false
  rw [end3, Bool.true_and]
  cases hh : Lib.hasSuffix ((X ++ Y ++ Z).drop (i + Y.length)) (Z ++ [33]) with
  | false => rfl
  | true =>
    unfold Lib.hasSuffix at hh
    rw [List.isSuffixOf_iff_suffix] at hh
    obtain ⟨t, ht⟩ := hh
    have h2 : (X ++ Y ++ Z) = ((X ++ Y ++ Z).take (i + Y.length)) ++ (t ++ (Z ++ [33])) := by rw [ht, List.take_append_drop]
    have h3 := congrArg List.getLast? h2
    rw [hz, hw] at h3
    rw [show (X ++ Y ++ 122 :: (w ++ [51])) = (X ++ Y ++ 122 :: w) ++ [51] by simp, List.getLast?_concat, ← List.append_assoc, ← List.append_assoc, List.getLast?_concat] at h3
    exact absurd (Option.some.inj h3) (by decide)
theorem may_parts (typ : ByteArray) (l : List ByteArray) (ht : typedL typ.data.toList = true) (hp : partsB l = true) (hs : ∀ i : Nat, i < l.length → (rdOf ByteArray.empty l (i : Int)).size ≤ 4611686018427387903) :
    filter_May.f 5 typ (⟨#[]⟩ : ByteArray) l [] = some true := by
  unfold filter_May.f
  rw [if_pos (show szF 12 ⟨5, typ, (⟨#[]⟩ : ByteArray), l, []⟩ from ⟨hs, fun x hx => by cases hx⟩)]
  congr 1
  unfold mayD mayG leafB
  dsimp only
  rw [if_neg (by decide), if_neg (by decide), if_neg (by decide), if_pos rfl, ht, hp, show (⟨#[]⟩ : ByteArray).toList = [] by rw [toList_data]]
  rfl
theorem eval_parts (typ a0 : ByteArray) (l : List ByteArray) (l1 : List S45) (vs : List ByteArray) (ht : typedL typ.data.toList = true) (hts : typ.size ≤ 9223372036854775807) (hp : partsB l = true)
    (hs : ∀ i : Nat, i < l.length → (rdOf ByteArray.empty l (i : Int)).size ≤ 4611686018427387903) (hR : ruleL typ.data.toList = 1) (hvs : entry_Vals.f a0 l1 typ = some vs) (hok : subOk typ l vs) :
    Ev (fun k => eval_Eval.f k 5 typ (⟨#[]⟩ : ByteArray) l [] a0 l1) (if someI (subAt typ (l.map lowS) vs) vs.length = true then 1 else 0) := by
  unfold eval_Eval.f
  rw [may_parts typ l ht hp hs]
  refine Ev.bs (Ev.congr (fun k => if_pos rfl) ?_)
  suffices h : Ev (fun k => eval_eval.f k 5 typ (⟨#[]⟩ : ByteArray) l [] a0 l1) (if someI (subAt typ (l.map lowS) vs) vs.length = true then 1 else 0) from h.bind (Ev.now _)
  refine Ev.step (fun k => by rw [eval_eval.f]) ?_
  have hc : match_Canon.f typ = some (lowS typ, true) := by rw [canon_eq typ hts, if_neg (by rw [hR]; decide)]
  refine Ev.step (fun k => by rw [eval_eval.l0]) ?_
  refine Ev.ifn (c := (0 : Int) < (([] : List S25).length : Int)) (by decide) ?_
  refine Ev.ifn (c := (5 : Int) = 1) (by decide) (Ev.ifn (c := (5 : Int) = 2) (by decide) (Ev.ifn (c := (5 : Int) = 3) (by decide) ?_))
  rw [hc]
  refine Ev.bs (Ev.congr (fun k => if_pos rfl) ?_)
  refine Ev.ifn (c := (5 : Int) = 8) (by decide) (Ev.ifp (c := (5 : Int) = 5) rfl ?_)
  have ho : eval_sub.f 5 typ (⟨#[]⟩ : ByteArray) l [] a0 l1 = some (if someI (subAt typ (l.map lowS) vs) vs.length = true then 1 else 0) := by
    unfold eval_sub.f
    rw [if_pos hts, hR, if_neg (fun h => h rfl), hvs]
    exact if_pos hok
  rw [ho]
  exact Ev.bs (Ev.now _)
theorem some_two (p : Nat → Bool) : someI p 2 = (p 0 || p 1) := by
  unfold someI
  rw [show List.range 2 = [0, 1] from rfl, List.any_cons, List.any_cons, List.any_nil, Bool.or_false]
theorem vals_only (a0 t1 typ v1 v2 : ByteArray) (h1 : t1.size ≤ 1000) (h3 : typ.size ≤ 1000) (e : ((lowS t1).toList == (lowS typ).toList) = true) :
    entry_Vals.f a0 [(⟨t1, [v1, v2]⟩ : S45)] typ = some [v1, v2] := by
  unfold entry_Vals.f
  rw [if_pos ⟨show 1 ≤ 1000000000 by decide, fun i hi => by
    have hi : i < 1 := hi
    have : i = 0 := by omega
    subst this
    exact ⟨show t1.size ≤ _ by omega, show 2 ≤ 1000000000 by decide⟩, by omega⟩]
  have hf : firstI (valsAt [(⟨t1, [v1, v2]⟩ : S45)] typ) ([(⟨t1, [v1, v2]⟩ : S45)] : List S45).length = ((0 : Nat) : Int) := firstI_hit _ _ 0 (show 0 < 1 by decide) e (fun j hj => absurd hj (Nat.not_lt_zero _))
  rw [hf]
  rfl
theorem norm_fold (t v : List UInt8) (hr : ruleL t = 1) (hv : v ≠ []) (hl : v.length ≤ 100) (hf : foldL v = v) : normL t v = some v := by
  unfold normL normO
  rw [if_neg (by rw [not_or]; exact ⟨hv, by omega⟩), hr, if_pos rfl, hf, if_neg hv]
theorem sqR_app (c : UInt8) (hc : c ≠ 32) (r : List UInt8) : ∀ (l : List UInt8) (b : Bool), sqR b (l ++ c :: r) = sqR b l ++ c :: sqR false r
  | [], b => by
    have h0 : sqR b (c :: r) = c :: sqR (decide (c = 32)) r := by rw [sqR, if_neg (fun h => hc h.1)]
    show sqR b (c :: r) = c :: sqR false r
    rw [h0, decide_eq_false hc]
  | e :: l, b => by
    show sqR b (e :: (l ++ c :: r)) = sqR b (e :: l) ++ c :: sqR false r
    have g1 : ∀ t, sqR b (e :: t) = if e = 32 ∧ b = true then sqR true t else e :: sqR (decide (e = 32)) t := fun t => by rw [sqR]
    rw [g1, g1]
    by_cases h : e = 32 ∧ b = true
    · rw [if_pos h, if_pos h, sqR_app c hc r l true]
    · rw [if_neg h, if_neg h, sqR_app c hc r l _]
      rfl
theorem lowB_two (c : UInt8) : lowB (lowB c) = lowB c := byteAll (p := fun c => lowB (lowB c) = lowB c) (by decide +kernel) c
theorem fold_low (a : List UInt8) : (foldL a).map lowB = foldL a := by
  rw [foldL_R, sqR_low, List.map_map]
  congr 1
  exact List.map_congr_left (fun c _ => lowB_two c)
theorem fold_sq (a : List UInt8) : sqR false (foldL a) = foldL a := by rw [foldL_R, sqR_idem]
def xt (c : UInt8) (a : List UInt8) (d : UInt8) : List UInt8 := c :: (foldL a ++ [d])
theorem xt_len (c d : UInt8) (a : List UInt8) (h : a.length ≤ 20) : (xt c a d).length ≤ 22 := by
  have := foldL_len a
  unfold xt
  rw [List.length_cons, List.length_append]
  show (foldL a).length + 1 + 1 ≤ 22
  omega
theorem xt_low (c d : UInt8) (a : List UInt8) (hd : lowB d = d) : (xt c a d).map lowB = xt (lowB c) a d := by
  unfold xt
  rw [List.map_cons, List.map_append, fold_low, List.map_cons, hd]
  rfl
theorem fold_xyz (a b c : List UInt8) : foldL (xt 120 a 49 ++ xt 121 b 50 ++ xt 122 c 51) = xt 120 a 49 ++ xt 121 b 50 ++ xt 122 c 51 := by
  have e : xt 120 a 49 ++ xt 121 b 50 ++ xt 122 c 51 = 120 :: (foldL a ++ 49 :: (121 :: (foldL b ++ 50 :: (122 :: (foldL c ++ 51 :: []))))) := by simp [xt]
  have hl : (xt 120 a 49 ++ xt 121 b 50 ++ xt 122 c 51).map lowB = xt 120 a 49 ++ xt 121 b 50 ++ xt 122 c 51 := by
    rw [List.map_append, List.map_append, xt_low _ _ _ (by decide), xt_low _ _ _ (by decide), xt_low _ _ _ (by decide)]
    rfl
  have h1 : (xt 120 a 49 ++ xt 121 b 50 ++ xt 122 c 51).head? ≠ some 32 := by
    rw [e]; intro h; exact absurd (Option.some.inj h) (by decide)
  have h2 : (xt 120 a 49 ++ xt 121 b 50 ++ xt 122 c 51).getLast? ≠ some 32 := by
    rw [show xt 120 a 49 ++ xt 121 b 50 ++ xt 122 c 51 = (xt 120 a 49 ++ xt 121 b 50 ++ 122 :: foldL c) ++ [51] by simp [xt], List.getLast?_concat]
    intro h; exact absurd (Option.some.inj h) (by decide)
  rw [foldL_R, trim_id _ h1 h2, hl, e]
  rw [show (120 :: (foldL a ++ 49 :: (121 :: (foldL b ++ 50 :: (122 :: (foldL c ++ 51 :: [])))))) = [] ++ 120 :: (foldL a ++ 49 :: ([] ++ 121 :: (foldL b ++ 50 :: ([] ++ 122 :: (foldL c ++ 51 :: []))))) from rfl]
  rw [sqR_app 120 (by decide), sqR_app 49 (by decide), sqR_app 121 (by decide), sqR_app 50 (by decide), sqR_app 122 (by decide), sqR_app 51 (by decide), fold_sq, fold_sq, fold_sq]
  rfl
theorem tri (c d : UInt8) (l : List UInt8) : ((⟨#[c]⟩ : ByteArray) ++ mk l) ++ (⟨#[d]⟩ : ByteArray) = mk (c :: (l ++ [d])) := by
  rw [one_app]
  apply ba_ext
  rw [append_data, mk_data, mk_data]
  rfl
def otherL : List UInt8 := [111, 116, 104, 101, 114]
theorem cn_rule : ruleL (⟨#[67, 78]⟩ : ByteArray).data.toList = 1 := by decide +kernel
theorem other_norm : normL (⟨#[67, 78]⟩ : ByteArray).data.toList otherL = some otherL := by decide +kernel
theorem rd_small {l : List ByteArray} {n : Nat} (h : ∀ p ∈ l, p.size ≤ n) (i : Nat) (hi : i < l.length) : (rdOf ByteArray.empty l (i : Int)).size ≤ n := by
  have e : rdOf ByteArray.empty l (i : Int) ∈ l := by
    unfold rdOf
    rw [Int.toNat_natCast, List.getD_eq_getElem?_getD, List.getElem?_eq_getElem hi]
    exact List.getElem_mem hi
  exact h _ e
theorem sub_ev (l : List ByteArray) (V : List UInt8) (r : Bool) (hp : partsB l = true) (hl2 : 2 ≤ l.length) (hl8 : l.length ≤ 8) (hsz : ∀ p ∈ l, p.size ≤ 100) (hV : normL (⟨#[67, 78]⟩ : ByteArray).data.toList V = some V) (hVl : V.length ≤ 100)
    (h0 : partedB (mk otherL) (l.map lowS) = r ∨ (r = true)) (h1 : partedB (mk V) (l.map lowS) = r) :
    Ev (fun k => brooklaw7_sub.f k (⟨#[]⟩ : ByteArray) [(⟨(⟨#[99, 110]⟩ : ByteArray), ([mk otherL, mk V] : List ByteArray)⟩ : S45)] l) (if r = true then 1 else 0) := by
  unfold brooklaw7_sub.f
  have hvs := vals_only (⟨#[]⟩ : ByteArray) (⟨#[99, 110]⟩ : ByteArray) (⟨#[67, 78]⟩ : ByteArray) (mk otherL) (mk V) (by decide) (by decide) (by decide +kernel)
  have hok : subOk (⟨#[67, 78]⟩ : ByteArray) l [mk otherL, mk V] := by
    refine ⟨hl2, by omega, fun i hi => Nat.le_trans (rd_small hsz i hi) (by decide), show 2 ≤ 1000000000 by decide, fun i hi => ?_⟩
    have hi : i < 2 := hi
    have hh : i = 0 ∨ i = 1 := by omega
    rcases hh with rfl | rfl
    · show (encO (normL (⟨#[67, 78]⟩ : ByteArray).data.toList otherL)).1.size < _
      rw [other_norm]
      decide
    · show (encO (normL (⟨#[67, 78]⟩ : ByteArray).data.toList V)).1.size < _
      rw [hV]
      show (mk V).size < _
      rw [mk_size]; omega
  have h := eval_parts (⟨#[67, 78]⟩ : ByteArray) (⟨#[]⟩ : ByteArray) l _ _ (by decide +kernel) (by decide) hp (fun i hi => Nat.le_trans (rd_small hsz i hi) (by decide)) cn_rule hvs hok
  have e0 : subAt (⟨#[67, 78]⟩ : ByteArray) (l.map lowS) [mk otherL, mk V] 0 = partedB (mk otherL) (l.map lowS) := by
    show ((encO (normL (⟨#[67, 78]⟩ : ByteArray).data.toList otherL)).2 && partedB (encO (normL (⟨#[67, 78]⟩ : ByteArray).data.toList otherL)).1 (l.map lowS)) = _
    rw [other_norm]
    rfl
  have e1 : subAt (⟨#[67, 78]⟩ : ByteArray) (l.map lowS) [mk otherL, mk V] 1 = partedB (mk V) (l.map lowS) := by
    show ((encO (normL (⟨#[67, 78]⟩ : ByteArray).data.toList V)).2 && partedB (encO (normL (⟨#[67, 78]⟩ : ByteArray).data.toList V)).1 (l.map lowS)) = _
    rw [hV]
    rfl
  have e2 : someI (subAt (⟨#[67, 78]⟩ : ByteArray) (l.map lowS) [mk otherL, mk V]) ([mk otherL, mk V] : List ByteArray).length = r := by
    show someI _ 2 = r
    rw [some_two, e0, e1, h1]
    rcases h0 with h0 | h0
    · rw [h0, Bool.or_self]
    · rw [h0, Bool.or_true]
  rw [e2] at h
  exact h.bind (Ev.now _)
theorem mids_all (l : List ByteArray) : ∀ (n i : Nat), i + n ≤ l.length → (∀ j, i ≤ j → j < i + n → midOk l j = true) → midsFrom l i n = true
  | 0, _, _, _ => rfl
  | n + 1, i, hn, h => by
    unfold midsFrom
    rw [h i (Nat.le_refl i) (by omega), mids_all l n (i + 1) (by omega) (fun j h1 h2 => h j (by omega) (by omega))]
    rfl
theorem parts_shape (a z : ByteArray) (m : List ByteArray) (hs : ∀ p ∈ a :: (m ++ [z]), p.size ≤ 100) (hm : ∀ p ∈ m, p.toList ≠ []) (h2 : m = [] → ¬ (a.toList = [] ∧ z.toList = [])) (h6 : m.length ≤ 6) : partsB (a :: (m ++ [z])) = true := by
  have hl : (a :: (m ++ [z])).length = m.length + 2 := by simp
  unfold partsB
  rw [decide_eq_true (show 2 ≤ (a :: (m ++ [z])).length by omega), decide_eq_true (show (a :: (m ++ [z])).length ≤ 8 by omega)]
  rw [mids_all _ _ 0 (by omega) (fun j h1 hj => by
    have hj : j < m.length + 2 := by omega
    unfold midOk
    rw [decide_eq_true (rd_small hs j (by omega)), Bool.true_and]
    by_cases h3 : 0 < j ∧ j + 1 < (a :: (m ++ [z])).length
    · have hne : ¬ (rdOf ByteArray.empty (a :: (m ++ [z])) (j : Int)).toList = [] := by
        obtain ⟨i, rfl⟩ : ∃ i, j = i + 1 := ⟨j - 1, by omega⟩
        have e : rdOf ByteArray.empty (a :: (m ++ [z])) ((i + 1 : Nat) : Int) ∈ m := by
          unfold rdOf
          rw [Int.toNat_natCast, List.getD_eq_getElem?_getD, List.getElem?_cons_succ, List.getElem?_append_left (by omega), List.getElem?_eq_getElem (by omega)]
          exact List.getElem_mem _
        exact hm _ e
      rw [decide_eq_false hne]
      rfl
    · by_cases h4 : 0 < j
      · rw [decide_eq_false (show ¬ j + 1 < (a :: (m ++ [z])).length from fun h5 => h3 ⟨h4, h5⟩), Bool.and_false]; rfl
      · rw [decide_eq_false h4, Bool.and_false, Bool.false_and]; rfl)]
  by_cases h5 : (a :: (m ++ [z])).length = 2
  · have hm0 : m = [] := List.length_eq_zero_iff.1 (by omega)
    subst hm0
    have hh := h2 rfl
    have e : (decide ((rdOf ByteArray.empty [a, z] 0).toList = []) && decide ((rdOf ByteArray.empty [a, z] 1).toList = [])) = false := by
      cases h : (decide ((rdOf ByteArray.empty [a, z] 0).toList = []) && decide ((rdOf ByteArray.empty [a, z] 1).toList = [])) with
      | false => rfl
      | true => rw [Bool.and_eq_true, decide_eq_true_eq, decide_eq_true_eq] at h; exact absurd h hh
    show (true && true && !(decide ([a, z].length = 2) && (decide ((rdOf ByteArray.empty [a, z] 0).toList = []) && decide ((rdOf ByteArray.empty [a, z] 1).toList = []))) && true) = true
    rw [e, Bool.and_false]
    rfl
  · rw [decide_eq_false h5]
    rfl
theorem lowS_mk (l : List UInt8) : lowS (mk l) = mk (l.map lowB) := by apply ba_ext; rw [lowS_data, mk_data, mk_data]
theorem parts_j1 (P Q : List UInt8) (X Y Z x y z w : List UInt8) (hx : X = 120 :: x) (hy : Y = 121 :: y) (hz : Z = 122 :: z) (hw : z = w ++ [51]) (hP : P.map lowB = X) (hQ : Q.map lowB = Z) (hY : Y.map lowB = Y)
    (lX : X.length ≤ 22) (lY : Y.length ≤ 22) (lZ : Z.length ≤ 22) (hV : foldL (X ++ Y ++ Z) = X ++ Y ++ Z) :
    Ev (fun k => brooklaw7_EvalParts.j1 k (mk P) (mk Y) (mk Q) (⟨#[]⟩ : ByteArray) [(⟨(⟨#[99, 110]⟩ : ByteArray), ([mk otherL, mk (X ++ Y ++ Z)] : List ByteArray)⟩ : S45)]) true := by
  have lP : P.length ≤ 22 := by rw [← List.length_map (f := lowB), hP]; exact lX
  have lQ : Q.length ≤ 22 := by rw [← List.length_map (f := lowB), hQ]; exact lZ
  have nP : P ≠ [] := by intro h; rw [h, hx] at hP; cases hP
  have nQ : Q ≠ [] := by intro h; rw [h, hz] at hQ; cases hQ
  have nY : Y ≠ [] := by rw [hy]; simp
  have lV : (X ++ Y ++ Z).length ≤ 100 := by rw [List.length_append, List.length_append]; omega
  have hN : normL (⟨#[67, 78]⟩ : ByteArray).data.toList (X ++ Y ++ Z) = some (X ++ Y ++ Z) := norm_fold _ _ cn_rule (by rw [hx]; simp) lV hV
  have tn : ∀ l : List UInt8, l ≠ [] → ((mk l).toList = []) = False := fun l h => eq_false (fun e => h (by rwa [mk_toList] at e))
  have te : (⟨#[]⟩ : ByteArray) = mk [] := rfl
  have oX : Lib.hasPrefix otherL X = false := by rw [hx]; rfl
  have oXY : Lib.hasPrefix otherL (X ++ Y) = false := by rw [hx]; rfl
  have oY : (Lib.cut otherL Y).2.2 = false := cut_no _ _ 121 y hy (by decide)
  have tn : ∀ l : List UInt8, l ≠ [] → (mk l).toList ≠ [] := fun l h e => h (by rwa [mk_toList] at e)
  have nQ1 : Q ++ [33] ≠ [] := by simp
  have sz : ∀ l : List UInt8, l.length ≤ 100 → (mk l).size ≤ 100 := fun l h => by rw [mk_size]; exact h
  have z0 : (mk ([] : List UInt8)).size ≤ 100 := by decide
  have zP := sz P (by omega)
  have zQ := sz Q (by omega)
  have zY := sz Y (by omega)
  have zQ1 := sz (Q ++ [33]) (by rw [List.length_append]; show Q.length + 1 ≤ 100; omega)
  have zPY := sz (P ++ Y) (by rw [List.length_append]; omega)
  have zYQ := sz (Y ++ Q) (by rw [List.length_append]; omega)
  have m0 : (mk []).toList = [] := mk_toList []
  have all2 : ∀ a b : ByteArray, a.size ≤ 100 → b.size ≤ 100 → ∀ p ∈ ([a, b] : List ByteArray), p.size ≤ 100 := by
    intro a b ha hb p hp
    rcases List.mem_cons.1 hp with rfl | hp
    · exact ha
    · rcases List.mem_cons.1 hp with rfl | hp
      · exact hb
      · cases hp
  have all3 : ∀ a b c : ByteArray, a.size ≤ 100 → b.size ≤ 100 → c.size ≤ 100 → ∀ p ∈ ([a, b, c] : List ByteArray), p.size ≤ 100 := by
    intro a b c ha hb hc p hp
    rcases List.mem_cons.1 hp with rfl | hp
    · exact ha
    · exact all2 b c hb hc p hp
  have all4 : ∀ a b c d : ByteArray, a.size ≤ 100 → b.size ≤ 100 → c.size ≤ 100 → d.size ≤ 100 → ∀ p ∈ ([a, b, c, d] : List ByteArray), p.size ≤ 100 := by
    intro a b c d ha hb hc hd p hp
    rcases List.mem_cons.1 hp with rfl | hp
    · exact ha
    · exact all3 b c d hb hc hd p hp
  have all5 : ∀ a b c d e : ByteArray, a.size ≤ 100 → b.size ≤ 100 → c.size ≤ 100 → d.size ≤ 100 → e.size ≤ 100 → ∀ p ∈ ([a, b, c, d, e] : List ByteArray), p.size ≤ 100 := by
    intro a b c d e ha hb hc hd he p hp
    rcases List.mem_cons.1 hp with rfl | hp
    · exact ha
    · exact all4 b c d e hb hc hd he p hp
  have ne1 : ∀ a : ByteArray, a.toList ≠ [] → ∀ p ∈ ([a] : List ByteArray), p.toList ≠ [] := by
    intro a ha p hp
    rcases List.mem_cons.1 hp with rfl | hp
    · exact ha
    · cases hp
  have ne2 : ∀ a b : ByteArray, a.toList ≠ [] → b.toList ≠ [] → ∀ p ∈ ([a, b] : List ByteArray), p.toList ≠ [] := by
    intro a b ha hb p hp
    rcases List.mem_cons.1 hp with rfl | hp
    · exact ha
    · exact ne1 b hb p hp
  have ne3 : ∀ a b c : ByteArray, a.toList ≠ [] → b.toList ≠ [] → c.toList ≠ [] → ∀ p ∈ ([a, b, c] : List ByteArray), p.toList ≠ [] := by
    intro a b c ha hb hc p hp
    rcases List.mem_cons.1 hp with rfl | hp
    · exact ha
    · exact ne2 b c hb hc p hp
  have ne0 : ∀ p ∈ ([] : List ByteArray), p.toList ≠ [] := fun p hp => by cases hp
  have lo2 : ∀ a b : List UInt8, ([mk a, mk b] : List ByteArray).map lowS = [mk (a.map lowB), mk (b.map lowB)] := fun a b => by simp only [List.map_cons, List.map_nil, lowS_mk]
  have lo3 : ∀ a b c : List UInt8, ([mk a, mk b, mk c] : List ByteArray).map lowS = [mk (a.map lowB), mk (b.map lowB), mk (c.map lowB)] := fun a b c => by simp only [List.map_cons, List.map_nil, lowS_mk]
  have lo4 : ∀ a b c d : List UInt8, ([mk a, mk b, mk c, mk d] : List ByteArray).map lowS = [mk (a.map lowB), mk (b.map lowB), mk (c.map lowB), mk (d.map lowB)] := fun a b c d => by simp only [List.map_cons, List.map_nil, lowS_mk]
  have lo5 : ∀ a b c d e : List UInt8, ([mk a, mk b, mk c, mk d, mk e] : List ByteArray).map lowS = [mk (a.map lowB), mk (b.map lowB), mk (c.map lowB), mk (d.map lowB), mk (e.map lowB)] := fun a b c d e => by simp only [List.map_cons, List.map_nil, lowS_mk]
  have l0 : ([] : List UInt8).map lowB = [] := rfl
  have hQ1 : (Q ++ [33]).map lowB = Z ++ [33] := by rw [List.map_append, hQ]; rfl
  have hPY : (P ++ Y).map lowB = X ++ Y := by rw [List.map_append, hP, hY]
  have hYQ : (Y ++ Q).map lowB = Y ++ Z := by rw [List.map_append, hQ, hY]
  have E1 := sub_ev [mk P, mk []] (X ++ Y ++ Z) true (parts_shape (mk P) (mk []) [] (all2 _ _ zP z0) ne0 (fun _ h => tn P nP h.1) (by decide)) (show 2 ≤ 2 by decide) (show 2 ≤ 8 by decide) (all2 _ _ zP z0) hN lV (.inr rfl) (by rw [lo2, hP, l0]; exact yes1 hx hy hz)
  have E2 := sub_ev [mk [], mk Q] (X ++ Y ++ Z) true (parts_shape (mk []) (mk Q) [] (all2 _ _ z0 zQ) ne0 (fun _ h => tn Q nQ h.2) (by decide)) (show 2 ≤ 2 by decide) (show 2 ≤ 8 by decide) (all2 _ _ z0 zQ) hN lV (.inr rfl) (by rw [lo2, hQ, l0]; exact yes2 hx hy hz)
  have E3 := sub_ev [mk [], mk Y, mk []] (X ++ Y ++ Z) true (parts_shape (mk []) (mk []) [mk Y] (all3 _ _ _ z0 zY z0) (ne1 _ (tn Y nY)) (fun h => by cases h) (show 1 ≤ 6 by decide)) (show 2 ≤ 3 by decide) (show 3 ≤ 8 by decide) (all3 _ _ _ z0 zY z0) hN lV (.inr rfl) (by rw [lo3, hY, l0]; exact yes3 hx hy hz)
  have E4 := sub_ev [mk P, mk Y, mk Q] (X ++ Y ++ Z) true (parts_shape (mk P) (mk Q) [mk Y] (all3 _ _ _ zP zY zQ) (ne1 _ (tn Y nY)) (fun h => by cases h) (show 1 ≤ 6 by decide)) (show 2 ≤ 3 by decide) (show 3 ≤ 8 by decide) (all3 _ _ _ zP zY zQ) hN lV (.inr rfl) (by rw [lo3, hP, hY, hQ]; exact yes4 hx hy hz)
  have E5 := sub_ev [mk [], mk P, mk Y, mk Q, mk []] (X ++ Y ++ Z) true (parts_shape (mk []) (mk []) [mk P, mk Y, mk Q] (all5 _ _ _ _ _ z0 zP zY zQ z0) (ne3 _ _ _ (tn P nP) (tn Y nY) (tn Q nQ)) (fun h => by cases h) (show 3 ≤ 6 by decide)) (show 2 ≤ 5 by decide) (show 5 ≤ 8 by decide) (all5 _ _ _ _ _ z0 zP zY zQ z0) hN lV (.inr rfl) (by rw [lo5, hP, hY, hQ, l0]; exact yes5 hx hy hz)
  have E6 := sub_ev [mk P, mk Q, mk Y, mk []] (X ++ Y ++ Z) false (parts_shape (mk P) (mk []) [mk Q, mk Y] (all4 _ _ _ _ zP zQ zY z0) (ne2 _ _ (tn Q nQ) (tn Y nY)) (fun h => by cases h) (show 2 ≤ 6 by decide)) (show 2 ≤ 4 by decide) (show 4 ≤ 8 by decide) (all4 _ _ _ _ zP zQ zY z0) hN lV (.inl (by rw [lo4, hP, hY, hQ, l0, pb4, oX]; exact end_f _ _ (mid_f _ _))) (by rw [lo4, hP, hY, hQ, l0]; exact no6 hx hy hz)
  have E7 := sub_ev [mk [], mk Y, mk (Q ++ [33])] (X ++ Y ++ Z) false (parts_shape (mk []) (mk (Q ++ [33])) [mk Y] (all3 _ _ _ z0 zY zQ1) (ne1 _ (tn Y nY)) (fun h => by cases h) (show 1 ≤ 6 by decide)) (show 2 ≤ 3 by decide) (show 3 ≤ 8 by decide) (all3 _ _ _ z0 zY zQ1) hN lV (.inl (by rw [lo3, hY, hQ1, l0, pb3, (part_e _).1, (part_e _).2, mid_t]; exact end_f _ _ oY)) (by rw [lo3, hY, hQ1, l0]; exact no7 hx hy hz w hw)
  have E8 := sub_ev [mk (P ++ Y), mk (Y ++ Q)] (X ++ Y ++ Z) false (parts_shape (mk (P ++ Y)) (mk (Y ++ Q)) [] (all2 _ _ zPY zYQ) ne0 (fun _ h => tn (P ++ Y) (by simp [nP]) h.1) (by decide)) (show 2 ≤ 2 by decide) (show 2 ≤ 8 by decide) (all2 _ _ zPY zYQ) hN lV (.inl (by rw [lo2, hPY, hYQ, pb2, oXY]; rfl)) (by rw [lo2, hPY, hYQ]; exact no8 hx hy hz)
  have ap : mk Q ++ (⟨#[33]⟩ : ByteArray) = mk (Q ++ [33]) := by apply ba_ext; rw [append_data, mk_data, mk_data]
  have ap2 : mk P ++ mk Y = mk (P ++ Y) := by apply ba_ext; rw [append_data, mk_data, mk_data, mk_data]
  have ap3 : mk Y ++ mk Q = mk (Y ++ Q) := by apply ba_ext; rw [append_data, mk_data, mk_data, mk_data]
  refine Ev.step (fun k => by rw [brooklaw7_EvalParts.j1]) ?_
  rw [ap, ap2, ap3]
  refine E1.bind (Ev.ifp (by decide) (E2.bind (Ev.ifp (by decide) (E3.bind (Ev.ifp (by decide) (E4.bind (Ev.ifp (by decide) (E5.bind (Ev.ifp (by decide) (E6.bind (Ev.ifp (by decide) (Ev.ifp (by omega) (E7.bind (Ev.ifp (by decide) (Ev.ifp (by omega) (Ev.ifp (by omega) (E8.bind (Ev.ifp (by decide) (awake7_ev.bind (Ev.now _))))))))))))))))))))
theorem parts_j0t (a0 a1 a2 : ByteArray) (a3 : Bool) : Ev (fun k => brooklaw7_EvalParts.j0 k a0 a1 a2 a3 true) true :=
  Ev.step (fun k => by rw [brooklaw7_EvalParts.j0]) (Ev.congr (fun k => if_pos rfl) (awake7_ev.bind (Ev.now _)))
theorem ext_one (c : UInt8) (l : List UInt8) : (mk (c :: l)).extract 1 (mk (c :: l)).size = mk l := by
  apply ba_ext
  rw [mk_size]
  show ((mk (c :: l)).extract 1 (c :: l).length).data.toList = l
  rw [ByteArray.data_extract, Array.toList_extract]
  show (List.extract (c :: l) 1 (c :: l).length) = l
  rw [List.extract_eq_take_drop]
  simp
theorem parts_j0f (a0 a1 a2 : ByteArray) (a3 : Bool) (h0 : a0.size ≤ 20) (h1 : a1.size ≤ 20) (h2 : a2.size ≤ 20) : Ev (fun k => brooklaw7_EvalParts.j0 k a0 a1 a2 a3 false) true := by
  have f0 := ref_fold a0 (by omega)
  have f1 := ref_fold a1 (by omega)
  have f2 := ref_fold a2 (by omega)
  have l0 := foldL_len a0.data.toList
  have l1 := foldL_len a1.data.toList
  have l2 := foldL_len a2.data.toList
  rw [ba_len] at l0 l1 l2
  have lX := xt_len 120 49 a0.data.toList (by rw [ba_len]; omega)
  have lY := xt_len 121 50 a1.data.toList (by rw [ba_len]; omega)
  have lZ := xt_len 122 51 a2.data.toList (by rw [ba_len]; omega)
  refine Ev.step (fun k => by rw [brooklaw7_EvalParts.j0]) (Ev.congr (fun k => if_neg (by decide)) ?_)
  refine f0.bind ?_
  refine Ev.ifp (by rw [mk_size]; omega) (Ev.ifp (by rw [one_app, mk_size, List.length_cons]; omega) ?_)
  refine f1.bind ?_
  refine Ev.ifp (by rw [mk_size]; omega) (Ev.ifp (by rw [one_app, mk_size, List.length_cons]; omega) ?_)
  refine f2.bind ?_
  refine Ev.ifp (by rw [mk_size]; omega) (Ev.ifp (by rw [one_app, mk_size, List.length_cons]; omega) ?_)
  rw [tri, tri, tri]
  show Ev (fun k => if (mk (xt 120 a0.data.toList 49)).size + (mk (xt 121 a1.data.toList 50)).size ≤ 9223372036854775807 then (if (mk (xt 120 a0.data.toList 49) ++ mk (xt 121 a1.data.toList 50)).size + (mk (xt 122 a2.data.toList 51)).size ≤ 9223372036854775807 then ((some ([(⟨(⟨#[99, 110]⟩ : ByteArray), ([mk otherL, mk (xt 120 a0.data.toList 49) ++ mk (xt 121 a1.data.toList 50) ++ mk (xt 122 a2.data.toList 51)] : List ByteArray)⟩ : S45)] : List S45)).bind fun y549 => if a3 = true then (if 1 ≤ ((mk (xt 120 a0.data.toList 49)).size : Int) then (if 1 + ((mk (xt 120 a0.data.toList 49)).extract 1 (mk (xt 120 a0.data.toList 49)).size).size ≤ 9223372036854775807 then (if 1 ≤ ((mk (xt 122 a2.data.toList 51)).size : Int) then (if 1 + ((mk (xt 122 a2.data.toList 51)).extract 1 (mk (xt 122 a2.data.toList 51)).size).size ≤ 9223372036854775807 then (brooklaw7_EvalParts.j1 k ((⟨#[88]⟩ : ByteArray) ++ ((mk (xt 120 a0.data.toList 49)).extract 1 (mk (xt 120 a0.data.toList 49)).size)) (mk (xt 121 a1.data.toList 50)) ((⟨#[90]⟩ : ByteArray) ++ ((mk (xt 122 a2.data.toList 51)).extract 1 (mk (xt 122 a2.data.toList 51)).size)) (⟨#[]⟩ : ByteArray) y549) else none) else none) else none) else none) else (brooklaw7_EvalParts.j1 k (mk (xt 120 a0.data.toList 49)) (mk (xt 121 a1.data.toList 50)) (mk (xt 122 a2.data.toList 51)) (⟨#[]⟩ : ByteArray) y549)) else none) else none) true
  have ap : mk (xt 120 a0.data.toList 49) ++ mk (xt 121 a1.data.toList 50) = mk (xt 120 a0.data.toList 49 ++ xt 121 a1.data.toList 50) := by apply ba_ext; rw [append_data, mk_data, mk_data, mk_data]
  have ap2 : mk (xt 120 a0.data.toList 49 ++ xt 121 a1.data.toList 50) ++ mk (xt 122 a2.data.toList 51) = mk (xt 120 a0.data.toList 49 ++ xt 121 a1.data.toList 50 ++ xt 122 a2.data.toList 51) := by apply ba_ext; rw [append_data, mk_data, mk_data, mk_data]
  have eX : (mk (xt 120 a0.data.toList 49)).extract 1 (mk (xt 120 a0.data.toList 49)).size = mk (foldL a0.data.toList ++ [49]) := ext_one _ _
  have eZ : (mk (xt 122 a2.data.toList 51)).extract 1 (mk (xt 122 a2.data.toList 51)).size = mk (foldL a2.data.toList ++ [51]) := ext_one _ _
  have sX : (mk (xt 120 a0.data.toList 49)).size ≤ 22 := by rw [mk_size]; exact lX
  have sY : (mk (xt 121 a1.data.toList 50)).size ≤ 22 := by rw [mk_size]; exact lY
  have sZ : (mk (xt 122 a2.data.toList 51)).size ≤ 22 := by rw [mk_size]; exact lZ
  have pX : 1 ≤ (mk (xt 120 a0.data.toList 49)).size := by rw [mk_size]; unfold xt; rw [List.length_cons]; omega
  have pZ : 1 ≤ (mk (xt 122 a2.data.toList 51)).size := by rw [mk_size]; unfold xt; rw [List.length_cons]; omega
  rw [eX, eZ, ap, ap2, one_app, one_app]
  have hYl : (xt 121 a1.data.toList 50).map lowB = xt 121 a1.data.toList 50 := xt_low _ _ _ (by decide)
  have hV := fold_xyz a0.data.toList a1.data.toList a2.data.toList
  have lx : (foldL a0.data.toList ++ [49]).length ≤ 21 := by rw [List.length_append]; show (foldL a0.data.toList).length + 1 ≤ 21; omega
  have lz : (foldL a2.data.toList ++ [51]).length ≤ 21 := by rw [List.length_append]; show (foldL a2.data.toList).length + 1 ≤ 21; omega
  refine Ev.ifp (by omega) (Ev.ifp (by rw [mk_size, List.length_append, ← mk_size, ← mk_size]; omega) (Ev.bs ?_))
  cases a3 with
  | true =>
    refine Ev.ifp rfl (Ev.ifp (by omega) (Ev.ifp (by rw [mk_size]; omega) (Ev.ifp (by omega) (Ev.ifp (by rw [mk_size]; omega) ?_))))
    exact parts_j1 (xt 88 a0.data.toList 49) (xt 90 a2.data.toList 51) _ _ _ _ _ _ _ rfl rfl rfl rfl (xt_low _ _ _ (by decide)) (xt_low _ _ _ (by decide)) hYl lX lY lZ hV
  | false =>
    refine Ev.ifn (by decide) ?_
    exact parts_j1 (xt 120 a0.data.toList 49) (xt 122 a2.data.toList 51) _ _ _ _ _ _ _ rfl rfl rfl rfl (xt_low _ _ _ (by decide)) (xt_low _ _ _ (by decide)) hYl lX lY lZ hV
theorem parts_true (a0 a1 a2 : ByteArray) (a3 : Bool) : ∃ k, brooklaw7_EvalParts.f k a0 a1 a2 a3 = some true := by
  apply Ev.rounds
  unfold brooklaw7_EvalParts.f
  by_cases h0 : a0.size ≤ 20
  · refine Ev.ifn (by omega) ?_
    by_cases h1 : a1.size ≤ 20
    · refine Ev.ifn (by omega) ?_
      by_cases h2 : a2.size ≤ 20
      · rw [decide_eq_false (show ¬ (a2.size : Int) > 20 by omega)]
        exact parts_j0f a0 a1 a2 a3 h0 h1 h2
      · rw [decide_eq_true (show (a2.size : Int) > 20 by omega)]
        exact parts_j0t a0 a1 a2 a3
    · exact Ev.ifp (by omega) (parts_j0t a0 a1 a2 a3)
  · exact Ev.ifp (by omega) (parts_j0t a0 a1 a2 a3)
end Go.Proofs.YthfpaoacjpjnfaaGreatDoor.P

namespace Go.Proofs.YthfpaoacjpjnfaaGreatDoor.evalParts
open Go.ChangeShapes Go.WideShapes Go.ChangeAt Go.RowKit Go.Proofs.YthfpaoacjpjnfaaGreatDoor.P Go.Proofs.YthfpaoacjpjnfaaGreatDoorW.PrintWords
open Go.ChangeMaps (open_string shut_string)
set_option linter.unusedVariables false
set_option maxRecDepth 100000 in
theorem contract (H : Type) (enc : TypeId × Value → H) (W : World) (base : Nat) (args : Array Value) (ds gs : List (DataW H)) (before : List MemPlace)
    (hval0 : ∀ (j : Nat) t v, Tryz.f7.params[j]? = some t → args[j]? = some v → Value.okWide Tryz.prog W .any base t v)
    (hW : DataW.Whole enc Tryz.prog Tryz.f7.params.toList Rows.evalPartsSpec.vars false W args.toList ds gs before)
    (hsz0 : (DataW.weightsEach Tryz.prog (Tryz.f7.params.toList ++ Rows.evalPartsSpec.plain.varTypes Tryz.prog) (ds ++ gs)).all (· ≤ reachBytes) = true) (hG : Gl W) :
    Calls Tryz.prog 7 args W fun e W' => ∃ v, e = .returned v ∧ Rows.evalPartsSpec.post enc Tryz.prog Tryz.f7 false true false false W args v W' := by
  have hsz := hsz0
  have hval := hval0
  have hW' := hW
  obtain ⟨p, q, hA0, hV, rfl, hfz, hnd⟩ := hW
  have hA : DataW.TrodAll enc Tryz.prog W 0 (fun _ => true) true Tryz.f7.params.toList args.toList ds p := hA0
  rw [Tryz.params7] at hA hval hsz
  obtain ⟨v0, vs0, d0, ds0, p0, q0, hargs, rfl, rfl, h0, r0⟩ := trodAll_cons hA
  obtain ⟨v1, vs1, d1, ds1, p1, q1, rfl, rfl, rfl, h1, r1⟩ := trodAll_cons r0
  obtain ⟨v2, vs2, d2, ds2, p2, q2, rfl, rfl, rfl, h2, r2⟩ := trodAll_cons r1
  obtain ⟨v3, vs3, d3, ds3, p3, q3, rfl, rfl, rfl, h3, r3⟩ := trodAll_cons r2
  obtain ⟨rfl, rfl, rfl⟩ := trodAll_nil r3
  obtain rfl : args = #[v0, v1, v2, v3] := by cases args; simp_all
  obtain ⟨rfl, rfl⟩ := trodVars_none hV
  obtain ⟨a0, rfl, rfl, rfl, y0⟩ := open_string Tryz.underlying9 (hval 0 9 v0 rfl rfl) h0
  have w0 : a0.size ≤ 140737488351232 := by
    have z := sized_string hsz (j := 0) (t := 9) rfl rfl
    rw [Array.length_toList] at z
    exact z
  obtain ⟨a1, rfl, rfl, rfl, y1⟩ := open_string Tryz.underlying9 (hval 1 9 v1 rfl rfl) h1
  have w1 : a1.size ≤ 140737488351232 := by
    have z := sized_string hsz (j := 1) (t := 9) rfl rfl
    rw [Array.length_toList] at z
    exact z
  obtain ⟨a2, rfl, rfl, rfl, y2⟩ := open_string Tryz.underlying9 (hval 2 9 v2 rfl rfl) h2
  have w2 : a2.size ≤ 140737488351232 := by
    have z := sized_string hsz (j := 2) (t := 9) rfl rfl
    rw [Array.length_toList] at z
    exact z
  obtain ⟨a3, rfl, rfl, rfl⟩ := open_bool Tryz.underlying4 (hval 3 4 v3 rfl rfl) h3
  clear hA0 hval0 hsz0 hsz
  have walk : Calls Tryz.prog 7 #[.string a0, .string a1, .string a2, .bool a3] W fun e w' => e = .returned (.bool true) ∧ Below W.heap.size W w' := (by
    obtain ⟨k, hk⟩ := parts_true a0 a1 a2 a3
    exact brooklaw7_EvalParts.calls k a0 a1 a2 a3 true W hG hk)
  refine walk.mono fun e W' ⟨he, bel⟩ => ?_
  subst he
  exact ⟨_, rfl, _, _, _, [], _, [], hW', trodAll_mk1 (shut_bool Tryz.underlying4 _), (trodAll_cons_mk (shut_string Tryz.underlying9 y0) (trodAll_cons_mk (shut_string Tryz.underlying9 y1) (trodAll_cons_mk (shut_string Tryz.underlying9 y2) (trodAll_cons_mk (shut_bool Tryz.underlying4 _) trodAll_mk0)))), rfl, bel.frame _, fun h => by cases h⟩
theorem reads (os : Os) {H : Type} (enc : TypeId × Value → H) : ∃ places, DataW.whole enc Tryz.prog ((laidWorld os).forCall (fun _ _ => 0) ⟨#[], #[.string ByteArray.empty, .string ByteArray.empty, .string ByteArray.empty, .bool false], []⟩).memory Tryz.f7.params.toList Rows.evalPartsSpec.vars false (#[.string ByteArray.empty, .string ByteArray.empty, .string ByteArray.empty, .bool false] : Array Value).toList 8 = some ([.lit (.string []), .lit (.string []), .lit (.string []), .lit (.bool false)], [], places) :=
  ⟨[], by kernel_rfl⟩
set_option maxRecDepth 100000 in
theorem lifted (os : Os) (started : os.Started) (H : Type) (enc : TypeId × Value → H) (F : Stop.Interp) :
    ReturnsInHanded {} Tryz.checked os 7 .any ((OpenSpec.ofChange Rows.evalPartsSpec).preRow enc Tryz.prog Tryz.f7 Rows.evalPartsRow.domain false Rows.evalPartsRow.laid) (((OpenSpec.ofChange Rows.evalPartsSpec).at F).post enc Tryz.prog Tryz.f7 false true false false) := by
  obtain ⟨places, hx⟩ := reads os enc
  refine returnsInHanded_of_row (C := Tryz.checked) (s := OpenSpec.ofChange Rows.evalPartsSpec) own started (by kernel_rfl) Tryz.func7
    (witness_row_at (enc := enc) (C := Tryz.checked) false (laidWorld os) #[.string ByteArray.empty, .string ByteArray.empty, .string ByteArray.empty, .bool false] (World.laidAll_os _ _ _) (by kernel_rfl) (by kernel_rfl) (by kernel_rfl)
      (OpenSpec.preRow_of_cond 8 hx (by kernel_rfl) (fun k hk => by cases hk) (by kernel_rfl) (laid_met os _))) ?_
  intro W base args ds gs before hval hW _ _ hsz hL hsh _
  exact contract H enc W base args ds gs before hval hW hsz (gl_of hL hsh)
theorem said : Rows.EvalPartsSaid :=
  OpenClaim.holds_of_cond 7 Tryz.f7 rfl rfl rfl rfl rfl rfl rfl ⟨rfl, rfl, rfl, rfl, rfl⟩ rfl rfl rfl rfl rfl (by kernel_rfl) Tryz.func7 (by kernel_rfl)
    (of_decide_eq_true (by kernel_rfl)) (by unfold Func.isWrapper; first | (rw [if_pos (by decide +kernel)]; kernel_rfl) | (rw [if_neg (by decide +kernel)]; exact ⟨rfl, rfl⟩))
    (fun os started H enc _ F => by rw [OpenClaim.pre_eq_preRow]; exact lifted os started H enc F)
theorem plain (f : FuncId) (fn : Func) (hf : Tryz.pinned.checked.prog.funcNamed "brook/brooklaw7.EvalParts" = some f) (hfn : Tryz.pinned.checked.prog.funcs[f]? = some fn) :
    true = Tryz.pinned.checked.prog.looks [] ∧ ∀ (j : Nat) t, fn.params[j]? = some t → Tryz.pinned.checked.prog.wantsStandIn t = false := by
  obtain rfl : f = 7 := Option.some.inj ((show Tryz.prog.funcNamed "brook/brooklaw7.EvalParts" = some 7 by kernel_rfl).symm.trans hf) |>.symm
  obtain rfl : fn = Tryz.f7 := (Option.some.inj (Tryz.func7.symm.trans hfn)).symm
  refine ⟨by kernel_rfl, fun j t ht => ?_⟩
  rw [Tryz.params7] at ht
  have hm : t ∈ [9, 9, 9, 4] := by simpa using Array.mem_of_getElem? ht
  have hall : ([9, 9, 9, 4].all fun u => !Tryz.prog.wantsStandIn u) = true := by kernel_rfl
  exact (show Tryz.prog.wantsStandIn t = false by simpa using List.all_eq_true.1 hall t hm)
theorem card : Rows.EvalPartsCardSaid :=
  Claim7.holds_tied_plain_at .later [] _ _ _ _ said (fun _ h => by cases h) (by kernel_rfl) (fun _ h => by cases h) evalParts_row_tie rfl ⟨rfl, rfl⟩ (by kernel_rfl) rfl plain (by kernel_rfl)
#print axioms card
end Go.Proofs.YthfpaoacjpjnfaaGreatDoor.evalParts
namespace Go.Proofs.YthfpaoacjpjnfaaGreatDoor
theorem evalParts_card : Rows.EvalPartsCardSaid := evalParts.card
end Go.Proofs.YthfpaoacjpjnfaaGreatDoor
