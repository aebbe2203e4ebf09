/- brooklaw7.EvalOrder tells true at every input -/
import Derived.Test.YthfpaoacjpjnfaaGreatDoorMEOrder2
import Derived.Test.YthfpaoacjpjnfaaGreatDoorMEOrder5
import Derived.Test.YthfpaoacjpjnfaaGreatDoorMEOrder4
import Derived.Test.YthfpaoacjpjnfaaGreatDoorCards
import Derived.Test.YthfpaoacjpjnfaaGreatDoorTie
import Derived.WalkKit
import Derived.ProofKit
import Derived.OpenShut
import Derived.ShutString
import Derived.ChangeOld
import Derived.ChangeSame
import Derived.Below
import Derived.SizedLaws
import Derived.Deep.DeepHandedRow
import Derived.JoinedCond
import Derived.SevenTiedAt
import Derived.Lay
namespace Go.Proofs.YthfpaoacjpjnfaaGreatDoor.P
open Go.RowKit Go.Proofs.YthfpaoacjpjnfaaGreatDoorW.PrintWords Go.Proofs.YthfpaoacjpjnfaaGreatDoorW.PrintLast Go.Proofs.YthfpaoacjpjnfaaGreatDoorW.PrintMore
attribute [local go_sem] max2_int min2_int max_two min_two max_three min_three max_four min_four
set_option linter.unusedVariables false
set_option linter.unusedSimpArgs false
def brooklaw7_EvalOrder.j0 : Nat → Int → Int → ByteArray → ByteArray → Bool → Bool → ByteArray → List (S45) → Option (Bool)
 | 0, _, _, _, _, _, _, _, _ => none
 | k + 1, x7, x8, x10, x11, x12, x13, x599000, x599001 => (eval_Eval.f k 4 x10 x11 ([] : List ByteArray) ([] : List (S25)) x599000 x599001).bind fun t604 => ((eval_Eval.f k 6 x10 x11 ([] : List ByteArray) ([] : List (S25)) x599000 x599001).bind fun t605 => ((eval_Eval.f k 7 x10 x11 ([] : List ByteArray) ([] : List (S25)) x599000 x599001).bind fun t606 => (if ((t604 == 1) == (x7 == x8)) = true then (if ((t605 == 1) == (!x12)) = true then (if ((t606 == 1) == (!x13)) = true then (if t604 = 2 then (some false) else (if t605 = 2 then (some false) else (if t606 = 2 then (some false) else ((brooklaw7_awake.f k).bind fun t607 => (some t607))))) else (some false)) else (some false)) else (some false))))
def brooklaw7_EvalOrder.f (k : Nat) (a0 : Int) (a1 : Int) (a2 : Bool) : Option (Bool) := (brookref1_Digits.f (Int.tmod a0 1000000)).bind fun t587 => ((brookref1_Digits.f (Int.tmod a0 1000000)).bind fun t591 => (if 1 + t591.size ≤ 9223372036854775807 then ((some (([(⟨(⟨#[117, 105, 100, 110, 117, 109, 98, 101, 114]⟩ : ByteArray), (([t587] : List ByteArray))⟩ : S45), (⟨(⟨#[99, 110]⟩ : ByteArray), (([(⟨#[99]⟩ : ByteArray) ++ t591] : List ByteArray))⟩ : S45)] : List (S45)) : List (S45))).bind fun y595 => ((brookref1_Digits.f (Int.tmod a1 1000000)).bind fun t599 => (if a2 = true then (if 1 + t599.size ≤ 9223372036854775807 then ((brookref1_Digits.f (Int.tmod a0 1000000)).bind fun t600 => (if 1 + t600.size ≤ 9223372036854775807 then ((brookref1_Digits.f (Int.tmod a1 1000000)).bind fun t601 => (if 1 + t601.size ≤ 9223372036854775807 then ((brookref1_Digits.f (Int.tmod a0 1000000)).bind fun t602 => (if 1 + t602.size ≤ 9223372036854775807 then ((brookref1_Digits.f (Int.tmod a1 1000000)).bind fun t603 => (if 1 + t603.size ≤ 9223372036854775807 then (brooklaw7_EvalOrder.j0 k (Int.tmod a0 1000000) (Int.tmod a1 1000000) (⟨#[99, 110]⟩ : ByteArray) ((⟨#[67]⟩ : ByteArray) ++ t599) (Op.bytesLess (((⟨#[99]⟩ : ByteArray) ++ t600).toList) (((⟨#[99]⟩ : ByteArray) ++ t601).toList)) (Op.bytesLess (((⟨#[99]⟩ : ByteArray) ++ t603).toList) (((⟨#[99]⟩ : ByteArray) ++ t602).toList)) (⟨#[]⟩ : ByteArray) y595) else (none))) else (none))) else (none))) else (none))) else (none)) else (brooklaw7_EvalOrder.j0 k (Int.tmod a0 1000000) (Int.tmod a1 1000000) (⟨#[117, 105, 100, 78, 117, 109, 98, 101, 114]⟩ : ByteArray) t599 (decide ((Int.tmod a0 1000000) < (Int.tmod a1 1000000))) (decide ((Int.tmod a0 1000000) > (Int.tmod a1 1000000))) (⟨#[]⟩ : ByteArray) y595)))) else (none)))
theorem bytes_gtr : ∀ a b : List UInt8, (!(Op.bytesLess a b || a == b)) = Op.bytesLess b a
 | [], [] => rfl
 | [], y :: ys => rfl
 | x :: xs, [] => rfl
 | x :: xs, y :: ys => by
  have ih := bytes_gtr xs ys
  have hxy : (x :: xs == y :: ys) = (x == y && xs == ys) := rfl
  rw [hxy]
  unfold Op.bytesLess
  by_cases h1 : x < y
  ·have h2 : ¬ y < x := by rw [UInt8.lt_iff_toNat_lt] at *; omega
   have h3 : (x == y) = false := beq_eq_false_iff_ne.2 (fun e => by rw [e, UInt8.lt_iff_toNat_lt] at h1; omega)
   have h4 : (y == x) = false := beq_eq_false_iff_ne.2 (fun e => by rw [e, UInt8.lt_iff_toNat_lt] at h1; omega)
   simp [h1, h2, h3, h4]
  ·by_cases h2 : y < x
   ·have h3 : (x == y) = false := beq_eq_false_iff_ne.2 (fun e => by rw [e, UInt8.lt_iff_toNat_lt] at h2; omega)
    have h4 : (y == x) = false := beq_eq_false_iff_ne.2 (fun e => by rw [e, UInt8.lt_iff_toNat_lt] at h2; omega)
    simp [h1, h2, h3, h4]
   ·have e : x = y := UInt8.toNat_inj.1 (by rw [UInt8.lt_iff_toNat_lt] at h1 h2; omega)
    subst e
    simpa [h1] using ih
theorem binOp_gtr_less (t : TypeId) (a b : ByteArray) : binOp .gtr t (.string a) (.string b) = pure (.bool (Op.bytesLess b.toList a.toList)) := by rw [← bytes_gtr]; simp [binOp, Op.stringOp]
attribute [local go_sem] binOp_gtr_less
set_option maxHeartbeats 8000000 in
set_option maxRecDepth 100000 in
theorem brooklaw7_EvalOrder.calls (k : Nat) (a0 : Int) (a1 : Int) (a2 : Bool) (r : Bool) (w : World) (hG : Gl w) (h : brooklaw7_EvalOrder.f k a0 a1 a2 = some r) (hr : r = true := by rfl) :
  Calls Tryz.prog 9 #[.int .i64 a0, .int .i64 a1, .bool a2] w fun e w' => e = .returned (.bool r) ∧ Below w.heap.size w w' := by
 have HRT := Aside0.mk hr
 clear hr
 have hu45 := Tryz.underlying45
 have hu28 := Tryz.underlying28
 have hu25 := Tryz.underlying25
 have HB := Aside0.mk (Below.refl w.heap.size w)
 have HG := Aside0.mk hG
 clear hG
 have H : ((brookref1_Digits.f (Int.tmod a0 1000000)).bind fun t587 => ((brookref1_Digits.f (Int.tmod a0 1000000)).bind fun t591 => (if 1 + t591.size ≤ 9223372036854775807 then ((some (([(⟨(⟨#[117, 105, 100, 110, 117, 109, 98, 101, 114]⟩ : ByteArray), (([t587] : List ByteArray))⟩ : S45), (⟨(⟨#[99, 110]⟩ : ByteArray), (([(⟨#[99]⟩ : ByteArray) ++ t591] : List ByteArray))⟩ : S45)] : List (S45)) : List (S45))).bind fun y595 => ((brookref1_Digits.f (Int.tmod a1 1000000)).bind fun t599 => (if a2 = true then (if 1 + t599.size ≤ 9223372036854775807 then ((brookref1_Digits.f (Int.tmod a0 1000000)).bind fun t600 => (if 1 + t600.size ≤ 9223372036854775807 then ((brookref1_Digits.f (Int.tmod a1 1000000)).bind fun t601 => (if 1 + t601.size ≤ 9223372036854775807 then ((brookref1_Digits.f (Int.tmod a0 1000000)).bind fun t602 => (if 1 + t602.size ≤ 9223372036854775807 then ((brookref1_Digits.f (Int.tmod a1 1000000)).bind fun t603 => (if 1 + t603.size ≤ 9223372036854775807 then (brooklaw7_EvalOrder.j0 k (Int.tmod a0 1000000) (Int.tmod a1 1000000) (⟨#[99, 110]⟩ : ByteArray) ((⟨#[67]⟩ : ByteArray) ++ t599) (Op.bytesLess (((⟨#[99]⟩ : ByteArray) ++ t600).toList) (((⟨#[99]⟩ : ByteArray) ++ t601).toList)) (Op.bytesLess (((⟨#[99]⟩ : ByteArray) ++ t603).toList) (((⟨#[99]⟩ : ByteArray) ++ t602).toList)) (⟨#[]⟩ : ByteArray) y595) else (none))) else (none))) else (none))) else (none))) else (none)) else (brooklaw7_EvalOrder.j0 k (Int.tmod a0 1000000) (Int.tmod a1 1000000) (⟨#[117, 105, 100, 78, 117, 109, 98, 101, 114]⟩ : ByteArray) t599 (decide ((Int.tmod a0 1000000) < (Int.tmod a1 1000000))) (decide ((Int.tmod a0 1000000) > (Int.tmod a1 1000000))) (⟨#[]⟩ : ByteArray) y595)))) else (none)))) = some r := h
 clear h
 replace H := Option.bind_eq_some_iff.mp H
 obtain ⟨t587, A40, H⟩ := H
 replace H : ((brookref1_Digits.f (Int.tmod a0 1000000)).bind fun t591 => (if 1 + t591.size ≤ 9223372036854775807 then ((some (([(⟨(⟨#[117, 105, 100, 110, 117, 109, 98, 101, 114]⟩ : ByteArray), (([t587] : List ByteArray))⟩ : S45), (⟨(⟨#[99, 110]⟩ : ByteArray), (([(⟨#[99]⟩ : ByteArray) ++ t591] : List ByteArray))⟩ : S45)] : List (S45)) : List (S45))).bind fun y595 => ((brookref1_Digits.f (Int.tmod a1 1000000)).bind fun t599 => (if a2 = true then (if 1 + t599.size ≤ 9223372036854775807 then ((brookref1_Digits.f (Int.tmod a0 1000000)).bind fun t600 => (if 1 + t600.size ≤ 9223372036854775807 then ((brookref1_Digits.f (Int.tmod a1 1000000)).bind fun t601 => (if 1 + t601.size ≤ 9223372036854775807 then ((brookref1_Digits.f (Int.tmod a0 1000000)).bind fun t602 => (if 1 + t602.size ≤ 9223372036854775807 then ((brookref1_Digits.f (Int.tmod a1 1000000)).bind fun t603 => (if 1 + t603.size ≤ 9223372036854775807 then (brooklaw7_EvalOrder.j0 k (Int.tmod a0 1000000) (Int.tmod a1 1000000) (⟨#[99, 110]⟩ : ByteArray) ((⟨#[67]⟩ : ByteArray) ++ t599) (Op.bytesLess (((⟨#[99]⟩ : ByteArray) ++ t600).toList) (((⟨#[99]⟩ : ByteArray) ++ t601).toList)) (Op.bytesLess (((⟨#[99]⟩ : ByteArray) ++ t603).toList) (((⟨#[99]⟩ : ByteArray) ++ t602).toList)) (⟨#[]⟩ : ByteArray) y595) else (none))) else (none))) else (none))) else (none))) else (none)) else (brooklaw7_EvalOrder.j0 k (Int.tmod a0 1000000) (Int.tmod a1 1000000) (⟨#[117, 105, 100, 78, 117, 109, 98, 101, 114]⟩ : ByteArray) t599 (decide ((Int.tmod a0 1000000) < (Int.tmod a1 1000000))) (decide ((Int.tmod a0 1000000) > (Int.tmod a1 1000000))) (⟨#[]⟩ : ByteArray) y595)))) else (none))) = some r := H
 have A4 := Aside0.mk A40
 clear A40
 obtain ⟨y588, hy588⟩ : ∃ y_ : List ByteArray, y_ = (([t587] : List ByteArray)) := ⟨_, rfl⟩
 replace H : ((brookref1_Digits.f (Int.tmod a0 1000000)).bind fun t591 => (if 1 + t591.size ≤ 9223372036854775807 then ((some (([(⟨(⟨#[117, 105, 100, 110, 117, 109, 98, 101, 114]⟩ : ByteArray), y588⟩ : S45), (⟨(⟨#[99, 110]⟩ : ByteArray), (([(⟨#[99]⟩ : ByteArray) ++ t591] : List ByteArray))⟩ : S45)] : List (S45)) : List (S45))).bind fun y595 => ((brookref1_Digits.f (Int.tmod a1 1000000)).bind fun t599 => (if a2 = true then (if 1 + t599.size ≤ 9223372036854775807 then ((brookref1_Digits.f (Int.tmod a0 1000000)).bind fun t600 => (if 1 + t600.size ≤ 9223372036854775807 then ((brookref1_Digits.f (Int.tmod a1 1000000)).bind fun t601 => (if 1 + t601.size ≤ 9223372036854775807 then ((brookref1_Digits.f (Int.tmod a0 1000000)).bind fun t602 => (if 1 + t602.size ≤ 9223372036854775807 then ((brookref1_Digits.f (Int.tmod a1 1000000)).bind fun t603 => (if 1 + t603.size ≤ 9223372036854775807 then (brooklaw7_EvalOrder.j0 k (Int.tmod a0 1000000) (Int.tmod a1 1000000) (⟨#[99, 110]⟩ : ByteArray) ((⟨#[67]⟩ : ByteArray) ++ t599) (Op.bytesLess (((⟨#[99]⟩ : ByteArray) ++ t600).toList) (((⟨#[99]⟩ : ByteArray) ++ t601).toList)) (Op.bytesLess (((⟨#[99]⟩ : ByteArray) ++ t603).toList) (((⟨#[99]⟩ : ByteArray) ++ t602).toList)) (⟨#[]⟩ : ByteArray) y595) else (none))) else (none))) else (none))) else (none))) else (none)) else (brooklaw7_EvalOrder.j0 k (Int.tmod a0 1000000) (Int.tmod a1 1000000) (⟨#[117, 105, 100, 78, 117, 109, 98, 101, 114]⟩ : ByteArray) t599 (decide ((Int.tmod a0 1000000) < (Int.tmod a1 1000000))) (decide ((Int.tmod a0 1000000) > (Int.tmod a1 1000000))) (⟨#[]⟩ : ByteArray) y595)))) else (none))) = some r := by first | (rw [hy588]; with_reducible exact H) | (have H2_ := (Option.bind_some _ _).symm.trans H; rw [hy588]; with_reducible exact H2_) | (have H2_ := (Option.bind_some _ _).symm.trans H; with_reducible exact H2_) | with_reducible exact H | (rw [hy588]; exact H) | exact H
 have Ny588 := Aside0.mk hy588
 clear hy588
 replace H := Option.bind_eq_some_iff.mp H
 obtain ⟨t591, A50, H⟩ := H
 replace H : (if 1 + t591.size ≤ 9223372036854775807 then ((some (([(⟨(⟨#[117, 105, 100, 110, 117, 109, 98, 101, 114]⟩ : ByteArray), y588⟩ : S45), (⟨(⟨#[99, 110]⟩ : ByteArray), (([(⟨#[99]⟩ : ByteArray) ++ t591] : List ByteArray))⟩ : S45)] : List (S45)) : List (S45))).bind fun y595 => ((brookref1_Digits.f (Int.tmod a1 1000000)).bind fun t599 => (if a2 = true then (if 1 + t599.size ≤ 9223372036854775807 then ((brookref1_Digits.f (Int.tmod a0 1000000)).bind fun t600 => (if 1 + t600.size ≤ 9223372036854775807 then ((brookref1_Digits.f (Int.tmod a1 1000000)).bind fun t601 => (if 1 + t601.size ≤ 9223372036854775807 then ((brookref1_Digits.f (Int.tmod a0 1000000)).bind fun t602 => (if 1 + t602.size ≤ 9223372036854775807 then ((brookref1_Digits.f (Int.tmod a1 1000000)).bind fun t603 => (if 1 + t603.size ≤ 9223372036854775807 then (brooklaw7_EvalOrder.j0 k (Int.tmod a0 1000000) (Int.tmod a1 1000000) (⟨#[99, 110]⟩ : ByteArray) ((⟨#[67]⟩ : ByteArray) ++ t599) (Op.bytesLess (((⟨#[99]⟩ : ByteArray) ++ t600).toList) (((⟨#[99]⟩ : ByteArray) ++ t601).toList)) (Op.bytesLess (((⟨#[99]⟩ : ByteArray) ++ t603).toList) (((⟨#[99]⟩ : ByteArray) ++ t602).toList)) (⟨#[]⟩ : ByteArray) y595) else (none))) else (none))) else (none))) else (none))) else (none)) else (brooklaw7_EvalOrder.j0 k (Int.tmod a0 1000000) (Int.tmod a1 1000000) (⟨#[117, 105, 100, 78, 117, 109, 98, 101, 114]⟩ : ByteArray) t599 (decide ((Int.tmod a0 1000000) < (Int.tmod a1 1000000))) (decide ((Int.tmod a0 1000000) > (Int.tmod a1 1000000))) (⟨#[]⟩ : ByteArray) y595)))) else (none)) = some r := H
 have A5 := Aside0.mk A50
 clear A50
 by_cases c6 : 1 + t591.size ≤ 9223372036854775807
 ·rw [if_pos c6] at H
  have c6b0 := eq_true c6
  have c6b1 : decide (1 + t591.size ≤ 9223372036854775807) = true := decide_eq_true c6
  try have c6b2 : (9223372036854775807 < 1 + t591.size) = False := eq_false (Nat.not_lt.2 c6)
  obtain ⟨y592, hy592⟩ : ∃ y_ : List ByteArray, y_ = (([(⟨#[99]⟩ : ByteArray) ++ t591] : List ByteArray)) := ⟨_, rfl⟩
  replace H : ((some (([(⟨(⟨#[117, 105, 100, 110, 117, 109, 98, 101, 114]⟩ : ByteArray), y588⟩ : S45), (⟨(⟨#[99, 110]⟩ : ByteArray), y592⟩ : S45)] : List (S45)) : List (S45))).bind fun y595 => ((brookref1_Digits.f (Int.tmod a1 1000000)).bind fun t599 => (if a2 = true then (if 1 + t599.size ≤ 9223372036854775807 then ((brookref1_Digits.f (Int.tmod a0 1000000)).bind fun t600 => (if 1 + t600.size ≤ 9223372036854775807 then ((brookref1_Digits.f (Int.tmod a1 1000000)).bind fun t601 => (if 1 + t601.size ≤ 9223372036854775807 then ((brookref1_Digits.f (Int.tmod a0 1000000)).bind fun t602 => (if 1 + t602.size ≤ 9223372036854775807 then ((brookref1_Digits.f (Int.tmod a1 1000000)).bind fun t603 => (if 1 + t603.size ≤ 9223372036854775807 then (brooklaw7_EvalOrder.j0 k (Int.tmod a0 1000000) (Int.tmod a1 1000000) (⟨#[99, 110]⟩ : ByteArray) ((⟨#[67]⟩ : ByteArray) ++ t599) (Op.bytesLess (((⟨#[99]⟩ : ByteArray) ++ t600).toList) (((⟨#[99]⟩ : ByteArray) ++ t601).toList)) (Op.bytesLess (((⟨#[99]⟩ : ByteArray) ++ t603).toList) (((⟨#[99]⟩ : ByteArray) ++ t602).toList)) (⟨#[]⟩ : ByteArray) y595) else (none))) else (none))) else (none))) else (none))) else (none)) else (brooklaw7_EvalOrder.j0 k (Int.tmod a0 1000000) (Int.tmod a1 1000000) (⟨#[117, 105, 100, 78, 117, 109, 98, 101, 114]⟩ : ByteArray) t599 (decide ((Int.tmod a0 1000000) < (Int.tmod a1 1000000))) (decide ((Int.tmod a0 1000000) > (Int.tmod a1 1000000))) (⟨#[]⟩ : ByteArray) y595)))) = some r := by first | (rw [hy592]; with_reducible exact H) | (have H2_ := (Option.bind_some _ _).symm.trans H; rw [hy592]; with_reducible exact H2_) | (have H2_ := (Option.bind_some _ _).symm.trans H; with_reducible exact H2_) | with_reducible exact H | (rw [hy592]; exact H) | exact H
  have Ny592 := Aside0.mk hy592
  clear hy592
  obtain ⟨y595, hy595⟩ : ∃ y_ : List (S45), y_ = (([(⟨(⟨#[117, 105, 100, 110, 117, 109, 98, 101, 114]⟩ : ByteArray), y588⟩ : S45), (⟨(⟨#[99, 110]⟩ : ByteArray), y592⟩ : S45)] : List (S45))) := ⟨_, rfl⟩
  replace H : ((brookref1_Digits.f (Int.tmod a1 1000000)).bind fun t599 => (if a2 = true then (if 1 + t599.size ≤ 9223372036854775807 then ((brookref1_Digits.f (Int.tmod a0 1000000)).bind fun t600 => (if 1 + t600.size ≤ 9223372036854775807 then ((brookref1_Digits.f (Int.tmod a1 1000000)).bind fun t601 => (if 1 + t601.size ≤ 9223372036854775807 then ((brookref1_Digits.f (Int.tmod a0 1000000)).bind fun t602 => (if 1 + t602.size ≤ 9223372036854775807 then ((brookref1_Digits.f (Int.tmod a1 1000000)).bind fun t603 => (if 1 + t603.size ≤ 9223372036854775807 then (brooklaw7_EvalOrder.j0 k (Int.tmod a0 1000000) (Int.tmod a1 1000000) (⟨#[99, 110]⟩ : ByteArray) ((⟨#[67]⟩ : ByteArray) ++ t599) (Op.bytesLess (((⟨#[99]⟩ : ByteArray) ++ t600).toList) (((⟨#[99]⟩ : ByteArray) ++ t601).toList)) (Op.bytesLess (((⟨#[99]⟩ : ByteArray) ++ t603).toList) (((⟨#[99]⟩ : ByteArray) ++ t602).toList)) (⟨#[]⟩ : ByteArray) y595) else (none))) else (none))) else (none))) else (none))) else (none)) else (brooklaw7_EvalOrder.j0 k (Int.tmod a0 1000000) (Int.tmod a1 1000000) (⟨#[117, 105, 100, 78, 117, 109, 98, 101, 114]⟩ : ByteArray) t599 (decide ((Int.tmod a0 1000000) < (Int.tmod a1 1000000))) (decide ((Int.tmod a0 1000000) > (Int.tmod a1 1000000))) (⟨#[]⟩ : ByteArray) y595))) = some r := by first | (rw [hy595]; with_reducible exact H) | (have H2_ := (Option.bind_some _ _).symm.trans H; rw [hy595]; with_reducible exact H2_) | (have H2_ := (Option.bind_some _ _).symm.trans H; with_reducible exact H2_) | with_reducible exact H | (rw [hy595]; exact H) | exact H
  have Ny595 := Aside0.mk hy595
  clear hy595
  replace H := Option.bind_eq_some_iff.mp H
  obtain ⟨t599, A70, H⟩ := H
  replace H : (if a2 = true then (if 1 + t599.size ≤ 9223372036854775807 then ((brookref1_Digits.f (Int.tmod a0 1000000)).bind fun t600 => (if 1 + t600.size ≤ 9223372036854775807 then ((brookref1_Digits.f (Int.tmod a1 1000000)).bind fun t601 => (if 1 + t601.size ≤ 9223372036854775807 then ((brookref1_Digits.f (Int.tmod a0 1000000)).bind fun t602 => (if 1 + t602.size ≤ 9223372036854775807 then ((brookref1_Digits.f (Int.tmod a1 1000000)).bind fun t603 => (if 1 + t603.size ≤ 9223372036854775807 then (brooklaw7_EvalOrder.j0 k (Int.tmod a0 1000000) (Int.tmod a1 1000000) (⟨#[99, 110]⟩ : ByteArray) ((⟨#[67]⟩ : ByteArray) ++ t599) (Op.bytesLess (((⟨#[99]⟩ : ByteArray) ++ t600).toList) (((⟨#[99]⟩ : ByteArray) ++ t601).toList)) (Op.bytesLess (((⟨#[99]⟩ : ByteArray) ++ t603).toList) (((⟨#[99]⟩ : ByteArray) ++ t602).toList)) (⟨#[]⟩ : ByteArray) y595) else (none))) else (none))) else (none))) else (none))) else (none)) else (brooklaw7_EvalOrder.j0 k (Int.tmod a0 1000000) (Int.tmod a1 1000000) (⟨#[117, 105, 100, 78, 117, 109, 98, 101, 114]⟩ : ByteArray) t599 (decide ((Int.tmod a0 1000000) < (Int.tmod a1 1000000))) (decide ((Int.tmod a0 1000000) > (Int.tmod a1 1000000))) (⟨#[]⟩ : ByteArray) y595)) = some r := H
  have A7 := Aside0.mk A70
  clear A70
  have HC8 := Aside0.mk H
  clear H
  go_enter Tryz.func9, Tryz.ntmps9
  go_upto_if 40 with (first | ((with_reducible refine gate_callee (f := 23) rfl ?_); refine goesL_ (some 22) rfl rfl Tryz.func23 (by kernel_rfl) rfl #[.int .i64 (Int.tmod a0 1000000)] rfl (by (try simp only [List.map_toArray, List.map_cons, List.map_nil]); first | done | rfl | (simp only [List.length_drop, List.length_take]; rfl)) ?_; (with_reducible refine (brookref1_Digits.calls (Int.tmod a0 1000000) t587 _ A4.out).mono ?_); rintro e w9 ⟨rfl, hb⟩; refine ⟨_, rfl, ?_⟩; have n0_ := Aside0.mk (below_step (by repeat (first | (with_reducible first | exact HB.out | apply below_alloc | apply pw_below_drewN | apply below_drew1) | exact HB.out)) hb); clear HB; have HB := n0_; clear n0_; (try clear hb); (try clear hb2); (try clear hk); (try clear hi)) | ((with_reducible refine gate_dst (N := 23) rfl ?_); refine Kd.R_lit Kd.string _ 9 ?hg (N := 23) ?hd (xs := ([t587] : List ByteArray)) (inner := [.string t587]) (ok := fun _ => True) (okp := fun _ => True) ?hr ?hp (fun _ hk => hk) trivial (Below.refl _ _) (Nat.le_refl _) (by simp) ?_; (case hd => rfl); (case hg => rfl); (case hr => first | (go_simp; done) | (go_simp; rfl)); (case hp => exact (Reps.one (show Kd.M Kd.string _ _ _ t587 [.string t587] from rfl) (Reps.none _ _))); intro v589 w10 ho11 hb hg_ hnew_; clear hg_ hnew_; (first | rw [← Ny588.out] at ho11 | (simp only [Int.reduceToNat] at ho11; rw [← Ny588.out] at ho11)); have n0_ := Aside0.mk (Kd.R_lower ho11 (below_size (by repeat (first | (with_reducible first | exact HB.out | apply below_alloc | apply pw_below_drewN | apply below_drew1) | exact HB.out)))); have n1_ := Aside0.mk (below_step (by repeat (first | (with_reducible first | exact HB.out | apply below_alloc | apply pw_below_drewN | apply below_drew1) | exact HB.out)) hb); clear HB; have HO590 := n0_; have HB := n1_; clear n0_ n1_; clear hb ho11; obtain ⟨Ao12, co12, eo12⟩ := Kd.R_slice HO590.out; subst eo12) | ((with_reducible refine gate_callee (f := 23) rfl ?_); refine goesL_ (some 26) rfl rfl Tryz.func23 (by kernel_rfl) rfl #[.int .i64 (Int.tmod a0 1000000)] rfl (by (try simp only [List.map_toArray, List.map_cons, List.map_nil]); first | done | rfl | (simp only [List.length_drop, List.length_take]; rfl)) ?_; (with_reducible refine (brookref1_Digits.calls (Int.tmod a0 1000000) t591 _ A5.out).mono ?_); rintro e w13 ⟨rfl, hb⟩; refine ⟨_, rfl, ?_⟩; have n0_ := Aside0.mk (Kd.R_below (by (with_reducible repeat (first | apply Kd.R_alloc | apply Kd.R_drewN | apply Kd.R_drew)); exact HO590.out) hb); have n1_ := Aside0.mk (below_step (by repeat (first | (with_reducible first | exact HB.out | apply below_alloc | apply pw_below_drewN | apply below_drew1) | exact HB.out)) hb); clear HO590; clear HB; have HO590 := n0_; have HB := n1_; clear n0_ n1_; (try clear hb); (try clear hb2); (try clear hk); (try clear hi)) | ((with_reducible refine gate_dst (N := 28) rfl ?_); refine Kd.R_lit Kd.string _ 9 ?hg (N := 28) ?hd (xs := ([(⟨#[99]⟩ : ByteArray) ++ t591] : List ByteArray)) (inner := [.string ((⟨#[99]⟩ : ByteArray) ++ t591)]) (ok := fun _ => True) (okp := fun _ => True) ?hr ?hp (fun _ hk => hk) trivial (Below.refl _ _) (Nat.le_refl _) (by simp) ?_; (case hd => rfl); (case hg => rfl); (case hr => first | (go_simp; done) | (go_simp; rfl)); (case hp => exact (Reps.one (show Kd.M Kd.string _ _ _ ((⟨#[99]⟩ : ByteArray) ++ t591) [.string ((⟨#[99]⟩ : ByteArray) ++ t591)] from rfl) (Reps.none _ _))); intro v593 w14 ho15 hb hg_ hnew_; clear hg_ hnew_; (first | rw [← Ny592.out] at ho15 | (simp only [Int.reduceToNat] at ho15; rw [← Ny592.out] at ho15)); have n0_ := Aside0.mk (Kd.R_elder' (by (with_reducible repeat (first | apply Kd.R_alloc | apply Kd.R_drewN | apply Kd.R_drew)); exact HO590.out) (Kd.R_base ho15) hb); have n1_ := Aside0.mk (Kd.R_lower (Kd.R_new' ho15 (Kd.R_lt (by (with_reducible repeat (first | apply Kd.R_alloc | apply Kd.R_drewN | apply Kd.R_drew)); exact HO590.out))) (below_size (by repeat (first | (with_reducible first | exact HB.out | apply below_alloc | apply pw_below_drewN | apply below_drew1) | exact HB.out)))); have n2_ := Aside0.mk (below_step (by repeat (first | (with_reducible first | exact HB.out | apply below_alloc | apply pw_below_drewN | apply below_drew1) | exact HB.out)) hb); clear HO590; clear HB; have HO590 := n0_; have HO594 := n1_; have HB := n2_; clear n0_ n1_ n2_; clear hb ho15; obtain ⟨Ao16, co16, eo16⟩ := Kd.R_slice HO594.out; subst eo16) | ((with_reducible refine gate_dst (N := 30) rfl ?_); refine Kd.N_lit k45 _ 45 ?hg (N' := 30) ?hd (xs := ([(⟨(⟨#[117, 105, 100, 110, 117, 109, 98, 101, 114]⟩ : ByteArray), y588⟩ : S45), (⟨(⟨#[99, 110]⟩ : ByteArray), y592⟩ : S45)] : List (S45))) (inner := [.string (⟨#[117, 105, 100, 110, 117, 109, 98, 101, 114]⟩ : ByteArray), .slice Ao12 y588.length co12, .string (⟨#[99, 110]⟩ : ByteArray), .slice Ao16 y592.length co16]) (ok := (fun _ => True)) (okp := (fun _ => True)) ?hr ?hp (fun _ hk => hk) ((show ∀ k_, w14.heap.size ≤ k_ → (fun _ => True) k_ from fun k_ hk => trivial) _ (Nat.le_refl _)) (Below.refl _ _) (Nat.le_refl _) (by simp) ?_; (case hd => rfl); (case hg => rfl); (case hr => first | (go_simp; done) | (go_simp; rfl)); (case hp => exact (Reps.c2 (show Kd.FK k45 _ _ (⟨(⟨#[117, 105, 100, 110, 117, 109, 98, 101, 114]⟩ : ByteArray), y588⟩ : S45) [.string (⟨#[117, 105, 100, 110, 117, 109, 98, 101, 114]⟩ : ByteArray), .slice Ao12 y588.length co12] from (k45_mkF _ _ (⟨(⟨#[117, 105, 100, 110, 117, 109, 98, 101, 114]⟩ : ByteArray), y588⟩ : S45) (Kd.R_reads' (Kd.R_mono (ok' := (fun _ => True)) (HO590.out) (fun k_ hk => trivial))).2.1 (Kd.R_F (Kd.R_mono (ok' := (fun _ => True)) (HO590.out) (fun k_ hk => trivial))))) (Reps.c2 (show Kd.FK k45 _ _ (⟨(⟨#[99, 110]⟩ : ByteArray), y592⟩ : S45) [.string (⟨#[99, 110]⟩ : ByteArray), .slice Ao16 y592.length co16] from (k45_mkF _ _ (⟨(⟨#[99, 110]⟩ : ByteArray), y592⟩ : S45) (Kd.R_reads' (Kd.R_mono (ok' := (fun _ => True)) (HO594.out) (fun k_ hk => trivial))).2.1 (Kd.R_F (Kd.R_mono (ok' := (fun _ => True)) (HO594.out) (fun k_ hk => trivial))))) (Reps.none _ _)))); intro v596 w17 ho18 hb hg_ hnew_; clear hg_ hnew_; (first | rw [← Ny595.out] at ho18 | (simp only [Int.reduceToNat] at ho18; rw [← Ny595.out] at ho18)); have n0_ := Aside0.mk (Kd.N_lower ho18 (below_size (by repeat (first | (with_reducible first | exact HB.out | apply below_alloc | apply pw_below_drewN | apply below_drew1) | exact HB.out)))); have n1_ := Aside0.mk (below_step (by repeat (first | (with_reducible first | exact HB.out | apply below_alloc | apply pw_below_drewN | apply below_drew1) | exact HB.out)) hb); clear HB; clear HO590; clear HO594; have HO597 := n0_; have HB := n1_; clear n0_ n1_; clear hb ho18; obtain ⟨Ao19, co19, eo19⟩ := Kd.N_slice HO597.out; subst eo19) | ((with_reducible refine gate_dst (N := 9) rfl ?_); refine box_event ?hg (N := 9) ?hd (cs := #[.string (⟨#[]⟩ : ByteArray), .slice none 0 0]) (t := 28) ?hr ?_; (case hd => rfl); (case hg => rfl); (case hr => first | (go_simp; done) | (go_simp; rfl)); intro gb598 hg w20 hbox hb; have n0_ := Aside0.mk (Kd.N_below (Kd.N_elderB (by (with_reducible repeat (first | apply Kd.N_alloc | apply Kd.N_drewN | apply Kd.N_drew)); exact HO597.out) gb598 (Nat.le_of_eq hg.symm)) hb); have n1_ := Aside0.mk (below_step (by repeat (first | (with_reducible first | exact HB.out | apply below_alloc | apply pw_below_drewN | apply below_drew1) | exact HB.out)) hb); have n2_ := Aside0.mk (hbox); have n3_ := Aside0.mk ((by rw [hg]; exact (below_size (by repeat (first | (with_reducible first | exact HB.out | apply below_alloc | apply pw_below_drewN | apply below_drew1) | exact HB.out))) : w.heap.size ≤ gb598)); have n4_ := Aside0.mk ((by rw [hg]; exact (below_size (by repeat (first | (with_reducible first | exact HB.out | apply below_alloc | apply pw_below_drewN | apply below_drew1) | exact HB.out))) : w.heap.size ≤ gb598)); clear HO597; clear HB; have HO597 := n0_; have HB := n1_; have BK598 := n2_; have GW598 := n3_; have GE598 := n4_; clear n0_ n1_ n2_ n3_ n4_; clear hb hbox hg; have hcz21_0 : w20.cell? ⟨gb598, 0, none⟩ = some (.string (⟨#[]⟩ : ByteArray)) := (blk_cell BK598.out 0).trans rfl; have hcz21_1 : w20.cell? ⟨gb598, 1, none⟩ = some (.slice none 0 0) := (blk_cell BK598.out 1).trans rfl; have hfz21_0 := blk_frozen BK598.out 0; have hfz21_1 := blk_frozen BK598.out 1) | ((with_reducible refine gate_callee (f := 23) rfl ?_); refine goesL_ (some 33) rfl rfl Tryz.func23 (by kernel_rfl) rfl #[.int .i64 (Int.tmod a1 1000000)] rfl (by (try simp only [List.map_toArray, List.map_cons, List.map_nil]); first | done | rfl | (simp only [List.length_drop, List.length_take]; rfl)) ?_; (with_reducible refine (brookref1_Digits.calls (Int.tmod a1 1000000) t599 _ A7.out).mono ?_); rintro e w22 ⟨rfl, hb⟩; refine ⟨_, rfl, ?_⟩; have n0_ := Aside0.mk (Kd.N_below (by (with_reducible repeat (first | apply Kd.N_alloc | apply Kd.N_drewN | apply Kd.N_drew)); exact (Kd.N_mono (Kd.N_far (p := ⟨gb598, 1, none⟩) (Kd.N_far (p := ⟨gb598, 0, none⟩) (Kd.N_mono HO597.out (fun k_ hk => (⟨hk, hk.2⟩ : _ ∧ k_ ≠ gb598))) (fun _ hk => hk.2) (.string (⟨#[]⟩ : ByteArray))) (fun _ hk => hk.2) (.slice Ao19 y595.length co19)) (fun _ h_ => h_.1))) hb); have n1_ := Aside0.mk (blk_below (g := gb598) (o := .cells #[.string (⟨#[]⟩ : ByteArray), .slice Ao19 y595.length co19] 28 (0, 0)) (by (with_reducible repeat (first | refine blk_drewN ?_ _ | refine blk_drew ?_ | refine blk_alloc ?_ _)); refine blk_put (cs := #[.string (⟨#[]⟩ : ByteArray), .slice none 0 0]) ?_ 1 _ (by first | rfl | (simp only [bneNil, beqNil]; rfl) | simp [bneNil, beqNil]); (with_reducible repeat (first | refine blk_drewN ?_ _ | refine blk_drew ?_ | refine blk_alloc ?_ _)); refine blk_put (cs := #[.string (⟨#[]⟩ : ByteArray), .slice none 0 0]) ?_ 0 _ (by first | rfl | (simp only [bneNil, beqNil]; rfl) | simp [bneNil, beqNil]); (with_reducible repeat (first | refine blk_drewN ?_ _ | refine blk_drew ?_ | refine blk_alloc ?_ _)); exact BK598.out) hb); have n2_ := Aside0.mk (below_step (by repeat (first | (with_reducible first | exact HB.out | apply below_alloc | apply pw_below_drewN | apply below_drew1 | refine below_set ?_ GE598.out) | exact HB.out)) hb); clear HO597; clear BK598; clear HB; have HO597 := n0_; have BK598 := n1_; have HB := n2_; clear n0_ n1_ n2_; (try clear hb); (try clear hb2); (try clear hk); (try clear hi)))
  (try simp only [Act.put, List.setIfInBounds_toArray, List.set_cons_zero, List.set_cons_succ])
  go_cut [10, 11, 12, 13] (fun v10 v11 v12 v13 wc => ∃ (kq : Nat) (x10_7 : ByteArray) (x11_7 : ByteArray) (x12_7 : Bool) (x13_7 : Bool), v10 = .string x10_7 ∧ v11 = .string x11_7 ∧ v12 = .bool x12_7 ∧ v13 = .bool x13_7 ∧ Aside0 (brooklaw7_EvalOrder.j0 kq (Int.tmod a0 1000000) (Int.tmod a1 1000000) x10_7 x11_7 x12_7 x13_7 (⟨#[]⟩ : ByteArray) y595 = some r) ∧ Aside0 (kq ≤ k) ∧ Aside0 (Kd.N k45 45 wc w.heap.size (fun k_ => k_ ≠ gb598) (.slice Ao19 y595.length co19) y595) ∧ Aside0 (wc.heap[gb598]? = some (.cells #[.string (⟨#[]⟩ : ByteArray), (.slice Ao19 y595.length co19)] 28 (0, 0))) ∧ Aside0 (Below w.heap.size w wc))
  case first =>
   have H := HC8.out
   clear HC8
   by_cases c23 : a2 = true
   ·subst c23
    have H1 : (if 1 + t599.size ≤ 9223372036854775807 then ((brookref1_Digits.f (Int.tmod a0 1000000)).bind fun t600 => (if 1 + t600.size ≤ 9223372036854775807 then ((brookref1_Digits.f (Int.tmod a1 1000000)).bind fun t601 => (if 1 + t601.size ≤ 9223372036854775807 then ((brookref1_Digits.f (Int.tmod a0 1000000)).bind fun t602 => (if 1 + t602.size ≤ 9223372036854775807 then ((brookref1_Digits.f (Int.tmod a1 1000000)).bind fun t603 => (if 1 + t603.size ≤ 9223372036854775807 then (brooklaw7_EvalOrder.j0 k (Int.tmod a0 1000000) (Int.tmod a1 1000000) (⟨#[99, 110]⟩ : ByteArray) ((⟨#[67]⟩ : ByteArray) ++ t599) (Op.bytesLess (((⟨#[99]⟩ : ByteArray) ++ t600).toList) (((⟨#[99]⟩ : ByteArray) ++ t601).toList)) (Op.bytesLess (((⟨#[99]⟩ : ByteArray) ++ t603).toList) (((⟨#[99]⟩ : ByteArray) ++ t602).toList)) (⟨#[]⟩ : ByteArray) y595) else (none))) else (none))) else (none))) else (none))) else (none)) = some r := by rw [if_pos rfl] at H; exact H
    clear H
    have H := H1
    clear H1
    by_cases c24 : 1 + t599.size ≤ 9223372036854775807
    ·rw [if_pos c24] at H
     have c24b0 := eq_true c24
     have c24b1 : decide (1 + t599.size ≤ 9223372036854775807) = true := decide_eq_true c24
     try have c24b2 : (9223372036854775807 < 1 + t599.size) = False := eq_false (Nat.not_lt.2 c24)
     replace H := Option.bind_eq_some_iff.mp H
     obtain ⟨t600, A250, H⟩ := H
     replace H : (if 1 + t600.size ≤ 9223372036854775807 then ((brookref1_Digits.f (Int.tmod a1 1000000)).bind fun t601 => (if 1 + t601.size ≤ 9223372036854775807 then ((brookref1_Digits.f (Int.tmod a0 1000000)).bind fun t602 => (if 1 + t602.size ≤ 9223372036854775807 then ((brookref1_Digits.f (Int.tmod a1 1000000)).bind fun t603 => (if 1 + t603.size ≤ 9223372036854775807 then (brooklaw7_EvalOrder.j0 k (Int.tmod a0 1000000) (Int.tmod a1 1000000) (⟨#[99, 110]⟩ : ByteArray) ((⟨#[67]⟩ : ByteArray) ++ t599) (Op.bytesLess (((⟨#[99]⟩ : ByteArray) ++ t600).toList) (((⟨#[99]⟩ : ByteArray) ++ t601).toList)) (Op.bytesLess (((⟨#[99]⟩ : ByteArray) ++ t603).toList) (((⟨#[99]⟩ : ByteArray) ++ t602).toList)) (⟨#[]⟩ : ByteArray) y595) else (none))) else (none))) else (none))) else (none)) = some r := H
     have A25 := Aside0.mk A250
     clear A250
     by_cases c26 : 1 + t600.size ≤ 9223372036854775807
     ·rw [if_pos c26] at H
      have c26b0 := eq_true c26
      have c26b1 : decide (1 + t600.size ≤ 9223372036854775807) = true := decide_eq_true c26
      try have c26b2 : (9223372036854775807 < 1 + t600.size) = False := eq_false (Nat.not_lt.2 c26)
      replace H := Option.bind_eq_some_iff.mp H
      obtain ⟨t601, A270, H⟩ := H
      replace H : (if 1 + t601.size ≤ 9223372036854775807 then ((brookref1_Digits.f (Int.tmod a0 1000000)).bind fun t602 => (if 1 + t602.size ≤ 9223372036854775807 then ((brookref1_Digits.f (Int.tmod a1 1000000)).bind fun t603 => (if 1 + t603.size ≤ 9223372036854775807 then (brooklaw7_EvalOrder.j0 k (Int.tmod a0 1000000) (Int.tmod a1 1000000) (⟨#[99, 110]⟩ : ByteArray) ((⟨#[67]⟩ : ByteArray) ++ t599) (Op.bytesLess (((⟨#[99]⟩ : ByteArray) ++ t600).toList) (((⟨#[99]⟩ : ByteArray) ++ t601).toList)) (Op.bytesLess (((⟨#[99]⟩ : ByteArray) ++ t603).toList) (((⟨#[99]⟩ : ByteArray) ++ t602).toList)) (⟨#[]⟩ : ByteArray) y595) else (none))) else (none))) else (none)) = some r := H
      have A27 := Aside0.mk A270
      clear A270
      by_cases c28 : 1 + t601.size ≤ 9223372036854775807
      ·rw [if_pos c28] at H
       have c28b0 := eq_true c28
       have c28b1 : decide (1 + t601.size ≤ 9223372036854775807) = true := decide_eq_true c28
       try have c28b2 : (9223372036854775807 < 1 + t601.size) = False := eq_false (Nat.not_lt.2 c28)
       replace H := Option.bind_eq_some_iff.mp H
       obtain ⟨t602, A290, H⟩ := H
       replace H : (if 1 + t602.size ≤ 9223372036854775807 then ((brookref1_Digits.f (Int.tmod a1 1000000)).bind fun t603 => (if 1 + t603.size ≤ 9223372036854775807 then (brooklaw7_EvalOrder.j0 k (Int.tmod a0 1000000) (Int.tmod a1 1000000) (⟨#[99, 110]⟩ : ByteArray) ((⟨#[67]⟩ : ByteArray) ++ t599) (Op.bytesLess (((⟨#[99]⟩ : ByteArray) ++ t600).toList) (((⟨#[99]⟩ : ByteArray) ++ t601).toList)) (Op.bytesLess (((⟨#[99]⟩ : ByteArray) ++ t603).toList) (((⟨#[99]⟩ : ByteArray) ++ t602).toList)) (⟨#[]⟩ : ByteArray) y595) else (none))) else (none)) = some r := H
       have A29 := Aside0.mk A290
       clear A290
       by_cases c30 : 1 + t602.size ≤ 9223372036854775807
       ·rw [if_pos c30] at H
        have c30b0 := eq_true c30
        have c30b1 : decide (1 + t602.size ≤ 9223372036854775807) = true := decide_eq_true c30
        try have c30b2 : (9223372036854775807 < 1 + t602.size) = False := eq_false (Nat.not_lt.2 c30)
        replace H := Option.bind_eq_some_iff.mp H
        obtain ⟨t603, A310, H⟩ := H
        replace H : (if 1 + t603.size ≤ 9223372036854775807 then (brooklaw7_EvalOrder.j0 k (Int.tmod a0 1000000) (Int.tmod a1 1000000) (⟨#[99, 110]⟩ : ByteArray) ((⟨#[67]⟩ : ByteArray) ++ t599) (Op.bytesLess (((⟨#[99]⟩ : ByteArray) ++ t600).toList) (((⟨#[99]⟩ : ByteArray) ++ t601).toList)) (Op.bytesLess (((⟨#[99]⟩ : ByteArray) ++ t603).toList) (((⟨#[99]⟩ : ByteArray) ++ t602).toList)) (⟨#[]⟩ : ByteArray) y595) else (none)) = some r := H
        have A31 := Aside0.mk A310
        clear A310
        by_cases c32 : 1 + t603.size ≤ 9223372036854775807
        ·rw [if_pos c32] at H
         have c32b0 := eq_true c32
         have c32b1 : decide (1 + t603.size ≤ 9223372036854775807) = true := decide_eq_true c32
         try have c32b2 : (9223372036854775807 < 1 + t603.size) = False := eq_false (Nat.not_lt.2 c32)
         have H' := Aside0.mk H
         clear H
         go_wp2_with (first | ((with_reducible refine gate_callee (f := 23) rfl ?_); refine goesL_ (some 44) rfl rfl Tryz.func23 (by kernel_rfl) rfl #[.int .i64 (Int.tmod a0 1000000)] rfl (by (try simp only [List.map_toArray, List.map_cons, List.map_nil]); first | done | rfl | (simp only [List.length_drop, List.length_take]; rfl)) ?_; (with_reducible refine (brookref1_Digits.calls (Int.tmod a0 1000000) t600 _ A25.out).mono ?_); rintro e w33 ⟨rfl, hb⟩; refine ⟨_, rfl, ?_⟩; have n0_ := Aside0.mk (Kd.N_below (by (with_reducible repeat (first | apply Kd.N_alloc | apply Kd.N_drewN | apply Kd.N_drew)); exact HO597.out) hb); have n1_ := Aside0.mk (blk_below (g := gb598) (o := .cells #[.string (⟨#[]⟩ : ByteArray), .slice Ao19 y595.length co19] 28 (0, 0)) (by (with_reducible repeat (first | refine blk_drewN ?_ _ | refine blk_drew ?_ | refine blk_alloc ?_ _)); exact BK598.out) hb); have n2_ := Aside0.mk (below_step (by repeat (first | (with_reducible first | exact HB.out | apply below_alloc | apply pw_below_drewN | apply below_drew1 | refine below_set ?_ GE598.out) | exact HB.out)) hb); clear HO597; clear BK598; clear HB; have HO597 := n0_; have BK598 := n1_; have HB := n2_; clear n0_ n1_ n2_; (try clear hb); (try clear hb2); (try clear hk); (try clear hi)) | ((with_reducible refine gate_callee (f := 23) rfl ?_); refine goesL_ (some 47) rfl rfl Tryz.func23 (by kernel_rfl) rfl #[.int .i64 (Int.tmod a1 1000000)] rfl (by (try simp only [List.map_toArray, List.map_cons, List.map_nil]); first | done | rfl | (simp only [List.length_drop, List.length_take]; rfl)) ?_; (with_reducible refine (brookref1_Digits.calls (Int.tmod a1 1000000) t601 _ A27.out).mono ?_); rintro e w34 ⟨rfl, hb⟩; refine ⟨_, rfl, ?_⟩; have n0_ := Aside0.mk (Kd.N_below (by (with_reducible repeat (first | apply Kd.N_alloc | apply Kd.N_drewN | apply Kd.N_drew)); exact HO597.out) hb); have n1_ := Aside0.mk (blk_below (g := gb598) (o := .cells #[.string (⟨#[]⟩ : ByteArray), .slice Ao19 y595.length co19] 28 (0, 0)) (by (with_reducible repeat (first | refine blk_drewN ?_ _ | refine blk_drew ?_ | refine blk_alloc ?_ _)); exact BK598.out) hb); have n2_ := Aside0.mk (below_step (by repeat (first | (with_reducible first | exact HB.out | apply below_alloc | apply pw_below_drewN | apply below_drew1 | refine below_set ?_ GE598.out) | exact HB.out)) hb); clear HO597; clear BK598; clear HB; have HO597 := n0_; have BK598 := n1_; have HB := n2_; clear n0_ n1_ n2_; (try clear hb); (try clear hb2); (try clear hk); (try clear hi)) | ((with_reducible refine gate_callee (f := 23) rfl ?_); refine goesL_ (some 51) rfl rfl Tryz.func23 (by kernel_rfl) rfl #[.int .i64 (Int.tmod a0 1000000)] rfl (by (try simp only [List.map_toArray, List.map_cons, List.map_nil]); first | done | rfl | (simp only [List.length_drop, List.length_take]; rfl)) ?_; (with_reducible refine (brookref1_Digits.calls (Int.tmod a0 1000000) t602 _ A29.out).mono ?_); rintro e w35 ⟨rfl, hb⟩; refine ⟨_, rfl, ?_⟩; have n0_ := Aside0.mk (Kd.N_below (by (with_reducible repeat (first | apply Kd.N_alloc | apply Kd.N_drewN | apply Kd.N_drew)); exact HO597.out) hb); have n1_ := Aside0.mk (blk_below (g := gb598) (o := .cells #[.string (⟨#[]⟩ : ByteArray), .slice Ao19 y595.length co19] 28 (0, 0)) (by (with_reducible repeat (first | refine blk_drewN ?_ _ | refine blk_drew ?_ | refine blk_alloc ?_ _)); exact BK598.out) hb); have n2_ := Aside0.mk (below_step (by repeat (first | (with_reducible first | exact HB.out | apply below_alloc | apply pw_below_drewN | apply below_drew1 | refine below_set ?_ GE598.out) | exact HB.out)) hb); clear HO597; clear BK598; clear HB; have HO597 := n0_; have BK598 := n1_; have HB := n2_; clear n0_ n1_ n2_; (try clear hb); (try clear hb2); (try clear hk); (try clear hi)) | ((with_reducible refine gate_callee (f := 23) rfl ?_); refine goesL_ (some 54) rfl rfl Tryz.func23 (by kernel_rfl) rfl #[.int .i64 (Int.tmod a1 1000000)] rfl (by (try simp only [List.map_toArray, List.map_cons, List.map_nil]); first | done | rfl | (simp only [List.length_drop, List.length_take]; rfl)) ?_; (with_reducible refine (brookref1_Digits.calls (Int.tmod a1 1000000) t603 _ A31.out).mono ?_); rintro e w36 ⟨rfl, hb⟩; refine ⟨_, rfl, ?_⟩; have n0_ := Aside0.mk (Kd.N_below (by (with_reducible repeat (first | apply Kd.N_alloc | apply Kd.N_drewN | apply Kd.N_drew)); exact HO597.out) hb); have n1_ := Aside0.mk (blk_below (g := gb598) (o := .cells #[.string (⟨#[]⟩ : ByteArray), .slice Ao19 y595.length co19] 28 (0, 0)) (by (with_reducible repeat (first | refine blk_drewN ?_ _ | refine blk_drew ?_ | refine blk_alloc ?_ _)); exact BK598.out) hb); have n2_ := Aside0.mk (below_step (by repeat (first | (with_reducible first | exact HB.out | apply below_alloc | apply pw_below_drewN | apply below_drew1 | refine below_set ?_ GE598.out) | exact HB.out)) hb); clear HO597; clear BK598; clear HB; have HO597 := n0_; have BK598 := n1_; have HB := n2_; clear n0_ n1_ n2_; (try clear hb); (try clear hb2); (try clear hk); (try clear hi)))
         go_meet
         case rel => exact ⟨_, ((⟨#[99, 110]⟩ : ByteArray)), ((⟨#[67]⟩ : ByteArray) ++ t599), ((Op.bytesLess (((⟨#[99]⟩ : ByteArray) ++ t600).toList) (((⟨#[99]⟩ : ByteArray) ++ t601).toList))), ((Op.bytesLess (((⟨#[99]⟩ : ByteArray) ++ t603).toList) (((⟨#[99]⟩ : ByteArray) ++ t602).toList))), (by first | rfl | (simp; done) | (simp [*]; done) | (simp [*, i64_w, i32_w, u8_w]; done) | (simp only [bneNil, beqNil]; done) | (simp only [bneNil, beqNil]; simp; done) | (simp only [bneNil, beqNil]; simp [*]; done)), (by first | rfl | (simp; done) | (simp [*]; done) | (simp [*, i64_w, i32_w, u8_w]; done) | (simp only [bneNil, beqNil]; done) | (simp only [bneNil, beqNil]; simp; done) | (simp only [bneNil, beqNil]; simp [*]; done)), (by first | rfl | (simp; done) | (simp [*]; done) | (simp [*, i64_w, i32_w, u8_w]; done) | (simp only [bneNil, beqNil]; done) | (simp only [bneNil, beqNil]; simp; done) | (simp only [bneNil, beqNil]; simp [*]; done)), (by first | rfl | (simp; done) | (simp [*]; done) | (simp [*, i64_w, i32_w, u8_w]; done) | (simp only [bneNil, beqNil]; done) | (simp only [bneNil, beqNil]; simp; done) | (simp only [bneNil, beqNil]; simp [*]; done)), H', ⟨by first | omega | exact Nat.le_refl _⟩, ⟨by (with_reducible repeat (first | apply Kd.N_alloc | apply Kd.N_drewN | apply Kd.N_drew)); exact Kd.N_mono HO597.out (fun _ hk => hk.2)⟩, ⟨by (with_reducible repeat (first | refine blk_drewN ?_ _ | refine blk_drew ?_ | refine blk_alloc ?_ _)); exact BK598.out⟩, ⟨by repeat (first | (with_reducible first | exact HB.out | apply below_alloc | apply pw_below_drewN | apply below_drew1 | refine below_set ?_ GE598.out) | exact HB.out)⟩⟩
        ·rw [if_neg c32] at H
         exact absurd H (by simp)
       ·rw [if_neg c30] at H
        exact absurd H (by simp)
      ·rw [if_neg c28] at H
       exact absurd H (by simp)
     ·rw [if_neg c26] at H
      exact absurd H (by simp)
    ·rw [if_neg c24] at H
     exact absurd H (by simp)
   ·replace c23 := Bool.eq_false_iff.mpr c23
    subst c23
    have H1 : (brooklaw7_EvalOrder.j0 k (Int.tmod a0 1000000) (Int.tmod a1 1000000) (⟨#[117, 105, 100, 78, 117, 109, 98, 101, 114]⟩ : ByteArray) t599 (decide ((Int.tmod a0 1000000) < (Int.tmod a1 1000000))) (decide ((Int.tmod a0 1000000) > (Int.tmod a1 1000000))) (⟨#[]⟩ : ByteArray) y595) = some r := by rw [if_neg (show ¬ (false = true) by decide)] at H; exact H
    clear H
    have H := H1
    clear H1
    have H' := Aside0.mk H
    clear H
    go_wp2
    go_meet
    case rel => exact ⟨_, ((⟨#[117, 105, 100, 78, 117, 109, 98, 101, 114]⟩ : ByteArray)), (t599), (decide ((Int.tmod a0 1000000) < (Int.tmod a1 1000000))), (decide ((Int.tmod a0 1000000) > (Int.tmod a1 1000000))), (by first | rfl | (simp; done) | (simp [*]; done) | (simp [*, i64_w, i32_w, u8_w]; done) | (simp only [bneNil, beqNil]; done) | (simp only [bneNil, beqNil]; simp; done) | (simp only [bneNil, beqNil]; simp [*]; done)), (by first | rfl | (simp; done) | (simp [*]; done) | (simp [*, i64_w, i32_w, u8_w]; done) | (simp only [bneNil, beqNil]; done) | (simp only [bneNil, beqNil]; simp; done) | (simp only [bneNil, beqNil]; simp [*]; done)), (by first | rfl | (simp; done) | (simp [*]; done) | (simp [*, i64_w, i32_w, u8_w]; done) | (simp only [bneNil, beqNil]; done) | (simp only [bneNil, beqNil]; simp; done) | (simp only [bneNil, beqNil]; simp [*]; done)), (by first | rfl | (simp; done) | (simp [*]; done) | (simp [*, i64_w, i32_w, u8_w]; done) | (simp only [bneNil, beqNil]; done) | (simp only [bneNil, beqNil]; simp; done) | (simp only [bneNil, beqNil]; simp [*]; done)), H', ⟨by first | omega | exact Nat.le_refl _⟩, ⟨by (with_reducible repeat (first | apply Kd.N_alloc | apply Kd.N_drewN | apply Kd.N_drew)); exact Kd.N_mono HO597.out (fun _ hk => hk.2)⟩, ⟨by (with_reducible repeat (first | refine blk_drewN ?_ _ | refine blk_drew ?_ | refine blk_alloc ?_ _)); exact BK598.out⟩, ⟨by repeat (first | (with_reducible first | exact HB.out | apply below_alloc | apply pw_below_drewN | apply below_drew1 | refine below_set ?_ GE598.out) | exact HB.out)⟩⟩
  case rest =>
   clear HC8
   try clear c2
   try clear p2
   try clear c3
   try clear c6
   try clear c6b0
   try clear c6b1
   try clear c6b2
   try clear c9
   try clear c23
   try clear c24
   try clear c24b0
   try clear c24b1
   try clear c24b2
   try clear c26
   try clear c26b0
   try clear c26b1
   try clear c26b2
   try clear c28
   try clear c28b0
   try clear c28b1
   try clear c28b2
   try clear c30
   try clear c30b0
   try clear c30b1
   try clear c30b2
   try clear c32
   try clear c32b0
   try clear c32b1
   try clear c32b2
   try clear hcz21_0
   try clear hcz21_1
   try clear hfz21_0
   try clear hfz21_1
   obtain ⟨kq, x10_7, x11_7, x12_7, x13_7, rfl, rfl, rfl, rfl, HA, HJ7, HO_599001, BK598, HB⟩ := hcut
   cases kq with
   | zero => exact absurd HA.out (by simp [brooklaw7_EvalOrder.j0])
   | succ kj7 =>
    have H := HA.out
    clear HA
    simp only [brooklaw7_EvalOrder.j0] at H
    replace H := Option.bind_eq_some_iff.mp H
    obtain ⟨t604, A370, H⟩ := H
    replace H : ((eval_Eval.f kj7 6 x10_7 x11_7 ([] : List ByteArray) ([] : List (S25)) (⟨#[]⟩ : ByteArray) y595).bind fun t605 => ((eval_Eval.f kj7 7 x10_7 x11_7 ([] : List ByteArray) ([] : List (S25)) (⟨#[]⟩ : ByteArray) y595).bind fun t606 => (if ((t604 == 1) == ((Int.tmod a0 1000000) == (Int.tmod a1 1000000))) = true then (if ((t605 == 1) == (!x12_7)) = true then (if ((t606 == 1) == (!x13_7)) = true then (if t604 = 2 then (some false) else (if t605 = 2 then (some false) else (if t606 = 2 then (some false) else ((brooklaw7_awake.f kj7).bind fun t607 => (some t607))))) else (some false)) else (some false)) else (some false)))) = some r := H
    have A37 := Aside0.mk A370
    clear A370
    replace H := Option.bind_eq_some_iff.mp H
    obtain ⟨t605, A380, H⟩ := H
    replace H : ((eval_Eval.f kj7 7 x10_7 x11_7 ([] : List ByteArray) ([] : List (S25)) (⟨#[]⟩ : ByteArray) y595).bind fun t606 => (if ((t604 == 1) == ((Int.tmod a0 1000000) == (Int.tmod a1 1000000))) = true then (if ((t605 == 1) == (!x12_7)) = true then (if ((t606 == 1) == (!x13_7)) = true then (if t604 = 2 then (some false) else (if t605 = 2 then (some false) else (if t606 = 2 then (some false) else ((brooklaw7_awake.f kj7).bind fun t607 => (some t607))))) else (some false)) else (some false)) else (some false))) = some r := H
    have A38 := Aside0.mk A380
    clear A380
    replace H := Option.bind_eq_some_iff.mp H
    obtain ⟨t606, A390, H⟩ := H
    replace H : (if ((t604 == 1) == ((Int.tmod a0 1000000) == (Int.tmod a1 1000000))) = true then (if ((t605 == 1) == (!x12_7)) = true then (if ((t606 == 1) == (!x13_7)) = true then (if t604 = 2 then (some false) else (if t605 = 2 then (some false) else (if t606 = 2 then (some false) else ((brooklaw7_awake.f kj7).bind fun t607 => (some t607))))) else (some false)) else (some false)) else (some false)) = some r := H
    have A39 := Aside0.mk A390
    clear A390
    by_cases c40 : ((t604 == 1) == ((Int.tmod a0 1000000) == (Int.tmod a1 1000000))) = true
    ·rw [if_pos c40] at H
     have c40b0 : ((t604 == 1) == ((Int.tmod a0 1000000) == (Int.tmod a1 1000000))) = true := c40
     (try (have c40b1 : decide ((t604 == 1) = ((Int.tmod a0 1000000) == (Int.tmod a1 1000000))) = true := by simpa using c40))
     (try (have c40b2 : ((t604 == 1) == ((Int.tmod a0 1000000) == (Int.tmod a1 1000000))) = true := by simpa using c40))
     clear c40
     by_cases c41 : ((t605 == 1) == (!x12_7)) = true
     ·rw [if_pos c41] at H
      have c41b0 : ((t605 == 1) == (!x12_7)) = true := c41
      (try (have c41b1 : decide ((t605 == 1) = (!x12_7)) = true := by simpa using c41))
      (try (have c41b2 : ((t605 == 1) == (!x12_7)) = true := by simpa using c41))
      clear c41
      by_cases c42 : ((t606 == 1) == (!x13_7)) = true
      ·rw [if_pos c42] at H
       have c42b0 : ((t606 == 1) == (!x13_7)) = true := c42
       (try (have c42b1 : decide ((t606 == 1) = (!x13_7)) = true := by simpa using c42))
       (try (have c42b2 : ((t606 == 1) == (!x13_7)) = true := by simpa using c42))
       clear c42
       by_cases c43 : t604 = 2
       ·rw [if_pos c43] at H
        have c43b0 : (t604 == 2) = true := beq_iff_eq.mpr c43
        have c43b1 : (t604 != 2) = false := bne_eq_false_iff_eq.mpr c43
        clear c43
        exact absurd ((Option.some.inj H).trans HRT.out) Bool.false_ne_true
       ·rw [if_neg c43] at H
        have c43b0 : (t604 == 2) = false := beq_eq_false_iff_ne.mpr c43
        have c43b1 : (t604 != 2) = true := bne_iff_ne.mpr c43
        by_cases c44 : t605 = 2
        ·rw [if_pos c44] at H
         have c44b0 : (t605 == 2) = true := beq_iff_eq.mpr c44
         have c44b1 : (t605 != 2) = false := bne_eq_false_iff_eq.mpr c44
         clear c44
         exact absurd ((Option.some.inj H).trans HRT.out) Bool.false_ne_true
        ·rw [if_neg c44] at H
         have c44b0 : (t605 == 2) = false := beq_eq_false_iff_ne.mpr c44
         have c44b1 : (t605 != 2) = true := bne_iff_ne.mpr c44
         by_cases c45 : t606 = 2
         ·rw [if_pos c45] at H
          have c45b0 : (t606 == 2) = true := beq_iff_eq.mpr c45
          have c45b1 : (t606 != 2) = false := bne_eq_false_iff_eq.mpr c45
          clear c45
          exact absurd ((Option.some.inj H).trans HRT.out) Bool.false_ne_true
         ·rw [if_neg c45] at H
          have c45b0 : (t606 == 2) = false := beq_eq_false_iff_ne.mpr c45
          have c45b1 : (t606 != 2) = true := bne_iff_ne.mpr c45
          replace H := Option.bind_eq_some_iff.mp H
          obtain ⟨t607, A460, H⟩ := H
          replace H : (some t607) = some r := H
          have A46 := Aside0.mk A460
          clear A460
          obtain rfl := Option.some.inj H
          have hcz47_0 : wc.cell? ⟨gb598, 0, none⟩ = some (.string (⟨#[]⟩ : ByteArray)) := (blk_cell BK598.out 0).trans rfl
          have hcz47_1 : wc.cell? ⟨gb598, 1, none⟩ = some (.slice Ao19 y595.length co19) := (blk_cell BK598.out 1).trans rfl
          have hfz47_0 := blk_frozen BK598.out 0
          have hfz47_1 := blk_frozen BK598.out 1
          go_wp2_with (first | ((with_reducible refine gate_callee (f := 13) rfl ?_); refine goesL_ (some 61) rfl rfl Tryz.func13 (by kernel_rfl) rfl #[.agg #[.int .i64 4, .string x10_7, .string x11_7, .slice none 0 0, .slice none 0 0], .agg #[.string (⟨#[]⟩ : ByteArray), .slice Ao19 y595.length co19]] rfl (by (try simp only [List.map_toArray, List.map_cons, List.map_nil]); first | done | rfl | (simp only [List.length_drop, List.length_take]; rfl)) ?_; (refine (eval_Eval.calls kj7 4 x10_7 x11_7 _ _ ([] : List ByteArray) _ _ ([] : List (S25)) (⟨#[]⟩ : ByteArray) _ _ y595 t604 _ ?side1 ?side2 ?side3 ?side4 ?side5 ?side6 ?side7 A37.out).mono ?_); (case side1 => exact Kd.C_nil _ _); (case side2 => exact Nat.le_refl _); (case side3 => exact Kd.C_nil _ _); (case side4 => exact Nat.le_refl _); (case side5 => repeat (first | exact (Kd.N_reads' HO_599001.out).2.2 | (with_reducible refine Kd.C_alloc ?_ _) | (with_reducible refine Kd.C_drewN ?_ _) | (with_reducible refine Kd.C_drew ?_))); (case side6 => exact (Kd.N_reads' HO_599001.out).2.1); (case side7 => first | exact HG.out | exact Gl.drewN HG.out _ | exact Gl.below HG.out (by repeat (first | (with_reducible first | exact HB.out | apply below_alloc | apply pw_below_drewN | apply below_drew1 | refine below_set ?_ GE598.out) | exact HB.out))); rintro e w48 ⟨rfl, hb⟩; refine ⟨_, rfl, ?_⟩; have n0_ := Aside0.mk (Kd.N_below (by (with_reducible repeat (first | apply Kd.N_alloc | apply Kd.N_drewN | apply Kd.N_drew)); exact HO_599001.out) hb); have n1_ := Aside0.mk (blk_below (g := gb598) (o := .cells #[.string (⟨#[]⟩ : ByteArray), .slice Ao19 y595.length co19] 28 (0, 0)) (by (with_reducible repeat (first | refine blk_drewN ?_ _ | refine blk_drew ?_ | refine blk_alloc ?_ _)); exact BK598.out) hb); have n2_ := Aside0.mk (below_step (by repeat (first | (with_reducible first | exact HB.out | apply below_alloc | apply pw_below_drewN | apply below_drew1 | refine below_set ?_ GE598.out) | exact HB.out)) hb); clear HO_599001; clear BK598; clear HB; have HO_599001 := n0_; have BK598 := n1_; have HB := n2_; clear n0_ n1_ n2_; (try clear hb); (try clear hb2); (try clear hk); (try clear hi); have hcz49_0 : w48.cell? ⟨gb598, 0, none⟩ = some (.string (⟨#[]⟩ : ByteArray)) := (blk_cell BK598.out 0).trans rfl; have hcz49_1 : w48.cell? ⟨gb598, 1, none⟩ = some (.slice Ao19 y595.length co19) := (blk_cell BK598.out 1).trans rfl; have hfz49_0 := blk_frozen BK598.out 0; have hfz49_1 := blk_frozen BK598.out 1) | ((with_reducible refine gate_callee (f := 13) rfl ?_); refine goesL_ (some 66) rfl rfl Tryz.func13 (by kernel_rfl) rfl #[.agg #[.int .i64 6, .string x10_7, .string x11_7, .slice none 0 0, .slice none 0 0], .agg #[.string (⟨#[]⟩ : ByteArray), .slice Ao19 y595.length co19]] rfl (by (try simp only [List.map_toArray, List.map_cons, List.map_nil]); first | done | rfl | (simp only [List.length_drop, List.length_take]; rfl)) ?_; (refine (eval_Eval.calls kj7 6 x10_7 x11_7 _ _ ([] : List ByteArray) _ _ ([] : List (S25)) (⟨#[]⟩ : ByteArray) _ _ y595 t605 _ ?side1 ?side2 ?side3 ?side4 ?side5 ?side6 ?side7 A38.out).mono ?_); (case side1 => exact Kd.C_nil _ _); (case side2 => exact Nat.le_refl _); (case side3 => exact Kd.C_nil _ _); (case side4 => exact Nat.le_refl _); (case side5 => repeat (first | exact (Kd.N_reads' HO_599001.out).2.2 | (with_reducible refine Kd.C_alloc ?_ _) | (with_reducible refine Kd.C_drewN ?_ _) | (with_reducible refine Kd.C_drew ?_))); (case side6 => exact (Kd.N_reads' HO_599001.out).2.1); (case side7 => first | exact HG.out | exact Gl.drewN HG.out _ | exact Gl.below HG.out (by repeat (first | (with_reducible first | exact HB.out | apply below_alloc | apply pw_below_drewN | apply below_drew1 | refine below_set ?_ GE598.out) | exact HB.out))); rintro e w50 ⟨rfl, hb⟩; refine ⟨_, rfl, ?_⟩; have n0_ := Aside0.mk (Kd.N_below (by (with_reducible repeat (first | apply Kd.N_alloc | apply Kd.N_drewN | apply Kd.N_drew)); exact HO_599001.out) hb); have n1_ := Aside0.mk (blk_below (g := gb598) (o := .cells #[.string (⟨#[]⟩ : ByteArray), .slice Ao19 y595.length co19] 28 (0, 0)) (by (with_reducible repeat (first | refine blk_drewN ?_ _ | refine blk_drew ?_ | refine blk_alloc ?_ _)); exact BK598.out) hb); have n2_ := Aside0.mk (below_step (by repeat (first | (with_reducible first | exact HB.out | apply below_alloc | apply pw_below_drewN | apply below_drew1 | refine below_set ?_ GE598.out) | exact HB.out)) hb); clear HO_599001; clear BK598; clear HB; have HO_599001 := n0_; have BK598 := n1_; have HB := n2_; clear n0_ n1_ n2_; (try clear hb); (try clear hb2); (try clear hk); (try clear hi); have hcz51_0 : w50.cell? ⟨gb598, 0, none⟩ = some (.string (⟨#[]⟩ : ByteArray)) := (blk_cell BK598.out 0).trans rfl; have hcz51_1 : w50.cell? ⟨gb598, 1, none⟩ = some (.slice Ao19 y595.length co19) := (blk_cell BK598.out 1).trans rfl; have hfz51_0 := blk_frozen BK598.out 0; have hfz51_1 := blk_frozen BK598.out 1) | ((with_reducible refine gate_callee (f := 13) rfl ?_); refine goesL_ (some 71) rfl rfl Tryz.func13 (by kernel_rfl) rfl #[.agg #[.int .i64 7, .string x10_7, .string x11_7, .slice none 0 0, .slice none 0 0], .agg #[.string (⟨#[]⟩ : ByteArray), .slice Ao19 y595.length co19]] rfl (by (try simp only [List.map_toArray, List.map_cons, List.map_nil]); first | done | rfl | (simp only [List.length_drop, List.length_take]; rfl)) ?_; (refine (eval_Eval.calls kj7 7 x10_7 x11_7 _ _ ([] : List ByteArray) _ _ ([] : List (S25)) (⟨#[]⟩ : ByteArray) _ _ y595 t606 _ ?side1 ?side2 ?side3 ?side4 ?side5 ?side6 ?side7 A39.out).mono ?_); (case side1 => exact Kd.C_nil _ _); (case side2 => exact Nat.le_refl _); (case side3 => exact Kd.C_nil _ _); (case side4 => exact Nat.le_refl _); (case side5 => repeat (first | exact (Kd.N_reads' HO_599001.out).2.2 | (with_reducible refine Kd.C_alloc ?_ _) | (with_reducible refine Kd.C_drewN ?_ _) | (with_reducible refine Kd.C_drew ?_))); (case side6 => exact (Kd.N_reads' HO_599001.out).2.1); (case side7 => first | exact HG.out | exact Gl.drewN HG.out _ | exact Gl.below HG.out (by repeat (first | (with_reducible first | exact HB.out | apply below_alloc | apply pw_below_drewN | apply below_drew1 | refine below_set ?_ GE598.out) | exact HB.out))); rintro e w52 ⟨rfl, hb⟩; refine ⟨_, rfl, ?_⟩; have n0_ := Aside0.mk (Kd.N_below (by (with_reducible repeat (first | apply Kd.N_alloc | apply Kd.N_drewN | apply Kd.N_drew)); exact HO_599001.out) hb); have n1_ := Aside0.mk (blk_below (g := gb598) (o := .cells #[.string (⟨#[]⟩ : ByteArray), .slice Ao19 y595.length co19] 28 (0, 0)) (by (with_reducible repeat (first | refine blk_drewN ?_ _ | refine blk_drew ?_ | refine blk_alloc ?_ _)); exact BK598.out) hb); have n2_ := Aside0.mk (below_step (by repeat (first | (with_reducible first | exact HB.out | apply below_alloc | apply pw_below_drewN | apply below_drew1 | refine below_set ?_ GE598.out) | exact HB.out)) hb); clear HO_599001; clear BK598; clear HB; have HO_599001 := n0_; have BK598 := n1_; have HB := n2_; clear n0_ n1_ n2_; (try clear hb); (try clear hb2); (try clear hk); (try clear hi)) | (go_at_call 15; (with_reducible refine (brooklaw7_awake.calls kj7  t607 _ ?side1 A46.out).mono ?_); (case side1 => first | exact HG.out | exact Gl.drewN HG.out _ | exact Gl.below HG.out (by repeat (first | (with_reducible first | exact HB.out | apply below_alloc | apply pw_below_drewN | apply below_drew1 | refine below_set ?_ GE598.out) | exact HB.out))); rintro e w53 ⟨rfl, hb⟩; have n0_ := Aside0.mk (Kd.N_below (by (with_reducible repeat (first | apply Kd.N_alloc | apply Kd.N_drewN | apply Kd.N_drew)); exact HO_599001.out) hb); have n1_ := Aside0.mk (blk_below (g := gb598) (o := .cells #[.string (⟨#[]⟩ : ByteArray), .slice Ao19 y595.length co19] 28 (0, 0)) (by (with_reducible repeat (first | refine blk_drewN ?_ _ | refine blk_drew ?_ | refine blk_alloc ?_ _)); exact BK598.out) hb); have n2_ := Aside0.mk (below_step (by repeat (first | (with_reducible first | exact HB.out | apply below_alloc | apply pw_below_drewN | apply below_drew1 | refine below_set ?_ GE598.out) | exact HB.out)) hb); clear HO_599001; clear BK598; clear HB; have HO_599001 := n0_; have BK598 := n1_; have HB := n2_; clear n0_ n1_ n2_; (try clear hb); (try clear hb2); (try clear hk); (try clear hi)))
          go_ret
          exact ⟨by first | rfl | (simp [errW_none, errW_some] <;> rfl) | (simp [*, errW_none, errW_some] <;> rfl), by repeat (first | (with_reducible first | exact HB.out | apply below_alloc | apply pw_below_drewN | apply below_drew1 | refine below_set ?_ GE598.out) | exact HB.out)⟩
      ·rw [if_neg c42] at H
       have c42b0 : ((t606 == 1) == (!x13_7)) = false := by simpa using c42
       (try (have c42b1 : decide ((t606 == 1) = (!x13_7)) = false := by simpa using c42))
       (try (have c42b2 : ((t606 == 1) == (!x13_7)) = false := by simpa using c42))
       (try (have c42b3 : ¬ ((t606 == 1) = (!x13_7)) := by simpa using c42))
       clear c42
       exact absurd ((Option.some.inj H).trans HRT.out) Bool.false_ne_true
     ·rw [if_neg c41] at H
      have c41b0 : ((t605 == 1) == (!x12_7)) = false := by simpa using c41
      (try (have c41b1 : decide ((t605 == 1) = (!x12_7)) = false := by simpa using c41))
      (try (have c41b2 : ((t605 == 1) == (!x12_7)) = false := by simpa using c41))
      (try (have c41b3 : ¬ ((t605 == 1) = (!x12_7)) := by simpa using c41))
      clear c41
      exact absurd ((Option.some.inj H).trans HRT.out) Bool.false_ne_true
    ·rw [if_neg c40] at H
     have c40b0 : ((t604 == 1) == ((Int.tmod a0 1000000) == (Int.tmod a1 1000000))) = false := by simpa using c40
     (try (have c40b1 : decide ((t604 == 1) = ((Int.tmod a0 1000000) == (Int.tmod a1 1000000))) = false := by simpa using c40))
     (try (have c40b2 : ((t604 == 1) == ((Int.tmod a0 1000000) == (Int.tmod a1 1000000))) = false := by simpa using c40))
     (try (have c40b3 : ¬ ((t604 == 1) = ((Int.tmod a0 1000000) == (Int.tmod a1 1000000))) := by simpa using c40))
     clear c40
     exact absurd ((Option.some.inj H).trans HRT.out) Bool.false_ne_true
 ·rw [if_neg c6] at H
  exact absurd H (by simp)
end Go.Proofs.YthfpaoacjpjnfaaGreatDoor.P


namespace Go.Proofs.YthfpaoacjpjnfaaGreatDoor.P
open Go.RowKit Go.Proofs.YthfpaoacjpjnfaaGreatDoorW.PrintWords Go.Proofs.YthfpaoacjpjnfaaGreatDoorW.PrintLast Go.Proofs.YthfpaoacjpjnfaaGreatDoorW.PrintMore
set_option linter.unusedVariables false
set_option linter.unusedSimpArgs false
theorem contains_nil (a : Int) : Ev (fun k => slices_Contains_int_int.f k [] a) false := by
  unfold slices_Contains_int_int.f slices_Index_int_int.f
  refine Ev.bind (a := -1) (Ev.step (fun k => by rw [slices_Index_int_int.l0]) (Ev.ifn (c := (0 : Int) < (([] : List Int).length : Int)) (by decide) (Ev.now _))) (Ev.now _)
theorem eval_all_nil (a0 : ByteArray) (l1 : List S45) : Ev (fun k => eval_Eval.f k 1 (⟨#[]⟩ : ByteArray) (⟨#[]⟩ : ByteArray) [] [] a0 l1) 1 := by
  unfold eval_Eval.f
  have hm : filter_May.f 1 (⟨#[]⟩ : ByteArray) (⟨#[]⟩ : ByteArray) [] [] = some true := by
    unfold filter_May.f
    rw [if_pos (show szF 12 ⟨1, ⟨#[]⟩, ⟨#[]⟩, [], []⟩ from ⟨fun i hi => absurd hi (Nat.not_lt_zero _), fun x hx => by cases hx⟩)]
    congr 1
    unfold mayD mayG bareB
    dsimp only
    rw [if_pos (.inl rfl)]
    decide +kernel
  rw [hm]
  refine Ev.bs (Ev.congr (fun k => if_pos rfl) ?_)
  suffices h : Ev (fun k => eval_eval.f k 1 (⟨#[]⟩ : ByteArray) (⟨#[]⟩ : ByteArray) [] [] a0 l1) 1 from h.bind (Ev.now _)
  refine Ev.step (fun k => by rw [eval_eval.f]) (Ev.step (fun k => by rw [eval_eval.l0]) ?_)
  refine Ev.ifn (c := (0 : Int) < (([] : List S25).length : Int)) (by decide) (Ev.ifp (c := (1 : Int) = 1) rfl ?_)
  unfold eval_first.f
  refine Ev.bind (a := 1) ((contains_nil 0).bind (Ev.congr (fun k => if_neg (by decide)) ((contains_nil 2).bind (Ev.congr (fun k => if_neg (by decide)) (Ev.now _))))) (Ev.now _)
theorem awake7_ev : Ev (fun k => brooklaw7_awake.f k) true := by
  unfold brooklaw7_awake.f
  refine (eval_all_nil (⟨#[]⟩ : ByteArray) []).bind (Ev.congr (fun k => if_pos rfl) ?_)
  have hp : brooklaw4_Person.f (⟨#[97, 110, 110]⟩ : ByteArray) = some ((((⟨#[99, 110, 61]⟩ : ByteArray) ++ ⟨#[97, 110, 110]⟩) ++ (⟨#[44, 111, 61, 120]⟩ : ByteArray)), ([(⟨(⟨#[99, 110]⟩ : ByteArray), (([(⟨#[97, 110, 110]⟩ : ByteArray)] : List ByteArray))⟩ : S45), (⟨(⟨#[111, 98, 106, 101, 99, 116, 99, 108, 97, 115, 115]⟩ : ByteArray), (([(⟨#[112, 101, 114, 115, 111, 110]⟩ : ByteArray)] : List ByteArray))⟩ : S45), (⟨(⟨#[115, 110]⟩ : ByteArray), (([(⟨#[115]⟩ : ByteArray)] : List ByteArray))⟩ : S45)])) := by
    unfold brooklaw4_Person.f
    rw [if_pos (by decide), if_pos (by decide)]
  rw [hp]
  refine Ev.bs ?_
  have h := eval_leaf 4 (⟨#[99, 110]⟩ : ByteArray) (⟨#[65, 78, 78]⟩ : ByteArray) (((⟨#[99, 110, 61]⟩ : ByteArray) ++ ⟨#[97, 110, 110]⟩) ++ (⟨#[44, 111, 61, 120]⟩ : ByteArray)) ([(⟨(⟨#[99, 110]⟩ : ByteArray), (([(⟨#[97, 110, 110]⟩ : ByteArray)] : List ByteArray))⟩ : S45), (⟨(⟨#[111, 98, 106, 101, 99, 116, 99, 108, 97, 115, 115]⟩ : ByteArray), (([(⟨#[112, 101, 114, 115, 111, 110]⟩ : ByteArray)] : List ByteArray))⟩ : S45), (⟨(⟨#[115, 110]⟩ : ByteArray), (([(⟨#[115]⟩ : ByteArray)] : List ByteArray))⟩ : S45)]) [(⟨#[97, 110, 110]⟩ : ByteArray)] (.inl rfl) (by decide +kernel) (by decide) (by decide) (by decide +kernel) (by decide +kernel) (by decide)
  rw [show leafT 4 (⟨#[99, 110]⟩ : ByteArray) (⟨#[65, 78, 78]⟩ : ByteArray) [(⟨#[97, 110, 110]⟩ : ByteArray)] = 1 by decide +kernel] at h
  exact h.bind (Ev.now _)
theorem sqR_plain : ∀ (l : List UInt8), (∀ c ∈ l, c ≠ 32) → sqR false l = l
  | [], _ => rfl
  | c :: r, h => by
    have hc : c ≠ 32 := h c List.mem_cons_self
    rw [sqR, if_neg (fun hh => hc hh.1), decide_eq_false hc, sqR_plain r (fun d hd => h d (List.mem_cons_of_mem _ hd))]
theorem low_ne32 (c : UInt8) (h : c ≠ 32) : lowB c ≠ 32 := by
  intro e
  exact h ((byteAll (p := fun c => lowB c = 32 → c = 32) (by decide +kernel) c) e)
theorem fold_plain (l : List UInt8) (h : ∀ c ∈ l, c ≠ 32) : foldL l = l.map lowB := by
  have h1 : l.head? ≠ some 32 := fun e => h 32 (List.mem_of_head? e) rfl
  have h2 : l.getLast? ≠ some 32 := fun e => h 32 (List.mem_of_getLast? e) rfl
  rw [foldL_R, trim_id l h1 h2]
  refine sqR_plain _ (fun c hc => ?_)
  obtain ⟨d, hd, rfl⟩ := List.mem_map.1 hc
  exact low_ne32 d (h d hd)
theorem itoa_ne32 (m : Int) : ∀ c ∈ Lib.itoa m, c ≠ 32 := by
  intro c hc e
  rcases itoa_chars m c hc with h | h
  · rw [e] at h; exact absurd h (by decide)
  · rw [e] at h; exact absurd h.1 (by decide)
theorem low_itoa (m : Int) : (Lib.itoa m).map lowB = Lib.itoa m := by
  refine (List.map_congr_left (fun c hc => ?_)).trans (List.map_id _)
  rcases itoa_chars m c hc with h | h
  · rw [h]; decide
  · unfold lowB
    rw [if_neg]
    · rfl
    · intro hh
      have := UInt8.le_iff_toNat_le.1 hh.1
      have e : (65 : UInt8).toNat = 65 := rfl
      omega
theorem norm_number (t : List UInt8) (m : Int) (hr : ruleL t = 2) (h0 : -1000000000000000 < m) (h1 : m < 1000000000000000) : normL t (Lib.itoa m) = some (Lib.itoa m) := by
  have hl := itoa_len m h0 h1
  unfold normL normO
  rw [if_neg (by rw [not_or]; exact ⟨hl.2, by omega⟩), hr, if_neg (by decide), if_pos rfl, if_pos (number_itoa m h0 h1)]
theorem norm_text (t : List UInt8) (c : UInt8) (m : Int) (hr : ruleL t = 1) (hc : c ≠ 32) (h0 : -1000000000000000 < m) (h1 : m < 1000000000000000) : normL t (c :: Lib.itoa m) = some (lowB c :: Lib.itoa m) := by
  have hl := itoa_len m h0 h1
  have hf : foldL (c :: Lib.itoa m) = lowB c :: Lib.itoa m := by
    rw [fold_plain _ (fun d hd => by
      rcases List.mem_cons.1 hd with h | h
      · rw [h]; exact hc
      · exact itoa_ne32 m d h), List.map_cons, low_itoa]
  unfold normL normO
  rw [if_neg (by rw [not_or]; exact ⟨by simp, by rw [List.length_cons]; omega⟩), hr, if_pos rfl, hf, if_neg (by simp)]
theorem valI_itoa (m : Int) (h0 : -1000000000000000 < m) (h1 : m < 1000000000000000) : valI (Lib.itoa m) = m := by
  unfold valI
  rw [atoi_itoa m h0 h1]
theorem some_one (p : Nat → Bool) : someI p 1 = p 0 := by
  unfold someI
  rw [List.range_one, List.any_cons, List.any_nil, Bool.or_false]
theorem vals_ok (a0 t1 t2 typ : ByteArray) (v1 v2 : ByteArray) (h1 : t1.size ≤ 1000) (h2 : t2.size ≤ 1000) (h3 : typ.size ≤ 1000) :
    ([(⟨t1, [v1]⟩ : S45), ⟨t2, [v2]⟩] : List S45).length ≤ 1000000000 ∧ (∀ i : Nat, i < ([(⟨t1, [v1]⟩ : S45), ⟨t2, [v2]⟩] : List S45).length → (rd_T45 [(⟨t1, [v1]⟩ : S45), ⟨t2, [v2]⟩] (i : Int)).f0.size ≤ 9223372036854775807 ∧ (rd_T45 [(⟨t1, [v1]⟩ : S45), ⟨t2, [v2]⟩] (i : Int)).f1.length ≤ 1000000000) ∧ typ.size ≤ 9223372036854775807 := by
  refine ⟨show 2 ≤ 1000000000 by decide, fun i hi => ?_, by omega⟩
  have hi : i < 2 := hi
  have hh : i = 0 ∨ i = 1 := by omega
  rcases hh with rfl | rfl
  · exact ⟨show t1.size ≤ _ by omega, show 1 ≤ 1000000000 by decide⟩
  · exact ⟨show t2.size ≤ _ by omega, show 1 ≤ 1000000000 by decide⟩
theorem vals_first (a0 t1 t2 typ v1 v2 : ByteArray) (h1 : t1.size ≤ 1000) (h2 : t2.size ≤ 1000) (h3 : typ.size ≤ 1000) (e : ((lowS t1).toList == (lowS typ).toList) = true) :
    entry_Vals.f a0 [(⟨t1, [v1]⟩ : S45), ⟨t2, [v2]⟩] typ = some [v1] := by
  unfold entry_Vals.f
  rw [if_pos (vals_ok a0 t1 t2 typ v1 v2 h1 h2 h3)]
  have hf : firstI (valsAt [(⟨t1, [v1]⟩ : S45), ⟨t2, [v2]⟩] typ) ([(⟨t1, [v1]⟩ : S45), ⟨t2, [v2]⟩] : List S45).length = ((0 : Nat) : Int) := firstI_hit _ _ 0 (show 0 < 2 by decide) e (fun j hj => absurd hj (Nat.not_lt_zero _))
  rw [hf]
  rfl
theorem vals_second (a0 t1 t2 typ v1 v2 : ByteArray) (h1 : t1.size ≤ 1000) (h2 : t2.size ≤ 1000) (h3 : typ.size ≤ 1000) (e1 : ((lowS t1).toList == (lowS typ).toList) = false) (e : ((lowS t2).toList == (lowS typ).toList) = true) :
    entry_Vals.f a0 [(⟨t1, [v1]⟩ : S45), ⟨t2, [v2]⟩] typ = some [v2] := by
  unfold entry_Vals.f
  rw [if_pos (vals_ok a0 t1 t2 typ v1 v2 h1 h2 h3)]
  have hf : firstI (valsAt [(⟨t1, [v1]⟩ : S45), ⟨t2, [v2]⟩] typ) ([(⟨t1, [v1]⟩ : S45), ⟨t2, [v2]⟩] : List S45).length = ((1 : Nat) : Int) := firstI_hit _ _ 1 (show 1 < 2 by decide) e (fun j hj => by
    have : j = 0 := by omega
    subst this
    exact e1)
  rw [hf]
  rfl
theorem ord_j (m n : Int) (typ val v : ByteArray) (l1 : List S45) (x12 x13 : Bool) (a b : List UInt8) (ht : typedL typ.data.toList = true) (hts : typ.size ≤ 1000) (hv : val.size ≤ 100) (hR : ruleL typ.data.toList ≠ 0)
    (hvs : entry_Vals.f (⟨#[]⟩ : ByteArray) l1 typ = some [v]) (ha : normL typ.data.toList v.data.toList = some a) (hb : normL typ.data.toList val.data.toList = some b) (hab : (a == b) = (m == n))
    (h1 : lessP (ruleL typ.data.toList) (some a) (some b) = (x12, true)) (h2 : lessP (ruleL typ.data.toList) (some b) (some a) = (x13, true)) (h3 : (lessP (ruleL typ.data.toList) (some b) (some b)).2 = true) :
    Ev (fun k => brooklaw7_EvalOrder.j0 k m n typ val x12 x13 (⟨#[]⟩ : ByteArray) l1) true := by
  have E4 := eval_leaf 4 typ val (⟨#[]⟩ : ByteArray) l1 [v] (.inl rfl) ht (by omega) hv hR hvs (show 1 ≤ 1000000000 by decide)
  have E6 := eval_leaf 6 typ val (⟨#[]⟩ : ByteArray) l1 [v] (.inr (.inl rfl)) ht (by omega) hv hR hvs (show 1 ≤ 1000000000 by decide)
  have E7 := eval_leaf 7 typ val (⟨#[]⟩ : ByteArray) l1 [v] (.inr (.inr rfl)) ht (by omega) hv hR hvs (show 1 ≤ 1000000000 by decide)
  have z : ∀ p : Nat → Bool, someI p ([v] : List ByteArray).length = p 0 := some_one
  have r4 : leafT 4 typ val [v] = if (m == n) = true then 1 else 0 := by
    unfold leafT
    rw [if_pos rfl, hb, if_pos (show (some b).isSome = true from rfl), z]
    show (if sameO (normL typ.data.toList v.data.toList) (normL typ.data.toList val.data.toList) = true then (1 : Int) else 0) = _
    rw [ha, hb]
    show (if (a == b) = true then (1 : Int) else 0) = _
    rw [hab]
  have l3 : (lessT typ val val).2 = true := by unfold lessT; rw [hb]; exact h3
  have r6 : leafT 6 typ val [v] = if (!x12) = true then 1 else 0 := by
    unfold leafT
    rw [if_neg (by decide), l3, if_neg (by decide), z]
    show (if ordT 6 typ val v = true then (1 : Int) else 0) = _
    have o : ordT 6 typ val v = !x12 := by
      unfold ordT lessT
      rw [if_neg (show ¬ (6 : Int) = 7 by decide), ha, hb, h1, Bool.true_and]
    rw [o]
  have r7 : leafT 7 typ val [v] = if (!x13) = true then 1 else 0 := by
    unfold leafT
    rw [if_neg (by decide), l3, if_neg (by decide), z]
    show (if ordT 7 typ val v = true then (1 : Int) else 0) = _
    have o : ordT 7 typ val v = !x13 := by
      unfold ordT lessT
      rw [if_pos rfl, ha, hb, h2, Bool.true_and]
    rw [o]
  rw [r4] at E4
  rw [r6] at E6
  rw [r7] at E7
  refine Ev.step (fun k => by rw [brooklaw7_EvalOrder.j0]) (E4.bind (E6.bind (E7.bind ?_)))
  have q4 : (((if (m == n) = true then (1 : Int) else 0) == 1) == (m == n)) = true := by cases (m == n) <;> rfl
  have q6 : (((if (!x12) = true then (1 : Int) else 0) == 1) == (!x12)) = true := by cases x12 <;> rfl
  have q7 : (((if (!x13) = true then (1 : Int) else 0) == 1) == (!x13)) = true := by cases x13 <;> rfl
  have n4 : ¬ (if (m == n) = true then (1 : Int) else 0) = 2 := by cases (m == n) <;> decide
  have n6 : ¬ (if (!x12) = true then (1 : Int) else 0) = 2 := by cases x12 <;> decide
  have n7 : ¬ (if (!x13) = true then (1 : Int) else 0) = 2 := by cases x13 <;> decide
  exact Ev.ifp q4 (Ev.ifp q6 (Ev.ifp q7 (Ev.ifn n4 (Ev.ifn n6 (Ev.ifn n7 (awake7_ev.bind (Ev.now _)))))))
theorem tmod6_range (a : Int) : -1000000 < Int.tmod a 1000000 ∧ Int.tmod a 1000000 < 1000000 := by
  rcases Int.le_total 0 a with h | h
  · have := Int.tmod_nonneg 1000000 h
    have := Int.tmod_lt_of_pos a (b := 1000000) (by decide)
    omega
  · have h' : 0 ≤ -a := by omega
    have h1 := Int.tmod_nonneg 1000000 h'
    have h2 := Int.tmod_lt_of_pos (-a) (b := 1000000) (by decide)
    rw [Int.neg_tmod] at h1 h2
    omega
theorem itoa_beq (m n : Int) (m0 : -1000000000000000 < m) (m1 : m < 1000000000000000) (n0 : -1000000000000000 < n) (n1 : n < 1000000000000000) : (Lib.itoa m == Lib.itoa n) = (m == n) := by
  by_cases hq : m = n
  · subst hq; rw [beq_self_eq_true, beq_self_eq_true]
  · have : Lib.itoa m ≠ Lib.itoa n := fun h => hq (itoa_inj m0 m1 n0 n1 h)
    rw [beq_eq_false_iff_ne.2 this, beq_eq_false_iff_ne.2 hq]
theorem one_app (c : UInt8) (l : List UInt8) : (⟨#[c]⟩ : ByteArray) ++ mk l = mk (c :: l) := by apply ba_ext; rw [append_data, mk_data, mk_data]; rfl
theorem order_true (a0 a1 : Int) (a2 : Bool) : ∃ k, brooklaw7_EvalOrder.f k a0 a1 a2 = some true := by
  obtain ⟨m0, m1⟩ := tmod6_range a0
  obtain ⟨n0, n1⟩ := tmod6_range a1
  generalize hm : Int.tmod a0 1000000 = m at m0 m1
  generalize hn : Int.tmod a1 1000000 = n at n0 n1
  have d1 : brookref1_Digits.f m = some (mk (Lib.itoa m)) := by unfold brookref1_Digits.f; rw [if_pos (by omega)]
  have d2 : brookref1_Digits.f n = some (mk (Lib.itoa n)) := by unfold brookref1_Digits.f; rw [if_pos (by omega)]
  have lm := (itoa_len m (by omega) (by omega)).1
  have ln := (itoa_len n (by omega) (by omega)).1
  apply Ev.rounds
  unfold brooklaw7_EvalOrder.f
  rw [hm, hn, d1, d2]
  refine Ev.bs (Ev.bs (Ev.ifp (by rw [mk_size]; omega) (Ev.bs (Ev.bs ?_))))
  rw [one_app, one_app]
  cases a2 with
  | true =>
    refine Ev.ifp rfl (Ev.ifp (by rw [mk_size]; omega) (Ev.bs (Ev.ifp (by rw [mk_size]; omega) (Ev.bs (Ev.ifp (by rw [mk_size]; omega) (Ev.bs (Ev.ifp (by rw [mk_size]; omega) (Ev.bs (Ev.ifp (by rw [mk_size]; omega) ?_)))))))))
    rw [one_app, one_app]
    refine ord_j m n (⟨#[99, 110]⟩ : ByteArray) (mk (67 :: Lib.itoa n)) (mk (99 :: Lib.itoa m)) _ _ _ (99 :: Lib.itoa m) (99 :: Lib.itoa n) (by decide +kernel) (by decide) (by rw [mk_size, List.length_cons]; omega) (by decide +kernel)
      (vals_second _ _ _ _ _ _ (by decide) (by decide) (by decide) (by decide +kernel) (by decide +kernel)) ?_ ?_ ?_ ?_ ?_ ?_
    · rw [mk_data]; exact norm_text _ 99 m (by decide +kernel) (by decide) (by omega) (by omega)
    · rw [mk_data]; exact norm_text _ 67 n (by decide +kernel) (by decide) (by omega) (by omega)
    · rw [← itoa_beq m n (by omega) (by omega) (by omega) (by omega)]; rfl
    · rw [show ruleL (⟨#[99, 110]⟩ : ByteArray).data.toList = 1 by decide +kernel, mk_toList, mk_toList]; rfl
    · rw [show ruleL (⟨#[99, 110]⟩ : ByteArray).data.toList = 1 by decide +kernel, mk_toList, mk_toList]; rfl
    · rw [show ruleL (⟨#[99, 110]⟩ : ByteArray).data.toList = 1 by decide +kernel]; rfl
  | false =>
    refine Ev.ifn (by decide) ?_
    refine ord_j m n (⟨#[117, 105, 100, 78, 117, 109, 98, 101, 114]⟩ : ByteArray) (mk (Lib.itoa n)) (mk (Lib.itoa m)) _ _ _ (Lib.itoa m) (Lib.itoa n) (by decide +kernel) (by decide) (by rw [mk_size]; omega) (by decide +kernel)
      (vals_first _ _ _ _ _ _ (by decide) (by decide) (by decide) (by decide +kernel)) ?_ ?_ ?_ ?_ ?_ ?_
    · rw [mk_data]; exact norm_number _ m (by decide +kernel) (by omega) (by omega)
    · rw [mk_data]; exact norm_number _ n (by decide +kernel) (by omega) (by omega)
    · exact itoa_beq m n (by omega) (by omega) (by omega) (by omega)
    · rw [show ruleL (⟨#[117, 105, 100, 78, 117, 109, 98, 101, 114]⟩ : ByteArray).data.toList = 2 by decide +kernel]
      show (decide (valI (Lib.itoa m) < valI (Lib.itoa n)), true) = _
      rw [valI_itoa m (by omega) (by omega), valI_itoa n (by omega) (by omega)]
    · rw [show ruleL (⟨#[117, 105, 100, 78, 117, 109, 98, 101, 114]⟩ : ByteArray).data.toList = 2 by decide +kernel]
      show (decide (valI (Lib.itoa n) < valI (Lib.itoa m)), true) = _
      rw [valI_itoa m (by omega) (by omega), valI_itoa n (by omega) (by omega)]
    · rw [show ruleL (⟨#[117, 105, 100, 78, 117, 109, 98, 101, 114]⟩ : ByteArray).data.toList = 2 by decide +kernel]; rfl
end Go.Proofs.YthfpaoacjpjnfaaGreatDoor.P

namespace Go.Proofs.YthfpaoacjpjnfaaGreatDoor.evalOrder
open Go.ChangeShapes Go.WideShapes Go.ChangeAt Go.RowKit Go.Proofs.YthfpaoacjpjnfaaGreatDoor.P Go.Proofs.YthfpaoacjpjnfaaGreatDoorW.PrintWords
open Go.ChangeMaps (open_string shut_string)
set_option linter.unusedVariables false
set_option maxRecDepth 100000 in
theorem contract (H : Type) (enc : TypeId × Value → H) (W : World) (base : Nat) (args : Array Value) (ds gs : List (DataW H)) (before : List MemPlace)
    (hval0 : ∀ (j : Nat) t v, Tryz.f9.params[j]? = some t → args[j]? = some v → Value.okWide Tryz.prog W .any base t v)
    (hW : DataW.Whole enc Tryz.prog Tryz.f9.params.toList Rows.evalOrderSpec.vars false W args.toList ds gs before)
    (hsz0 : (DataW.weightsEach Tryz.prog (Tryz.f9.params.toList ++ Rows.evalOrderSpec.plain.varTypes Tryz.prog) (ds ++ gs)).all (· ≤ reachBytes) = true) (hG : Gl W) :
    Calls Tryz.prog 9 args W fun e W' => ∃ v, e = .returned v ∧ Rows.evalOrderSpec.post enc Tryz.prog Tryz.f9 false true false false W args v W' := by
  have hsz := hsz0
  have hval := hval0
  have hW' := hW
  obtain ⟨p, q, hA0, hV, rfl, hfz, hnd⟩ := hW
  have hA : DataW.TrodAll enc Tryz.prog W 0 (fun _ => true) true Tryz.f9.params.toList args.toList ds p := hA0
  rw [Tryz.params9] at hA hval hsz
  obtain ⟨v0, vs0, d0, ds0, p0, q0, hargs, rfl, rfl, h0, r0⟩ := trodAll_cons hA
  obtain ⟨v1, vs1, d1, ds1, p1, q1, rfl, rfl, rfl, h1, r1⟩ := trodAll_cons r0
  obtain ⟨v2, vs2, d2, ds2, p2, q2, rfl, rfl, rfl, h2, r2⟩ := trodAll_cons r1
  obtain ⟨rfl, rfl, rfl⟩ := trodAll_nil r2
  obtain rfl : args = #[v0, v1, v2] := by cases args; simp_all
  obtain ⟨rfl, rfl⟩ := trodVars_none hV
  obtain ⟨a0, rfl, rfl, rfl, w0⟩ := open_int Tryz.underlying3 (hval 0 3 v0 rfl rfl) h0
  obtain ⟨a1, rfl, rfl, rfl, w1⟩ := open_int Tryz.underlying3 (hval 1 3 v1 rfl rfl) h1
  obtain ⟨a2, rfl, rfl, rfl⟩ := open_bool Tryz.underlying4 (hval 2 4 v2 rfl rfl) h2
  clear hA0 hval0 hsz0 hsz
  have walk : Calls Tryz.prog 9 #[.int .i64 a0, .int .i64 a1, .bool a2] W fun e w' => e = .returned (.bool true) ∧ Below W.heap.size W w' := (by
    obtain ⟨k, hk⟩ := order_true a0 a1 a2
    exact brooklaw7_EvalOrder.calls k a0 a1 a2 true W hG hk)
  refine walk.mono fun e W' ⟨he, bel⟩ => ?_
  subst he
  exact ⟨_, rfl, _, _, _, [], _, [], hW', trodAll_mk1 (shut_bool Tryz.underlying4 _), (trodAll_cons_mk (shut_int Tryz.underlying3 w0) (trodAll_cons_mk (shut_int Tryz.underlying3 w1) (trodAll_cons_mk (shut_bool Tryz.underlying4 _) trodAll_mk0))), rfl, bel.frame _, fun h => by cases h⟩
theorem reads (os : Os) {H : Type} (enc : TypeId × Value → H) : ∃ places, DataW.whole enc Tryz.prog ((laidWorld os).forCall (fun _ _ => 0) ⟨#[], #[.int .i64 0, .int .i64 0, .bool false], []⟩).memory Tryz.f9.params.toList Rows.evalOrderSpec.vars false (#[.int .i64 0, .int .i64 0, .bool false] : Array Value).toList 8 = some ([.lit (.int .i64 0), .lit (.int .i64 0), .lit (.bool false)], [], places) :=
  ⟨[], by kernel_rfl⟩
set_option maxRecDepth 100000 in
theorem lifted (os : Os) (started : os.Started) (H : Type) (enc : TypeId × Value → H) (F : Stop.Interp) :
    ReturnsInHanded {} Tryz.checked os 9 .any ((OpenSpec.ofChange Rows.evalOrderSpec).preRow enc Tryz.prog Tryz.f9 Rows.evalOrderRow.domain false Rows.evalOrderRow.laid) (((OpenSpec.ofChange Rows.evalOrderSpec).at F).post enc Tryz.prog Tryz.f9 false true false false) := by
  obtain ⟨places, hx⟩ := reads os enc
  refine returnsInHanded_of_row (C := Tryz.checked) (s := OpenSpec.ofChange Rows.evalOrderSpec) own started (by kernel_rfl) Tryz.func9
    (witness_row_at (enc := enc) (C := Tryz.checked) false (laidWorld os) #[.int .i64 0, .int .i64 0, .bool false] (World.laidAll_os _ _ _) (by kernel_rfl) (by kernel_rfl) (by kernel_rfl)
      (OpenSpec.preRow_of_cond 8 hx (by kernel_rfl) (fun k hk => by cases hk) (by kernel_rfl) (laid_met os _))) ?_
  intro W base args ds gs before hval hW _ _ hsz hL hsh _
  exact contract H enc W base args ds gs before hval hW hsz (gl_of hL hsh)
theorem said : Rows.EvalOrderSaid :=
  OpenClaim.holds_of_cond 9 Tryz.f9 rfl rfl rfl rfl rfl rfl rfl ⟨rfl, rfl, rfl, rfl, rfl⟩ rfl rfl rfl rfl rfl (by kernel_rfl) Tryz.func9 (by kernel_rfl)
    (of_decide_eq_true (by kernel_rfl)) (by unfold Func.isWrapper; first | (rw [if_pos (by decide +kernel)]; kernel_rfl) | (rw [if_neg (by decide +kernel)]; exact ⟨rfl, rfl⟩))
    (fun os started H enc _ F => by rw [OpenClaim.pre_eq_preRow]; exact lifted os started H enc F)
theorem plain (f : FuncId) (fn : Func) (hf : Tryz.pinned.checked.prog.funcNamed "brook/brooklaw7.EvalOrder" = some f) (hfn : Tryz.pinned.checked.prog.funcs[f]? = some fn) :
    true = Tryz.pinned.checked.prog.looks [] ∧ ∀ (j : Nat) t, fn.params[j]? = some t → Tryz.pinned.checked.prog.wantsStandIn t = false := by
  obtain rfl : f = 9 := Option.some.inj ((show Tryz.prog.funcNamed "brook/brooklaw7.EvalOrder" = some 9 by kernel_rfl).symm.trans hf) |>.symm
  obtain rfl : fn = Tryz.f9 := (Option.some.inj (Tryz.func9.symm.trans hfn)).symm
  refine ⟨by kernel_rfl, fun j t ht => ?_⟩
  rw [Tryz.params9] at ht
  have hm : t ∈ [3, 3, 4] := by simpa using Array.mem_of_getElem? ht
  have hall : ([3, 3, 4].all fun u => !Tryz.prog.wantsStandIn u) = true := by kernel_rfl
  exact (show Tryz.prog.wantsStandIn t = false by simpa using List.all_eq_true.1 hall t hm)
theorem card : Rows.EvalOrderCardSaid :=
  Claim7.holds_tied_plain_at .later [] _ _ _ _ said (fun _ h => by cases h) (by kernel_rfl) (fun _ h => by cases h) evalOrder_row_tie rfl ⟨rfl, rfl⟩ (by kernel_rfl) rfl plain (by kernel_rfl)
#print axioms card
end Go.Proofs.YthfpaoacjpjnfaaGreatDoor.evalOrder
namespace Go.Proofs.YthfpaoacjpjnfaaGreatDoor
theorem evalOrder_card : Rows.EvalOrderCardSaid := evalOrder.card
end Go.Proofs.YthfpaoacjpjnfaaGreatDoor
