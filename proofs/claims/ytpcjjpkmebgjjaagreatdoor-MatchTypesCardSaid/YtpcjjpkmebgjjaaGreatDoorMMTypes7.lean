/- So of each type there is, in whatever letters: name, rule, norms, likeness and order are the document's answer. Conditions: those of the card's own row. -/
import Derived.Test.YtpcjjpkmebgjjaaGreatDoorMMTypes2
import Derived.Test.YtpcjjpkmebgjjaaGreatDoorMMTypes6
import Derived.Test.YtpcjjpkmebgjjaaGreatDoorMMTypes4
import Derived.Test.YtpcjjpkmebgjjaaGreatDoorMMTypes3
import Derived.Test.YtpcjjpkmebgjjaaGreatDoorCards
import Derived.Test.YtpcjjpkmebgjjaaGreatDoorTie
import Derived.WalkKit
import Derived.ProofKit
import Derived.OpenShut
import Derived.ShutString
import Derived.ChangeOld
import Derived.ChangeSame
import Derived.Below
import Derived.SizedLaws
import Derived.Deep.DeepHandedRow
import Derived.JoinedCond
import Derived.SevenTiedAt
import Derived.Lay
import Derived.Deep.Grids
namespace Go.Proofs.YtpcjjpkmebgjjaaGreatDoor.P
open Go.RowKit Go.Proofs.YtpcjjpkmebgjjaaGreatDoorW.PrintWords Go.Proofs.YtpcjjpkmebgjjaaGreatDoorW.PrintLast Go.Proofs.YtpcjjpkmebgjjaaGreatDoorW.PrintMore
attribute [local go_sem] max2_int min2_int max_two min_two max_three min_three max_four min_four
set_option linter.unusedVariables false
set_option linter.unusedSimpArgs false
def brooklaw3_MatchAll.j0 : Nat → ByteArray → ByteArray → ByteArray → Bool → Option (Bool)
 | 0, _, _, _, _ => none
 | k + 1, x0, x1, x2, x29 => if x29 = true then ((brooklaw3_awake.f k).bind fun t274 => (some t274)) else ((match_Canon.f x0).bind fun bt275 => ((brookref1_Canon.f k x0).bind fun bt277 => ((match_Norm.f k x0 x1).bind fun bt280 => ((brookref1_Norm.f k x0 x1).bind fun bt282 => ((match_Less.f k x0 x1 x2).bind fun bt285 => ((brookref1_Less.f k x0 x1 x2).bind fun bt287 => (if bt275.1.toList = bt277.1.toList then (if (bt275.2 == bt277.2) = true then ((match_Rule.f x0).bind fun t289 => ((brookref1_Rule.f k x0).bind fun t290 => (if t289 = t290 then (if bt280.1.toList = bt282.1.toList then (if (bt280.2 == bt282.2) = true then ((match_Same.f k x0 x1 x2).bind fun t291 => ((brookref1_SameVal.f k x0 x1 x2).bind fun t292 => (if (t291 == t292) = true then (if (bt285.1 == bt287.1) = true then (if (bt285.2 == bt287.2) = true then ((brooklaw3_awake.f k).bind fun t293 => (some t293)) else (some false)) else (some false)) else (some false)))) else (some false)) else (some false)) else (some false)))) else (some false)) else (some false))))))))
def brooklaw3_MatchAll.f (k : Nat) (a0 : ByteArray) (a1 : ByteArray) (a2 : ByteArray) : Option (Bool) := if (a0.size : Int) > 60 then (brooklaw3_MatchAll.j0 k a0 a1 a2 true) else (if (a1.size : Int) > 300 then (brooklaw3_MatchAll.j0 k a0 a1 a2 true) else (brooklaw3_MatchAll.j0 k a0 a1 a2 (decide ((a2.size : Int) > 300))))
set_option maxHeartbeats 8000000 in
set_option maxRecDepth 100000 in
theorem brooklaw3_MatchAll.calls (k : Nat) (a0 : ByteArray) (a1 : ByteArray) (a2 : ByteArray) (r : Bool) (w : World) (hG : Gl w) (h : brooklaw3_MatchAll.f k a0 a1 a2 = some r) (hr : r = true := by rfl) :
  Calls Tryz.prog 3 #[.string a0, .string a1, .string a2] w fun e w' => e = .returned (.bool r) ∧ Below w.heap.size w w' := by
 have HRT := Aside0.mk hr
 clear hr
 have hu26 := Tryz.underlying26
 have HB := Aside0.mk (Below.refl w.heap.size w)
 have HG := Aside0.mk hG
 clear hG
 have H : (if (a0.size : Int) > 60 then (brooklaw3_MatchAll.j0 k a0 a1 a2 true) else (if (a1.size : Int) > 300 then (brooklaw3_MatchAll.j0 k a0 a1 a2 true) else (brooklaw3_MatchAll.j0 k a0 a1 a2 (decide ((a2.size : Int) > 300))))) = some r := h
 clear h
 have HC4 := Aside0.mk H
 clear H
 go_enter Tryz.func3, Tryz.ntmps3
 go_upto_region 1 with (fail)
 go_cut [29] (fun v29 wc => ∃ (kq : Nat) (x29_3 : Bool), v29 = .bool x29_3 ∧ Aside0 (brooklaw3_MatchAll.j0 kq a0 a1 a2 x29_3 = some r) ∧ Aside0 (kq ≤ k) ∧ Aside0 (Below w.heap.size w wc))
 case first =>
  have H := HC4.out
  clear HC4
  by_cases c5 : (a0.size : Int) > 60
  ·rw [if_pos c5] at H
   have c5b0 : decide (60 < (a0.size : Int)) = true := decide_eq_true c5
   have c5b1 : decide (60 < a0.size) = true := decide_eq_true (by omega)
   clear c5
   (first | rw [c5b0] | (simp only [i64_w, i32_w]; rw [c5b0]) | skip)
   have H' := Aside0.mk H
   clear H
   go_wp2
   go_meet
   case rel => exact ⟨_, (true), (by first | rfl | (simp; done) | (simp [*]; done) | (simp [*, i64_w, i32_w, u8_w]; done) | (simp only [bneNil, beqNil]; done) | (simp only [bneNil, beqNil]; simp; done) | (simp only [bneNil, beqNil]; simp [*]; done)), H', ⟨by first | omega | exact Nat.le_refl _⟩, ⟨by repeat (first | (with_reducible first | exact HB.out | apply below_alloc | apply pw_below_drewN | apply below_drew1) | exact HB.out)⟩⟩
  ·rw [if_neg c5] at H
   have c5b0 : decide (60 < (a0.size : Int)) = false := decide_eq_false c5
   have c5b1 : decide (60 < a0.size) = false := decide_eq_false (by omega)
   clear c5
   (first | rw [c5b0] | (simp only [i64_w, i32_w]; rw [c5b0]) | skip)
   by_cases c6 : (a1.size : Int) > 300
   ·rw [if_pos c6] at H
    have c6b0 : decide (300 < (a1.size : Int)) = true := decide_eq_true c6
    have c6b1 : decide (300 < a1.size) = true := decide_eq_true (by omega)
    clear c6
    have H' := Aside0.mk H
    clear H
    go_wp2
    go_meet
    case rel => exact ⟨_, (true), (by first | rfl | (simp; done) | (simp [*]; done) | (simp [*, i64_w, i32_w, u8_w]; done) | (simp only [bneNil, beqNil]; done) | (simp only [bneNil, beqNil]; simp; done) | (simp only [bneNil, beqNil]; simp [*]; done)), H', ⟨by first | omega | exact Nat.le_refl _⟩, ⟨by repeat (first | (with_reducible first | exact HB.out | apply below_alloc | apply pw_below_drewN | apply below_drew1) | exact HB.out)⟩⟩
   ·rw [if_neg c6] at H
    have c6b0 : decide (300 < (a1.size : Int)) = false := decide_eq_false c6
    have c6b1 : decide (300 < a1.size) = false := decide_eq_false (by omega)
    clear c6
    have H' := Aside0.mk H
    clear H
    go_wp2
    go_meet
    case rel => exact ⟨_, (decide ((a2.size : Int) > 300)), (by first | rfl | (simp; done) | (simp [*]; done) | (simp [*, i64_w, i32_w, u8_w]; done) | (simp only [bneNil, beqNil]; done) | (simp only [bneNil, beqNil]; simp; done) | (simp only [bneNil, beqNil]; simp [*]; done)), H', ⟨by first | omega | exact Nat.le_refl _⟩, ⟨by repeat (first | (with_reducible first | exact HB.out | apply below_alloc | apply pw_below_drewN | apply below_drew1) | exact HB.out)⟩⟩
 case rest =>
  clear HC4
  try clear p2
  try clear c3
  try clear c5
  try clear c5b0
  try clear c5b1
  try clear c6
  try clear c6b0
  try clear c6b1
  obtain ⟨kq, x29_3, rfl, HA, HJ3, HB⟩ := hcut
  cases kq with
  | zero => exact absurd HA.out (by simp [brooklaw3_MatchAll.j0])
  | succ kj3 =>
   have H := HA.out
   clear HA
   simp only [brooklaw3_MatchAll.j0] at H
   by_cases c7 : x29_3 = true
   ·subst c7
    have H1 : ((brooklaw3_awake.f kj3).bind fun t274 => (some t274)) = some r := by rw [if_pos rfl] at H; exact H
    clear H
    have H := H1
    clear H1
    replace H := Option.bind_eq_some_iff.mp H
    obtain ⟨t274, A80, H⟩ := H
    replace H : (some t274) = some r := H
    have A8 := Aside0.mk A80
    clear A80
    obtain rfl := Option.some.inj H
    go_wp2_with (first | ((with_reducible refine gate_callee (f := 6) rfl ?_); refine goesL_ (some 30) rfl rfl Tryz.func6 (by kernel_rfl) rfl #[] rfl (by (try simp only [List.map_toArray, List.map_cons, List.map_nil]); first | done | rfl | (simp only [List.length_drop, List.length_take]; rfl)) ?_; (with_reducible refine (brooklaw3_awake.calls kj3  t274 _ ?side1 A8.out).mono ?_); (case side1 => first | exact HG.out | exact Gl.drewN HG.out _ | exact Gl.below HG.out (by repeat (first | (with_reducible first | exact HB.out | apply below_alloc | apply pw_below_drewN | apply below_drew1) | exact HB.out))); rintro e w9 ⟨rfl, hb⟩; refine ⟨_, rfl, ?_⟩; have n0_ := Aside0.mk (below_step (by repeat (first | (with_reducible first | exact HB.out | apply below_alloc | apply pw_below_drewN | apply below_drew1) | exact HB.out)) hb); clear HB; have HB := n0_; clear n0_; (try clear hb); (try clear hb2); (try clear hk); (try clear hi)))
    go_ret
    exact ⟨by first | rfl | (simp [errW_none, errW_some] <;> rfl) | (simp [*, errW_none, errW_some] <;> rfl), by repeat (first | (with_reducible first | exact HB.out | apply below_alloc | apply pw_below_drewN | apply below_drew1) | exact HB.out)⟩
   ·replace c7 := Bool.eq_false_iff.mpr c7
    subst c7
    have H1 : ((match_Canon.f a0).bind fun bt275 => ((brookref1_Canon.f kj3 a0).bind fun bt277 => ((match_Norm.f kj3 a0 a1).bind fun bt280 => ((brookref1_Norm.f kj3 a0 a1).bind fun bt282 => ((match_Less.f kj3 a0 a1 a2).bind fun bt285 => ((brookref1_Less.f kj3 a0 a1 a2).bind fun bt287 => (if bt275.1.toList = bt277.1.toList then (if (bt275.2 == bt277.2) = true then ((match_Rule.f a0).bind fun t289 => ((brookref1_Rule.f kj3 a0).bind fun t290 => (if t289 = t290 then (if bt280.1.toList = bt282.1.toList then (if (bt280.2 == bt282.2) = true then ((match_Same.f kj3 a0 a1 a2).bind fun t291 => ((brookref1_SameVal.f kj3 a0 a1 a2).bind fun t292 => (if (t291 == t292) = true then (if (bt285.1 == bt287.1) = true then (if (bt285.2 == bt287.2) = true then ((brooklaw3_awake.f kj3).bind fun t293 => (some t293)) else (some false)) else (some false)) else (some false)))) else (some false)) else (some false)) else (some false)))) else (some false)) else (some false)))))))) = some r := by rw [if_neg (show ¬ (false = true) by decide)] at H; exact H
    clear H
    have H := H1
    clear H1
    replace H := Option.bind_eq_some_iff.mp H
    obtain ⟨⟨t275, t276⟩, A100, H⟩ := H
    replace H : ((brookref1_Canon.f kj3 a0).bind fun bt277 => ((match_Norm.f kj3 a0 a1).bind fun bt280 => ((brookref1_Norm.f kj3 a0 a1).bind fun bt282 => ((match_Less.f kj3 a0 a1 a2).bind fun bt285 => ((brookref1_Less.f kj3 a0 a1 a2).bind fun bt287 => (if t275.toList = bt277.1.toList then (if (t276 == bt277.2) = true then ((match_Rule.f a0).bind fun t289 => ((brookref1_Rule.f kj3 a0).bind fun t290 => (if t289 = t290 then (if bt280.1.toList = bt282.1.toList then (if (bt280.2 == bt282.2) = true then ((match_Same.f kj3 a0 a1 a2).bind fun t291 => ((brookref1_SameVal.f kj3 a0 a1 a2).bind fun t292 => (if (t291 == t292) = true then (if (bt285.1 == bt287.1) = true then (if (bt285.2 == bt287.2) = true then ((brooklaw3_awake.f kj3).bind fun t293 => (some t293)) else (some false)) else (some false)) else (some false)))) else (some false)) else (some false)) else (some false)))) else (some false)) else (some false))))))) = some r := H
    have A10 := Aside0.mk A100
    clear A100
    replace H := Option.bind_eq_some_iff.mp H
    obtain ⟨⟨t277, t278⟩, A110, H⟩ := H
    replace H : ((match_Norm.f kj3 a0 a1).bind fun bt280 => ((brookref1_Norm.f kj3 a0 a1).bind fun bt282 => ((match_Less.f kj3 a0 a1 a2).bind fun bt285 => ((brookref1_Less.f kj3 a0 a1 a2).bind fun bt287 => (if t275.toList = t277.toList then (if (t276 == t278) = true then ((match_Rule.f a0).bind fun t289 => ((brookref1_Rule.f kj3 a0).bind fun t290 => (if t289 = t290 then (if bt280.1.toList = bt282.1.toList then (if (bt280.2 == bt282.2) = true then ((match_Same.f kj3 a0 a1 a2).bind fun t291 => ((brookref1_SameVal.f kj3 a0 a1 a2).bind fun t292 => (if (t291 == t292) = true then (if (bt285.1 == bt287.1) = true then (if (bt285.2 == bt287.2) = true then ((brooklaw3_awake.f kj3).bind fun t293 => (some t293)) else (some false)) else (some false)) else (some false)))) else (some false)) else (some false)) else (some false)))) else (some false)) else (some false)))))) = some r := H
    have A11 := Aside0.mk A110
    clear A110
    replace H := Option.bind_eq_some_iff.mp H
    obtain ⟨⟨t280, t281⟩, A120, H⟩ := H
    replace H : ((brookref1_Norm.f kj3 a0 a1).bind fun bt282 => ((match_Less.f kj3 a0 a1 a2).bind fun bt285 => ((brookref1_Less.f kj3 a0 a1 a2).bind fun bt287 => (if t275.toList = t277.toList then (if (t276 == t278) = true then ((match_Rule.f a0).bind fun t289 => ((brookref1_Rule.f kj3 a0).bind fun t290 => (if t289 = t290 then (if t280.toList = bt282.1.toList then (if (t281 == bt282.2) = true then ((match_Same.f kj3 a0 a1 a2).bind fun t291 => ((brookref1_SameVal.f kj3 a0 a1 a2).bind fun t292 => (if (t291 == t292) = true then (if (bt285.1 == bt287.1) = true then (if (bt285.2 == bt287.2) = true then ((brooklaw3_awake.f kj3).bind fun t293 => (some t293)) else (some false)) else (some false)) else (some false)))) else (some false)) else (some false)) else (some false)))) else (some false)) else (some false))))) = some r := H
    have A12 := Aside0.mk A120
    clear A120
    replace H := Option.bind_eq_some_iff.mp H
    obtain ⟨⟨t282, t283⟩, A130, H⟩ := H
    replace H : ((match_Less.f kj3 a0 a1 a2).bind fun bt285 => ((brookref1_Less.f kj3 a0 a1 a2).bind fun bt287 => (if t275.toList = t277.toList then (if (t276 == t278) = true then ((match_Rule.f a0).bind fun t289 => ((brookref1_Rule.f kj3 a0).bind fun t290 => (if t289 = t290 then (if t280.toList = t282.toList then (if (t281 == t283) = true then ((match_Same.f kj3 a0 a1 a2).bind fun t291 => ((brookref1_SameVal.f kj3 a0 a1 a2).bind fun t292 => (if (t291 == t292) = true then (if (bt285.1 == bt287.1) = true then (if (bt285.2 == bt287.2) = true then ((brooklaw3_awake.f kj3).bind fun t293 => (some t293)) else (some false)) else (some false)) else (some false)))) else (some false)) else (some false)) else (some false)))) else (some false)) else (some false)))) = some r := H
    have A13 := Aside0.mk A130
    clear A130
    replace H := Option.bind_eq_some_iff.mp H
    obtain ⟨⟨t285, t286⟩, A140, H⟩ := H
    replace H : ((brookref1_Less.f kj3 a0 a1 a2).bind fun bt287 => (if t275.toList = t277.toList then (if (t276 == t278) = true then ((match_Rule.f a0).bind fun t289 => ((brookref1_Rule.f kj3 a0).bind fun t290 => (if t289 = t290 then (if t280.toList = t282.toList then (if (t281 == t283) = true then ((match_Same.f kj3 a0 a1 a2).bind fun t291 => ((brookref1_SameVal.f kj3 a0 a1 a2).bind fun t292 => (if (t291 == t292) = true then (if (t285 == bt287.1) = true then (if (t286 == bt287.2) = true then ((brooklaw3_awake.f kj3).bind fun t293 => (some t293)) else (some false)) else (some false)) else (some false)))) else (some false)) else (some false)) else (some false)))) else (some false)) else (some false))) = some r := H
    have A14 := Aside0.mk A140
    clear A140
    replace H := Option.bind_eq_some_iff.mp H
    obtain ⟨⟨t287, t288⟩, A150, H⟩ := H
    replace H : (if t275.toList = t277.toList then (if (t276 == t278) = true then ((match_Rule.f a0).bind fun t289 => ((brookref1_Rule.f kj3 a0).bind fun t290 => (if t289 = t290 then (if t280.toList = t282.toList then (if (t281 == t283) = true then ((match_Same.f kj3 a0 a1 a2).bind fun t291 => ((brookref1_SameVal.f kj3 a0 a1 a2).bind fun t292 => (if (t291 == t292) = true then (if (t285 == t287) = true then (if (t286 == t288) = true then ((brooklaw3_awake.f kj3).bind fun t293 => (some t293)) else (some false)) else (some false)) else (some false)))) else (some false)) else (some false)) else (some false)))) else (some false)) else (some false)) = some r := H
    have A15 := Aside0.mk A150
    clear A150
    by_cases c16 : t275.toList = t277.toList
    ·rw [if_pos c16] at H
     have c16b0 : (t275.toList == t277.toList) = true := beq_iff_eq.mpr c16
     have c16b1 : (t275.toList != t277.toList) = false := bne_eq_false_iff_eq.mpr c16
     clear c16
     by_cases c17 : (t276 == t278) = true
     ·rw [if_pos c17] at H
      have c17b0 : (t276 == t278) = true := c17
      (try (have c17b1 : decide (t276 = t278) = true := by simpa using c17))
      (try (have c17b2 : (t276 == t278) = true := by simpa using c17))
      clear c17
      replace H := Option.bind_eq_some_iff.mp H
      obtain ⟨t289, A180, H⟩ := H
      replace H : ((brookref1_Rule.f kj3 a0).bind fun t290 => (if t289 = t290 then (if t280.toList = t282.toList then (if (t281 == t283) = true then ((match_Same.f kj3 a0 a1 a2).bind fun t291 => ((brookref1_SameVal.f kj3 a0 a1 a2).bind fun t292 => (if (t291 == t292) = true then (if (t285 == t287) = true then (if (t286 == t288) = true then ((brooklaw3_awake.f kj3).bind fun t293 => (some t293)) else (some false)) else (some false)) else (some false)))) else (some false)) else (some false)) else (some false))) = some r := H
      have A18 := Aside0.mk A180
      clear A180
      replace H := Option.bind_eq_some_iff.mp H
      obtain ⟨t290, A190, H⟩ := H
      replace H : (if t289 = t290 then (if t280.toList = t282.toList then (if (t281 == t283) = true then ((match_Same.f kj3 a0 a1 a2).bind fun t291 => ((brookref1_SameVal.f kj3 a0 a1 a2).bind fun t292 => (if (t291 == t292) = true then (if (t285 == t287) = true then (if (t286 == t288) = true then ((brooklaw3_awake.f kj3).bind fun t293 => (some t293)) else (some false)) else (some false)) else (some false)))) else (some false)) else (some false)) else (some false)) = some r := H
      have A19 := Aside0.mk A190
      clear A190
      by_cases c20 : t289 = t290
      ·rw [if_pos c20] at H
       have c20b0 : (t289 == t290) = true := beq_iff_eq.mpr c20
       have c20b1 : (t289 != t290) = false := bne_eq_false_iff_eq.mpr c20
       clear c20
       by_cases c21 : t280.toList = t282.toList
       ·rw [if_pos c21] at H
        have c21b0 : (t280.toList == t282.toList) = true := beq_iff_eq.mpr c21
        have c21b1 : (t280.toList != t282.toList) = false := bne_eq_false_iff_eq.mpr c21
        clear c21
        by_cases c22 : (t281 == t283) = true
        ·rw [if_pos c22] at H
         have c22b0 : (t281 == t283) = true := c22
         (try (have c22b1 : decide (t281 = t283) = true := by simpa using c22))
         (try (have c22b2 : (t281 == t283) = true := by simpa using c22))
         clear c22
         replace H := Option.bind_eq_some_iff.mp H
         obtain ⟨t291, A230, H⟩ := H
         replace H : ((brookref1_SameVal.f kj3 a0 a1 a2).bind fun t292 => (if (t291 == t292) = true then (if (t285 == t287) = true then (if (t286 == t288) = true then ((brooklaw3_awake.f kj3).bind fun t293 => (some t293)) else (some false)) else (some false)) else (some false))) = some r := H
         have A23 := Aside0.mk A230
         clear A230
         replace H := Option.bind_eq_some_iff.mp H
         obtain ⟨t292, A240, H⟩ := H
         replace H : (if (t291 == t292) = true then (if (t285 == t287) = true then (if (t286 == t288) = true then ((brooklaw3_awake.f kj3).bind fun t293 => (some t293)) else (some false)) else (some false)) else (some false)) = some r := H
         have A24 := Aside0.mk A240
         clear A240
         by_cases c25 : (t291 == t292) = true
         ·rw [if_pos c25] at H
          have c25b0 : (t291 == t292) = true := c25
          (try (have c25b1 : decide (t291 = t292) = true := by simpa using c25))
          (try (have c25b2 : (t291 == t292) = true := by simpa using c25))
          clear c25
          by_cases c26 : (t285 == t287) = true
          ·rw [if_pos c26] at H
           have c26b0 : (t285 == t287) = true := c26
           (try (have c26b1 : decide (t285 = t287) = true := by simpa using c26))
           (try (have c26b2 : (t285 == t287) = true := by simpa using c26))
           clear c26
           by_cases c27 : (t286 == t288) = true
           ·rw [if_pos c27] at H
            have c27b0 : (t286 == t288) = true := c27
            (try (have c27b1 : decide (t286 = t288) = true := by simpa using c27))
            (try (have c27b2 : (t286 == t288) = true := by simpa using c27))
            clear c27
            replace H := Option.bind_eq_some_iff.mp H
            obtain ⟨t293, A280, H⟩ := H
            replace H : (some t293) = some r := H
            have A28 := Aside0.mk A280
            clear A280
            obtain rfl := Option.some.inj H
            go_wp2_with (first | ((with_reducible refine gate_callee (f := 7) rfl ?_); refine goesL_ (some 33) rfl rfl Tryz.func7 (by kernel_rfl) rfl #[.string a0] rfl (by (try simp only [List.map_toArray, List.map_cons, List.map_nil]); first | done | rfl | (simp only [List.length_drop, List.length_take]; rfl)) ?_; (with_reducible refine (match_Canon.calls a0 t275 t276 _ A10.out).mono ?_); rintro e w29 ⟨rfl, hb⟩; refine ⟨_, rfl, ?_⟩; have n0_ := Aside0.mk (below_step (by repeat (first | (with_reducible first | exact HB.out | apply below_alloc | apply pw_below_drewN | apply below_drew1) | exact HB.out)) hb); clear HB; have HB := n0_; clear n0_; (try clear hb); (try clear hb2); (try clear hk); (try clear hi)) | ((with_reducible refine gate_callee (f := 8) rfl ?_); refine goesL_ (some 37) rfl rfl Tryz.func8 (by kernel_rfl) rfl #[.string a0] rfl (by (try simp only [List.map_toArray, List.map_cons, List.map_nil]); first | done | rfl | (simp only [List.length_drop, List.length_take]; rfl)) ?_; (with_reducible refine (brookref1_Canon.calls kj3 a0 t277 t278 _ A11.out).mono ?_); rintro e w30 ⟨rfl, hb⟩; refine ⟨_, rfl, ?_⟩; have n0_ := Aside0.mk (below_step (by repeat (first | (with_reducible first | exact HB.out | apply below_alloc | apply pw_below_drewN | apply below_drew1) | exact HB.out)) hb); clear HB; have HB := n0_; clear n0_; (try clear hb); (try clear hb2); (try clear hk); (try clear hi)) | ((with_reducible refine gate_dst (N := 9) rfl ?_); (try (refine gate_guard (by rfl) ?_; dsimp only)); refine box_event ?hg (N := 9) ?hd (cs := #[.string (⟨#[]⟩ : ByteArray), .bool false]) (t := 26) ?hr ?_; (case hd => rfl); (case hg => rfl); (case hr => first | (go_simp; done) | (go_simp; rfl)); intro gb279 hg w31 hbox hb; have n0_ := Aside0.mk (below_step (by repeat (first | (with_reducible first | exact HB.out | apply below_alloc | apply pw_below_drewN | apply below_drew1) | exact HB.out)) hb); have n1_ := Aside0.mk (hbox); have n2_ := Aside0.mk ((by rw [hg]; exact (below_size (by repeat (first | (with_reducible first | exact HB.out | apply below_alloc | apply pw_below_drewN | apply below_drew1) | exact HB.out))) : w.heap.size ≤ gb279)); have n3_ := Aside0.mk ((by rw [hg]; exact (below_size (by repeat (first | (with_reducible first | exact HB.out | apply below_alloc | apply pw_below_drewN | apply below_drew1) | exact HB.out))) : w.heap.size ≤ gb279)); clear HB; have HB := n0_; have BK279 := n1_; have GW279 := n2_; have GE279 := n3_; clear n0_ n1_ n2_ n3_; clear hb hbox hg; have hcz32_0 : w31.cell? ⟨gb279, 0, none⟩ = some (.string (⟨#[]⟩ : ByteArray)) := (blk_cell BK279.out 0).trans rfl; have hcz32_1 : w31.cell? ⟨gb279, 1, none⟩ = some (.bool false) := (blk_cell BK279.out 1).trans rfl; have hfz32_0 := blk_frozen BK279.out 0; have hfz32_1 := blk_frozen BK279.out 1) | ((with_reducible refine gate_callee (f := 9) rfl ?_); refine goesL_ (some 41) rfl rfl Tryz.func9 (by kernel_rfl) rfl #[.string a0, .string a1] rfl (by (try simp only [List.map_toArray, List.map_cons, List.map_nil]); first | done | rfl | (simp only [List.length_drop, List.length_take]; rfl)) ?_; (with_reducible refine (match_Norm.calls kj3 a0 a1 t280 t281 _ ?side1 A12.out).mono ?_); (case side1 => first | exact HG.out | exact Gl.drewN HG.out _ | exact Gl.below HG.out (by repeat (first | (with_reducible first | exact HB.out | apply below_alloc | apply pw_below_drewN | apply below_drew1 | refine below_set ?_ GE279.out) | exact HB.out))); rintro e w33 ⟨rfl, hb⟩; refine ⟨_, rfl, ?_⟩; have n0_ := Aside0.mk (blk_below (g := gb279) (o := .cells #[.string t277, .bool t278] 26 (0, 0)) (by (with_reducible repeat (first | refine blk_drewN ?_ _ | refine blk_drew ?_ | refine blk_alloc ?_ _)); refine blk_put (cs := #[.string t277, .bool false]) ?_ 1 _ (by first | rfl | (simp only [bneNil, beqNil]; rfl) | simp [bneNil, beqNil]); (with_reducible repeat (first | refine blk_drewN ?_ _ | refine blk_drew ?_ | refine blk_alloc ?_ _)); refine blk_put (cs := #[.string (⟨#[]⟩ : ByteArray), .bool false]) ?_ 0 _ (by first | rfl | (simp only [bneNil, beqNil]; rfl) | simp [bneNil, beqNil]); (with_reducible repeat (first | refine blk_drewN ?_ _ | refine blk_drew ?_ | refine blk_alloc ?_ _)); exact BK279.out) hb); have n1_ := Aside0.mk (below_step (by repeat (first | (with_reducible first | exact HB.out | apply below_alloc | apply pw_below_drewN | apply below_drew1 | refine below_set ?_ GE279.out) | exact HB.out)) hb); clear BK279; clear HB; have BK279 := n0_; have HB := n1_; clear n0_ n1_; (try clear hb); (try clear hb2); (try clear hk); (try clear hi)) | ((with_reducible refine gate_callee (f := 10) rfl ?_); refine goesL_ (some 46) rfl rfl Tryz.func10 (by kernel_rfl) rfl #[.string a0, .string a1] rfl (by (try simp only [List.map_toArray, List.map_cons, List.map_nil]); first | done | rfl | (simp only [List.length_drop, List.length_take]; rfl)) ?_; (with_reducible refine (brookref1_Norm.calls kj3 a0 a1 t282 t283 _ A13.out).mono ?_); rintro e w34 ⟨rfl, hb⟩; refine ⟨_, rfl, ?_⟩; have n0_ := Aside0.mk (blk_below (g := gb279) (o := .cells #[.string t277, .bool t278] 26 (0, 0)) (by (with_reducible repeat (first | refine blk_drewN ?_ _ | refine blk_drew ?_ | refine blk_alloc ?_ _)); exact BK279.out) hb); have n1_ := Aside0.mk (below_step (by repeat (first | (with_reducible first | exact HB.out | apply below_alloc | apply pw_below_drewN | apply below_drew1 | refine below_set ?_ GE279.out) | exact HB.out)) hb); clear BK279; clear HB; have BK279 := n0_; have HB := n1_; clear n0_ n1_; (try clear hb); (try clear hb2); (try clear hk); (try clear hi)) | ((with_reducible refine gate_dst (N := 12) rfl ?_); (try (refine gate_guard (by rfl) ?_; dsimp only)); refine box_event ?hg (N := 12) ?hd (cs := #[.string (⟨#[]⟩ : ByteArray), .bool false]) (t := 26) ?hr ?_; (case hd => rfl); (case hg => rfl); (case hr => first | (go_simp; done) | (go_simp; rfl)); intro gb284 hg w35 hbox hb; have n0_ := Aside0.mk (blk_below (g := gb279) (o := .cells #[.string t277, .bool t278] 26 (0, 0)) (by (with_reducible repeat (first | refine blk_drewN ?_ _ | refine blk_drew ?_ | refine blk_alloc ?_ _)); exact BK279.out) hb); have n1_ := Aside0.mk (below_step (by repeat (first | (with_reducible first | exact HB.out | apply below_alloc | apply pw_below_drewN | apply below_drew1 | refine below_set ?_ GE279.out) | exact HB.out)) hb); have n2_ := Aside0.mk (hbox); have n3_ := Aside0.mk ((by rw [hg]; exact (below_size (by repeat (first | (with_reducible first | exact HB.out | apply below_alloc | apply pw_below_drewN | apply below_drew1 | refine below_set ?_ GE279.out) | exact HB.out))) : w.heap.size ≤ gb284)); have n4_ := Aside0.mk ((by rw [hg]; exact (below_size (by repeat (first | (with_reducible first | exact HB.out | apply below_alloc | apply pw_below_drewN | apply below_drew1 | refine below_set ?_ GE279.out) | exact HB.out))) : w.heap.size ≤ gb284)); have n5_ := Aside0.mk ((by rw [hg]; exact Nat.ne_of_lt (blk_lt (g := gb279) (o := .cells #[.string t277, .bool t278] 26 (0, 0)) (by (with_reducible repeat (first | refine blk_drewN ?_ _ | refine blk_drew ?_ | refine blk_alloc ?_ _)); exact BK279.out)) : gb279 ≠ gb284)); have n6_ := Aside0.mk ((by rw [hg]; exact Nat.ne_of_gt (blk_lt (g := gb279) (o := .cells #[.string t277, .bool t278] 26 (0, 0)) (by (with_reducible repeat (first | refine blk_drewN ?_ _ | refine blk_drew ?_ | refine blk_alloc ?_ _)); exact BK279.out)) : gb284 ≠ gb279)); clear BK279; clear HB; have BK279 := n0_; have HB := n1_; have BK284 := n2_; have GW284 := n3_; have GE284 := n4_; have NB279_284 := n5_; have NB284_279 := n6_; clear n0_ n1_ n2_ n3_ n4_ n5_ n6_; clear hb hbox hg; have hnb36 := NB284_279.out; have hnc36 := NB279_284.out; have hcz37_0 : w35.cell? ⟨gb284, 0, none⟩ = some (.string (⟨#[]⟩ : ByteArray)) := (blk_cell BK284.out 0).trans rfl; have hcz37_1 : w35.cell? ⟨gb284, 1, none⟩ = some (.bool false) := (blk_cell BK284.out 1).trans rfl; have hfz37_0 := blk_frozen BK284.out 0; have hfz37_1 := blk_frozen BK284.out 1) | ((with_reducible refine gate_callee (f := 11) rfl ?_); refine goesL_ (some 51) rfl rfl Tryz.func11 (by kernel_rfl) rfl #[.string a0, .string a1, .string a2] rfl (by (try simp only [List.map_toArray, List.map_cons, List.map_nil]); first | done | rfl | (simp only [List.length_drop, List.length_take]; rfl)) ?_; (with_reducible refine (match_Less.calls kj3 a0 a1 a2 t285 t286 _ ?side1 A14.out).mono ?_); (case side1 => first | exact HG.out | exact Gl.drewN HG.out _ | exact Gl.below HG.out (by repeat (first | (with_reducible first | exact HB.out | apply below_alloc | apply pw_below_drewN | apply below_drew1 | refine below_set ?_ GE279.out | refine below_set ?_ GE284.out) | exact HB.out))); rintro e w38 ⟨rfl, hb⟩; refine ⟨_, rfl, ?_⟩; have n0_ := Aside0.mk (blk_below (g := gb279) (o := .cells #[.string t277, .bool t278] 26 (0, 0)) (by (with_reducible repeat (first | refine blk_drewN ?_ _ | refine blk_drew ?_ | refine blk_alloc ?_ _)); refine blk_far ?_ NB279_284.out _; (with_reducible repeat (first | refine blk_drewN ?_ _ | refine blk_drew ?_ | refine blk_alloc ?_ _)); refine blk_far ?_ NB279_284.out _; (with_reducible repeat (first | refine blk_drewN ?_ _ | refine blk_drew ?_ | refine blk_alloc ?_ _)); exact BK279.out) hb); have n1_ := Aside0.mk (blk_below (g := gb284) (o := .cells #[.string t282, .bool t283] 26 (0, 0)) (by (with_reducible repeat (first | refine blk_drewN ?_ _ | refine blk_drew ?_ | refine blk_alloc ?_ _)); refine blk_put (cs := #[.string t282, .bool false]) ?_ 1 _ (by first | rfl | (simp only [bneNil, beqNil]; rfl) | simp [bneNil, beqNil]); (with_reducible repeat (first | refine blk_drewN ?_ _ | refine blk_drew ?_ | refine blk_alloc ?_ _)); refine blk_put (cs := #[.string (⟨#[]⟩ : ByteArray), .bool false]) ?_ 0 _ (by first | rfl | (simp only [bneNil, beqNil]; rfl) | simp [bneNil, beqNil]); (with_reducible repeat (first | refine blk_drewN ?_ _ | refine blk_drew ?_ | refine blk_alloc ?_ _)); exact BK284.out) hb); have n2_ := Aside0.mk (below_step (by repeat (first | (with_reducible first | exact HB.out | apply below_alloc | apply pw_below_drewN | apply below_drew1 | refine below_set ?_ GE279.out | refine below_set ?_ GE284.out) | exact HB.out)) hb); clear BK279; clear BK284; clear HB; have BK279 := n0_; have BK284 := n1_; have HB := n2_; clear n0_ n1_ n2_; (try clear hb); (try clear hb2); (try clear hk); (try clear hi)) | ((with_reducible refine gate_callee (f := 12) rfl ?_); refine goesL_ (some 58) rfl rfl Tryz.func12 (by kernel_rfl) rfl #[.string a0, .string a1, .string a2] rfl (by (try simp only [List.map_toArray, List.map_cons, List.map_nil]); first | done | rfl | (simp only [List.length_drop, List.length_take]; rfl)) ?_; (with_reducible refine (brookref1_Less.calls kj3 a0 a1 a2 t287 t288 _ A15.out).mono ?_); rintro e w39 ⟨rfl, hb⟩; refine ⟨_, rfl, ?_⟩; have n0_ := Aside0.mk (blk_below (g := gb279) (o := .cells #[.string t277, .bool t278] 26 (0, 0)) (by (with_reducible repeat (first | refine blk_drewN ?_ _ | refine blk_drew ?_ | refine blk_alloc ?_ _)); exact BK279.out) hb); have n1_ := Aside0.mk (blk_below (g := gb284) (o := .cells #[.string t282, .bool t283] 26 (0, 0)) (by (with_reducible repeat (first | refine blk_drewN ?_ _ | refine blk_drew ?_ | refine blk_alloc ?_ _)); exact BK284.out) hb); have n2_ := Aside0.mk (below_step (by repeat (first | (with_reducible first | exact HB.out | apply below_alloc | apply pw_below_drewN | apply below_drew1 | refine below_set ?_ GE279.out | refine below_set ?_ GE284.out) | exact HB.out)) hb); clear BK279; clear BK284; clear HB; have BK279 := n0_; have BK284 := n1_; have HB := n2_; clear n0_ n1_ n2_; (try clear hb); (try clear hb2); (try clear hk); (try clear hi); have hcz40_0 : w39.cell? ⟨gb279, 0, none⟩ = some (.string t277) := (blk_cell BK279.out 0).trans rfl; have hcz40_1 : w39.cell? ⟨gb279, 1, none⟩ = some (.bool t278) := (blk_cell BK279.out 1).trans rfl; have hfz40_0 := blk_frozen BK279.out 0; have hfz40_1 := blk_frozen BK279.out 1) | (go_at_call 13; (with_reducible refine (match_Rule.calls a0 t289 _ A18.out).mono ?_); rintro e w41 ⟨rfl, hb⟩; have n0_ := Aside0.mk (blk_below (g := gb279) (o := .cells #[.string t277, .bool t278] 26 (0, 0)) (by (with_reducible repeat (first | refine blk_drewN ?_ _ | refine blk_drew ?_ | refine blk_alloc ?_ _)); exact BK279.out) hb); have n1_ := Aside0.mk (blk_below (g := gb284) (o := .cells #[.string t282, .bool t283] 26 (0, 0)) (by (with_reducible repeat (first | refine blk_drewN ?_ _ | refine blk_drew ?_ | refine blk_alloc ?_ _)); exact BK284.out) hb); have n2_ := Aside0.mk (below_step (by repeat (first | (with_reducible first | exact HB.out | apply below_alloc | apply pw_below_drewN | apply below_drew1 | refine below_set ?_ GE279.out | refine below_set ?_ GE284.out) | exact HB.out)) hb); clear BK279; clear BK284; clear HB; have BK279 := n0_; have BK284 := n1_; have HB := n2_; clear n0_ n1_ n2_; (try clear hb); (try clear hb2); (try clear hk); (try clear hi)) | (go_at_call 14; (with_reducible refine (brookref1_Rule.calls kj3 a0 t290 _ A19.out).mono ?_); rintro e w42 ⟨rfl, hb⟩; have n0_ := Aside0.mk (blk_below (g := gb279) (o := .cells #[.string t277, .bool t278] 26 (0, 0)) (by (with_reducible repeat (first | refine blk_drewN ?_ _ | refine blk_drew ?_ | refine blk_alloc ?_ _)); exact BK279.out) hb); have n1_ := Aside0.mk (blk_below (g := gb284) (o := .cells #[.string t282, .bool t283] 26 (0, 0)) (by (with_reducible repeat (first | refine blk_drewN ?_ _ | refine blk_drew ?_ | refine blk_alloc ?_ _)); exact BK284.out) hb); have n2_ := Aside0.mk (below_step (by repeat (first | (with_reducible first | exact HB.out | apply below_alloc | apply pw_below_drewN | apply below_drew1 | refine below_set ?_ GE279.out | refine below_set ?_ GE284.out) | exact HB.out)) hb); clear BK279; clear BK284; clear HB; have BK279 := n0_; have BK284 := n1_; have HB := n2_; clear n0_ n1_ n2_; (try clear hb); (try clear hb2); (try clear hk); (try clear hi); have hcz43_0 : w42.cell? ⟨gb284, 0, none⟩ = some (.string t282) := (blk_cell BK284.out 0).trans rfl; have hcz43_1 : w42.cell? ⟨gb284, 1, none⟩ = some (.bool t283) := (blk_cell BK284.out 1).trans rfl; have hfz43_0 := blk_frozen BK284.out 0; have hfz43_1 := blk_frozen BK284.out 1) | (go_at_call 15; (with_reducible refine (match_Same.calls kj3 a0 a1 a2 t291 _ ?side1 A23.out).mono ?_); (case side1 => first | exact HG.out | exact Gl.drewN HG.out _ | exact Gl.below HG.out (by repeat (first | (with_reducible first | exact HB.out | apply below_alloc | apply pw_below_drewN | apply below_drew1 | refine below_set ?_ GE279.out | refine below_set ?_ GE284.out) | exact HB.out))); rintro e w44 ⟨rfl, hb⟩; have n0_ := Aside0.mk (blk_below (g := gb279) (o := .cells #[.string t277, .bool t278] 26 (0, 0)) (by (with_reducible repeat (first | refine blk_drewN ?_ _ | refine blk_drew ?_ | refine blk_alloc ?_ _)); exact BK279.out) hb); have n1_ := Aside0.mk (blk_below (g := gb284) (o := .cells #[.string t282, .bool t283] 26 (0, 0)) (by (with_reducible repeat (first | refine blk_drewN ?_ _ | refine blk_drew ?_ | refine blk_alloc ?_ _)); exact BK284.out) hb); have n2_ := Aside0.mk (below_step (by repeat (first | (with_reducible first | exact HB.out | apply below_alloc | apply pw_below_drewN | apply below_drew1 | refine below_set ?_ GE279.out | refine below_set ?_ GE284.out) | exact HB.out)) hb); clear BK279; clear BK284; clear HB; have BK279 := n0_; have BK284 := n1_; have HB := n2_; clear n0_ n1_ n2_; (try clear hb); (try clear hb2); (try clear hk); (try clear hi)) | (go_at_call 16; (with_reducible refine (brookref1_SameVal.calls kj3 a0 a1 a2 t292 _ A24.out).mono ?_); rintro e w45 ⟨rfl, hb⟩; have n0_ := Aside0.mk (blk_below (g := gb279) (o := .cells #[.string t277, .bool t278] 26 (0, 0)) (by (with_reducible repeat (first | refine blk_drewN ?_ _ | refine blk_drew ?_ | refine blk_alloc ?_ _)); exact BK279.out) hb); have n1_ := Aside0.mk (blk_below (g := gb284) (o := .cells #[.string t282, .bool t283] 26 (0, 0)) (by (with_reducible repeat (first | refine blk_drewN ?_ _ | refine blk_drew ?_ | refine blk_alloc ?_ _)); exact BK284.out) hb); have n2_ := Aside0.mk (below_step (by repeat (first | (with_reducible first | exact HB.out | apply below_alloc | apply pw_below_drewN | apply below_drew1 | refine below_set ?_ GE279.out | refine below_set ?_ GE284.out) | exact HB.out)) hb); clear BK279; clear BK284; clear HB; have BK279 := n0_; have BK284 := n1_; have HB := n2_; clear n0_ n1_ n2_; (try clear hb); (try clear hb2); (try clear hk); (try clear hi)) | (go_at_call 6; (with_reducible refine (brooklaw3_awake.calls kj3  t293 _ ?side1 A28.out).mono ?_); (case side1 => first | exact HG.out | exact Gl.drewN HG.out _ | exact Gl.below HG.out (by repeat (first | (with_reducible first | exact HB.out | apply below_alloc | apply pw_below_drewN | apply below_drew1 | refine below_set ?_ GE279.out | refine below_set ?_ GE284.out) | exact HB.out))); rintro e w46 ⟨rfl, hb⟩; have n0_ := Aside0.mk (blk_below (g := gb279) (o := .cells #[.string t277, .bool t278] 26 (0, 0)) (by (with_reducible repeat (first | refine blk_drewN ?_ _ | refine blk_drew ?_ | refine blk_alloc ?_ _)); exact BK279.out) hb); have n1_ := Aside0.mk (blk_below (g := gb284) (o := .cells #[.string t282, .bool t283] 26 (0, 0)) (by (with_reducible repeat (first | refine blk_drewN ?_ _ | refine blk_drew ?_ | refine blk_alloc ?_ _)); exact BK284.out) hb); have n2_ := Aside0.mk (below_step (by repeat (first | (with_reducible first | exact HB.out | apply below_alloc | apply pw_below_drewN | apply below_drew1 | refine below_set ?_ GE279.out | refine below_set ?_ GE284.out) | exact HB.out)) hb); clear BK279; clear BK284; clear HB; have BK279 := n0_; have BK284 := n1_; have HB := n2_; clear n0_ n1_ n2_; (try clear hb); (try clear hb2); (try clear hk); (try clear hi)))
            go_ret
            exact ⟨by first | rfl | (simp [errW_none, errW_some] <;> rfl) | (simp [*, errW_none, errW_some] <;> rfl), by repeat (first | (with_reducible first | exact HB.out | apply below_alloc | apply pw_below_drewN | apply below_drew1 | refine below_set ?_ GE279.out | refine below_set ?_ GE284.out) | exact HB.out)⟩
           ·rw [if_neg c27] at H
            have c27b0 : (t286 == t288) = false := by simpa using c27
            (try (have c27b1 : decide (t286 = t288) = false := by simpa using c27))
            (try (have c27b2 : (t286 == t288) = false := by simpa using c27))
            (try (have c27b3 : ¬ (t286 = t288) := by simpa using c27))
            clear c27
            exact absurd ((Option.some.inj H).trans HRT.out) Bool.false_ne_true
          ·rw [if_neg c26] at H
           have c26b0 : (t285 == t287) = false := by simpa using c26
           (try (have c26b1 : decide (t285 = t287) = false := by simpa using c26))
           (try (have c26b2 : (t285 == t287) = false := by simpa using c26))
           (try (have c26b3 : ¬ (t285 = t287) := by simpa using c26))
           clear c26
           exact absurd ((Option.some.inj H).trans HRT.out) Bool.false_ne_true
         ·rw [if_neg c25] at H
          have c25b0 : (t291 == t292) = false := by simpa using c25
          (try (have c25b1 : decide (t291 = t292) = false := by simpa using c25))
          (try (have c25b2 : (t291 == t292) = false := by simpa using c25))
          (try (have c25b3 : ¬ (t291 = t292) := by simpa using c25))
          clear c25
          exact absurd ((Option.some.inj H).trans HRT.out) Bool.false_ne_true
        ·rw [if_neg c22] at H
         have c22b0 : (t281 == t283) = false := by simpa using c22
         (try (have c22b1 : decide (t281 = t283) = false := by simpa using c22))
         (try (have c22b2 : (t281 == t283) = false := by simpa using c22))
         (try (have c22b3 : ¬ (t281 = t283) := by simpa using c22))
         clear c22
         exact absurd ((Option.some.inj H).trans HRT.out) Bool.false_ne_true
       ·rw [if_neg c21] at H
        have c21b0 : (t280.toList == t282.toList) = false := beq_eq_false_iff_ne.mpr c21
        have c21b1 : (t280.toList != t282.toList) = true := bne_iff_ne.mpr c21
        exact absurd ((Option.some.inj H).trans HRT.out) Bool.false_ne_true
      ·rw [if_neg c20] at H
       have c20b0 : (t289 == t290) = false := beq_eq_false_iff_ne.mpr c20
       have c20b1 : (t289 != t290) = true := bne_iff_ne.mpr c20
       exact absurd ((Option.some.inj H).trans HRT.out) Bool.false_ne_true
     ·rw [if_neg c17] at H
      have c17b0 : (t276 == t278) = false := by simpa using c17
      (try (have c17b1 : decide (t276 = t278) = false := by simpa using c17))
      (try (have c17b2 : (t276 == t278) = false := by simpa using c17))
      (try (have c17b3 : ¬ (t276 = t278) := by simpa using c17))
      clear c17
      exact absurd ((Option.some.inj H).trans HRT.out) Bool.false_ne_true
    ·rw [if_neg c16] at H
     have c16b0 : (t275.toList == t277.toList) = false := beq_eq_false_iff_ne.mpr c16
     have c16b1 : (t275.toList != t277.toList) = true := bne_iff_ne.mpr c16
     exact absurd ((Option.some.inj H).trans HRT.out) Bool.false_ne_true
end Go.Proofs.YtpcjjpkmebgjjaaGreatDoor.P


namespace Go.Proofs.YtpcjjpkmebgjjaaGreatDoor.P
open Go.RowKit Go.Proofs.YtpcjjpkmebgjjaaGreatDoorW.PrintWords Go.Proofs.YtpcjjpkmebgjjaaGreatDoorW.PrintLast Go.Proofs.YtpcjjpkmebgjjaaGreatDoorW.PrintMore
set_option linter.unusedVariables false
set_option linter.unusedSimpArgs false
theorem wrap_any (n : Int) (h0 : -9223372036854775808 ≤ n) (h1 : n ≤ 9223372036854775807) : wrap64 n = n := by
  unfold wrap64; omega
def valI (l : List UInt8) : Int := match Lib.atoiAll l with | .ok v => v | _ => 0
def numP (l : List UInt8) : Int × Bool := if numberL l = true then (valI l, true) else (0, false)
def sgn (neg : Bool) (w : Nat) : Int := if neg = true then -(w : Int) else (w : Int)
def numFin (l : List UInt8) (neg : Bool) (w : Nat) : Int × Bool := if Lib.itoa (sgn neg w) = l then (sgn neg w, true) else (0, false)
def numRun (l : List UInt8) (neg : Bool) (o : Option Nat) : Int × Bool := match o with | none => (0, false) | some w => numFin l neg w
theorem num_loop (s : ByteArray) (neg : Bool) (st : Nat) (hst : st = if neg = true then 1 else 0) (h15 : s.size - st ≤ 15) (hle : st ≤ s.size) : ∀ n i acc : Nat, s.size - i = n → i ≤ s.size → st ≤ i → acc < 10 ^ (i - st) →
    Ev (fun k => brookref1_Number.l0 k s (acc : Int) (st : Int) (i : Int)) (numRun s.data.toList neg (Lib.decFrom acc (s.data.toList.drop i))) := by
  intro n
  have hlen : s.data.toList.length = s.size := (size_len s).symm
  induction n with
  | zero =>
    intro i acc hn hi hsi hacc
    have hp : 10 ^ (i - st) ≤ 10 ^ 15 := Nat.pow_le_pow_right (by omega) (by omega)
    have hp' : (10 : Nat) ^ 15 = 1000000000000000 := by decide
    rw [hp'] at hp
    refine Ev.step (fun k => by rw [brookref1_Number.l0]) (Ev.ifn (by omega) ?_)
    rw [List.drop_eq_nil_of_le (by omega)]
    show Ev _ (numFin s.data.toList neg acc)
    unfold numFin sgn
    cases neg with
    | true =>
      rw [if_pos rfl] at hst
      refine Ev.ifp (by omega) ?_
      rw [wrap_any _ (by omega) (by omega)]
      have hd : brookref1_Digits.f (-(acc : Int)) = some (mk (Lib.itoa (-(acc : Int)))) := by unfold brookref1_Digits.f; rw [if_pos (by omega)]
      rw [hd]
      refine Ev.bs ?_
      rw [mk_toList, toList_data, if_pos rfl]
      by_cases h : Lib.itoa (-(acc : Int)) = s.data.toList
      · have e : (if Lib.itoa (-(acc : Int)) = s.data.toList then (-(acc : Int), true) else (0, false)) = (-(acc : Int), true) := if_pos h
        rw [e]; exact Ev.ifp h (Ev.now _)
      · have e : (if Lib.itoa (-(acc : Int)) = s.data.toList then (-(acc : Int), true) else (0, false)) = (0, false) := if_neg h
        rw [e]; exact Ev.ifn h (Ev.now _)
    | false =>
      rw [if_neg Bool.false_ne_true] at hst
      refine Ev.ifn (by omega) ?_
      have hd : brookref1_Digits.f (acc : Int) = some (mk (Lib.itoa (acc : Int))) := by unfold brookref1_Digits.f; rw [if_pos (by omega)]
      rw [hd]
      refine Ev.bs ?_
      rw [mk_toList, toList_data, if_neg Bool.false_ne_true]
      by_cases h : Lib.itoa (acc : Int) = s.data.toList
      · have e : (if Lib.itoa (acc : Int) = s.data.toList then ((acc : Int), true) else (0, false)) = ((acc : Int), true) := if_pos h
        rw [e]; exact Ev.ifp h (Ev.now _)
      · have e : (if Lib.itoa (acc : Int) = s.data.toList then ((acc : Int), true) else (0, false)) = (0, false) := if_neg h
        rw [e]; exact Ev.ifn h (Ev.now _)
  | succ n ih =>
    intro i acc hn hi hsi hacc
    have hp : 10 ^ (i - st) ≤ 10 ^ 15 := Nat.pow_le_pow_right (by omega) (by omega)
    have hp' : (10 : Nat) ^ 15 = 1000000000000000 := by decide
    rw [hp'] at hp
    have hi4 : i < 4611686018427387904 := by
      have : st ≤ 1 := by rw [hst]; split <;> omega
      omega
    have hd := drop_cons s.data.toList i (by omega)
    generalize hc : s.data.toList.getD i 0 = c at hd
    have hb : bt s (i : Int) = (c.toNat : Int) := by rw [bt_nat, hc]
    refine Ev.step (fun k => by rw [brookref1_Number.l0]) (Ev.ifp (by omega) (Ev.ifp (by omega) ?_))
    rw [hd, hb, Lib.decFrom]
    by_cases h1 : (c.toNat : Int) < 48
    · have e : Lib.digitVal c = none := by unfold Lib.digitVal; rw [if_neg (by omega)]
      rw [e]; exact Ev.ifp h1 (Ev.now _)
    refine Ev.ifn h1 ?_
    by_cases h2 : (c.toNat : Int) > 57
    · have e : Lib.digitVal c = none := by unfold Lib.digitVal; rw [if_neg (by omega)]
      rw [e]; exact Ev.ifp h2 (Ev.now _)
    refine Ev.ifn h2 ?_
    have e : Lib.digitVal c = some (c.toNat - 48) := by unfold Lib.digitVal; rw [if_pos (by omega)]
    rw [e, wrap_any ((acc : Int) * 10) (by omega) (by omega), show ((c.toNat : Int) - 48) % 256 = ((c.toNat - 48 : Nat) : Int) by omega, wrap_any _ (by omega) (by omega), w_1 i hi4]
    have := ih (i + 1) (acc * 10 + (c.toNat - 48)) (by omega) (by omega) (by omega) (by
      rw [show i + 1 - st = (i - st) + 1 by omega, Nat.pow_succ]; omega)
    rw [show (acc : Int) * 10 + ((c.toNat - 48 : Nat) : Int) = ((acc * 10 + (c.toNat - 48) : Nat) : Int) by omega]
    exact this
theorem decFrom_lt : ∀ (l : List UInt8) (acc w : Nat), Lib.decFrom acc l = some w → w < (acc + 1) * 10 ^ l.length
  | [], acc, w, h => by
    have := Option.some.inj h
    simp only [List.length_nil, Nat.pow_zero]; omega
  | c :: r, acc, w, h => by
    rw [Lib.decFrom] at h
    cases hd : Lib.digitVal c with
    | none => rw [hd] at h; cases h
    | some d =>
      rw [hd] at h
      have hlt : d < 10 := by
        unfold Lib.digitVal at hd
        split at hd
        · have := Option.some.inj hd; omega
        · cases hd
      have ih := decFrom_lt r _ w h
      rw [List.length_cons, Nat.pow_succ]
      have : (acc * 10 + d + 1) * 10 ^ r.length ≤ ((acc + 1) * 10) * 10 ^ r.length := Nat.mul_le_mul_right _ (by omega)
      have e : ((acc + 1) * 10) * 10 ^ r.length = (acc + 1) * (10 ^ r.length * 10) := by rw [Nat.mul_assoc, Nat.mul_comm 10]
      omega
theorem num_shape {l : List UInt8} (h : numberL l = true) : ∃ v, valI l = v ∧ l = Lib.itoa v ∧ ((v < 0 ∧ l = 45 :: Lib.decDigits v.natAbs) ∨ (0 ≤ v ∧ l = Lib.decDigits v.natAbs ∧ l.head? ≠ some 45)) ∧ (Lib.decDigits v.natAbs).length ≤ 15 := by
  obtain ⟨v, h1, h2, h3⟩ := number_is h
  refine ⟨v, by unfold valI; rw [h1], h2, ?_⟩
  rcases itoa_cases v with ⟨hv, e⟩ | ⟨hv, e⟩
  · rw [e] at h2
    refine ⟨Or.inl ⟨hv, h2⟩, ?_⟩
    rw [h2] at h3
    have : Lib.trimPrefix (45 :: Lib.decDigits v.natAbs) [45] = Lib.decDigits v.natAbs := by
      unfold Lib.trimPrefix
      rw [if_pos (by simp [Lib.hasPrefix])]
      rfl
    rw [this] at h3
    exact h3
  · rw [e] at h2
    have hh : l.head? ≠ some 45 := by
      intro x
      cases hl : l with
      | nil => rw [hl] at x; cases x
      | cons c r =>
        rw [hl] at x
        have hc : c = 45 := Option.some.inj x
        have := dd_digit v.natAbs c (by rw [← h2, hl]; exact List.mem_cons_self)
        rw [hc] at this
        exact absurd this.1 (by decide)
    refine ⟨Or.inr ⟨hv, h2, hh⟩, ?_⟩
    have ht : Lib.trimPrefix l [45] = l := by
      unfold Lib.trimPrefix
      rw [if_neg]
      intro x
      cases hl : l with
      | nil => rw [hl] at x; simp [Lib.hasPrefix] at x
      | cons c r =>
        rw [hl] at x
        have : (45 : UInt8) = c := by simpa [Lib.hasPrefix, List.isPrefixOf] using x
        exact hh (by rw [hl, ← this]; rfl)
    rw [ht] at h3
    rw [← h2]; exact h3
theorem numRun_eq (l : List UInt8) (neg : Bool) (hneg : neg = true ↔ l.head? = some 45) (h15 : l.length - (if neg = true then 1 else 0) ≤ 15) (hpos : l.length ≠ (if neg = true then 1 else 0)) :
    numRun l neg (Lib.decFrom 0 (l.drop (if neg = true then 1 else 0))) = numP l := by
  by_cases hn : numberL l = true
  · obtain ⟨v, hv, hl, hs, hd⟩ := num_shape hn
    have e : numP l = (v, true) := by unfold numP; rw [if_pos hn, hv]
    rw [e]
    rcases hs with ⟨h0, h1⟩ | ⟨h0, h1, h2⟩
    · have : neg = true := hneg.2 (by rw [h1]; rfl)
      subst this
      rw [if_pos rfl]
      have : l.drop 1 = Lib.decDigits v.natAbs := by rw [h1]; rfl
      rw [this, decFrom_dd]
      show numFin l true v.natAbs = _
      have es : sgn true v.natAbs = v := by unfold sgn; rw [if_pos rfl]; omega
      unfold numFin
      rw [es, if_pos hl.symm]
    · have : neg = false := by cases neg with | false => rfl | true => exact absurd (hneg.1 rfl) h2
      subst this
      rw [if_neg Bool.false_ne_true, List.drop_zero]
      have e2 : Lib.decFrom 0 l = some v.natAbs := by rw [h1]; exact decFrom_dd _
      rw [e2]
      show numFin l false v.natAbs = _
      have es : sgn false v.natAbs = v := by unfold sgn; rw [if_neg Bool.false_ne_true]; omega
      unfold numFin
      rw [es, if_pos hl.symm]
  · have e : numP l = (0, false) := by unfold numP; rw [if_neg hn]
    rw [e]
    cases hd : Lib.decFrom 0 (l.drop (if neg = true then 1 else 0)) with
    | none => rfl
    | some w =>
      show numFin l neg w = _
      unfold numFin
      rw [if_neg]
      intro hi
      have hw := decFrom_lt _ _ _ hd
      rw [List.length_drop] at hw
      have hp : 10 ^ (l.length - (if neg = true then 1 else 0)) ≤ 10 ^ 15 := Nat.pow_le_pow_right (by omega) h15
      have hp' : (10 : Nat) ^ 15 = 1000000000000000 := by decide
      have : -1000000000000000 < sgn neg w ∧ sgn neg w < 1000000000000000 := by unfold sgn; split <;> omega
      exact hn (by rw [← hi]; exact number_itoa _ this.1 this.2)
theorem ref_number (s : ByteArray) (hs : s.size ≤ 1073741824) : Ev (fun k => brookref1_Number.f k s) (numP s.data.toList) := by
  have hlen : s.data.toList.length = s.size := (size_len s).symm
  have body : ∀ (neg : Bool) (x : Int), x = ((if neg = true then 1 else 0 : Nat) : Int) → (neg = true ↔ s.data.toList.head? = some 45) → Ev (fun k => brookref1_Number.j1 k s 0 x) (numP s.data.toList) := by
    intro neg x hx hneg
    subst hx
    have jt : Ev (fun k => brookref1_Number.j2 k s 0 (((if neg = true then 1 else 0 : Nat)) : Int) true) (0, false) := Ev.step (fun k => by rw [brookref1_Number.j2]) (Ev.ifp rfl (Ev.now _))
    have notnum : (s.size = (if neg = true then 1 else 0) ∨ ¬ (s.size - (if neg = true then 1 else 0) ≤ 15)) → numP s.data.toList = (0, false) := by
      intro h
      unfold numP
      rw [if_neg]
      intro hn
      obtain ⟨v, hv, hl, hsh, hd⟩ := num_shape hn
      have hne := dd_ne v.natAbs
      have hpos := List.length_pos_iff.2 hne
      rcases hsh with ⟨h0, h1⟩ | ⟨h0, h1, h2⟩
      · have : neg = true := hneg.2 (by rw [h1]; rfl)
        rw [if_pos this] at h
        have := congrArg List.length h1
        rw [List.length_cons] at this
        omega
      · have : ¬ neg = true := fun e => h2 (hneg.1 e)
        rw [if_neg this] at h
        have := congrArg List.length h1
        omega
    have hsz : (if neg = true then 1 else 0) ≤ s.size := by
      split
      · rename_i h
        have := hneg.1 h
        cases hl : s.data.toList with
        | nil => rw [hl] at this; cases this
        | cons c r => rw [hl, List.length_cons] at hlen; omega
      · omega
    refine Ev.step (fun k => by rw [brookref1_Number.j1]) ?_
    by_cases h1 : s.size = (if neg = true then 1 else 0)
    · rw [notnum (Or.inl h1)]
      exact Ev.ifp (by omega) jt
    refine Ev.ifn (by omega) ?_
    rw [wrap_any _ (by omega) (by omega)]
    by_cases h2 : s.size - (if neg = true then 1 else 0) ≤ 15
    · rw [decide_eq_false (by omega)]
      refine Ev.step (fun k => by rw [brookref1_Number.j2]) (Ev.ifn Bool.false_ne_true ?_)
      have := num_loop s neg _ rfl h2 hsz _ (if neg = true then 1 else 0) 0 rfl hsz (Nat.le_refl _) (by rw [Nat.sub_self]; decide)
      rw [numRun_eq s.data.toList neg hneg (by omega) (by omega)] at this
      exact this
    · rw [notnum (Or.inr h2), decide_eq_true (by omega)]
      exact jt
  unfold brookref1_Number.f
  rw [toList_data]
  have j0f : (¬ s.data.toList.head? = some 45) → Ev (fun k => brookref1_Number.j0 k s 0 0 false) (numP s.data.toList) := fun h =>
    Ev.step (fun k => by rw [brookref1_Number.j0]) (Ev.ifn Bool.false_ne_true (body false 0 rfl ⟨fun e => absurd e Bool.false_ne_true, fun e => absurd e h⟩))
  by_cases h0 : s.data.toList = []
  · exact Ev.ifp h0 (j0f (by rw [h0]; simp))
  · refine Ev.ifn h0 ?_
    have hpos := List.length_pos_iff.2 h0
    refine Ev.ifp (by omega) ?_
    cases hl : s.data.toList with
    | nil => exact absurd hl h0
    | cons c r =>
      have hb : bt s 0 = (c.toNat : Int) := by rw [show (0 : Int) = ((0 : Nat) : Int) from rfl, bt_nat, hl]; rfl
      rw [hb]
      by_cases h45 : c = 45
      · rw [show ((c.toNat : Int) == 45) = true from beq_iff_eq.2 ((u8i c 45).2 h45), ← hl]
        exact Ev.step (fun k => by rw [brookref1_Number.j0]) (Ev.ifp rfl (body true 1 rfl ⟨fun _ => by rw [hl, h45]; rfl, fun _ => rfl⟩))
      · rw [show ((c.toNat : Int) == 45) = false from beq_eq_false_iff_ne.2 (fun e => h45 ((u8i c 45).1 e)), ← hl]
        exact j0f (by rw [hl]; intro e; exact h45 (Option.some.inj e))
theorem ref_norm (t v : ByteArray) (ht : t.size ≤ 9223372036854775807) : Ev (fun k => brookref1_Norm.f k t v) (encO (normL t.data.toList v.data.toList)) := by
  have hlen : v.data.toList.length = v.size := (size_len v).symm
  have jt : Ev (fun k => brookref1_Norm.j0 k t v true) (encO none) := Ev.step (fun k => by rw [brookref1_Norm.j0]) (show Ev _ ((⟨#[]⟩ : ByteArray), false) from Ev.ifp rfl (Ev.now _))
  unfold brookref1_Norm.f normL normO
  rw [toList_data]
  by_cases h0 : v.data.toList = []
  · rw [if_pos (show v.data.toList = [] ∨ 100 < v.data.toList.length from Or.inl h0)]
    exact Ev.ifp h0 jt
  by_cases h1 : 100 < v.data.toList.length
  · rw [if_pos (show v.data.toList = [] ∨ 100 < v.data.toList.length from Or.inr h1), show decide ((v.size : Int) > 100) = true from decide_eq_true (by omega)]
    exact Ev.ifn h0 jt
  rw [if_neg (show ¬ (v.data.toList = [] ∨ 100 < v.data.toList.length) from fun h => h.elim h0 h1), show decide ((v.size : Int) > 100) = false from decide_eq_false (by omega)]
  refine Ev.ifn h0 (Ev.step (fun k => by rw [brookref1_Norm.j0]) (Ev.ifn Bool.false_ne_true ((ref_rule t ht).bind ?_)))
  by_cases r1 : ruleL t.data.toList = 1
  · simp only [if_pos r1]
    refine (ref_fold v (by omega)).bind (Ev.const fun k => ?_)
    rw [bne_nil]
    by_cases hf : foldL v.data.toList = []
    · rw [if_pos hf, hf]; rfl
    · rw [if_neg hf, decide_eq_false hf]; rfl
  simp only [if_neg r1]
  by_cases r2 : ruleL t.data.toList = 2
  · simp only [if_pos r2]
    refine (ref_number v (by omega)).bind ?_
    unfold numP
    by_cases hn : numberL v.data.toList = true
    · simp only [if_pos hn]
      exact Ev.const fun k => rfl
    · simp only [if_neg hn]
      exact Ev.const fun k => rfl
  simp only [if_neg r2]
  by_cases r3 : ruleL t.data.toList = 3
  · simp only [if_pos r3]
    refine (ref_key v (by omega)).bind (Ev.const fun k => ?_)
    cases hk : keyL v.data.toList with
    | none => rfl
    | some n =>
      by_cases hn : n = []
      · subst hn
        show (if true = true then (if (mk []).toList = [] then _ else _) else _) = _
        rw [if_pos rfl, if_pos (mk_toList []), if_pos rfl]; rfl
      · show (if true = true then (if (mk n).toList = [] then _ else _) else _) = _
        rw [if_pos rfl, mk_toList, if_neg hn, if_neg (by intro h; exact hn (Option.some.inj h))]; first | done | rfl
  simp only [if_neg r3]
  by_cases r4 : ruleL t.data.toList = 4
  · simp only [if_pos r4]
    exact Ev.const fun k => rfl
  · simp only [if_neg r4]
    exact Ev.const fun k => rfl
theorem ref_same {t a b : ByteArray} {x y : Option (List UInt8)} (ha : Ev (fun k => brookref1_Norm.f k t a) (encO x)) (hb : Ev (fun k => brookref1_Norm.f k t b) (encO y)) :
    Ev (fun k => brookref1_SameVal.f k t a b) (sameO x y) := by
  unfold brookref1_SameVal.f
  refine ha.bind (hb.bind (Ev.const fun k => ?_))
  cases x with
  | none => rfl
  | some x => cases y with
    | none => rfl
    | some y => show (if true = true then (if true = true then some ((mk x).toList == (mk y).toList) else _) else _) = _; rw [if_pos rfl, if_pos rfl, mk_toList, mk_toList]; first | done | rfl
def lessP (r : Int) (x y : Option (List UInt8)) : Bool × Bool :=
  match x, y with
  | some a, some b => if r = 1 then (Op.bytesLess a b, true) else if r = 2 then (decide (valI a < valI b), true) else (false, false)
  | _, _ => (false, false)
theorem norm_num_is {t v x : List UInt8} (h : normL t v = some x) (hr : ruleL t = 2) : numberL x = true := by
  have h2 := norm_idem h
  have hs := normL_small h
  unfold normL normO at h2
  rw [if_neg (by rw [not_or]; exact ⟨hs.1, by omega⟩), hr, if_neg (by decide), if_pos rfl] at h2
  by_cases hn : numberL x = true
  · exact hn
  · rw [if_neg hn] at h2; cases h2
theorem less_all (t a b : ByteArray) (ht : t.size ≤ 9223372036854775807) : Ev (fun k => match_Less.f k t a b) (lessP (ruleL t.data.toList) (normL t.data.toList a.data.toList) (normL t.data.toList b.data.toList)) := by
  have ha := norm_all t a ht
  have hb := norm_all t b ht
  refine less_ev ht ha hb ?_
  cases hx : normL t.data.toList a.data.toList with
  | none => rfl
  | some x =>
    cases hy : normL t.data.toList b.data.toList with
    | none => rfl
    | some y =>
      have sx := normL_small hx
      have sy := normL_small hy
      show lessBy (ruleL t.data.toList) (mk x) (mk y) = some (if ruleL t.data.toList = 1 then (Op.bytesLess x y, true) else if ruleL t.data.toList = 2 then (decide (valI x < valI y), true) else (false, false))
      unfold lessBy
      by_cases r1 : ruleL t.data.toList = 1
      · rw [if_pos r1, if_pos r1, mk_toList, mk_toList]
      rw [if_neg r1, if_neg r1]
      by_cases r2 : ruleL t.data.toList = 2
      · rw [if_pos r2, if_pos r2, mk_size, mk_size, if_pos (by omega)]
        obtain ⟨vx, hvx, _, _⟩ := number_is (norm_num_is hx r2)
        obtain ⟨vy, hvy, _, _⟩ := number_is (norm_num_is hy r2)
        unfold lessNum valI
        rw [mk_data, mk_data, hvx, hvy]
      · rw [if_neg r2, if_neg r2]
theorem ref_less (t a b : ByteArray) (ht : t.size ≤ 9223372036854775807) : Ev (fun k => brookref1_Less.f k t a b) (lessP (ruleL t.data.toList) (normL t.data.toList a.data.toList) (normL t.data.toList b.data.toList)) := by
  unfold brookref1_Less.f
  have jt : ∀ (r : Int) (x : ByteArray) (p : Bool) (y : ByteArray) (q : Bool), Ev (fun k => brookref1_Less.j0 k r true x p y q) (false, false) := fun r x p y q => Ev.step (fun k => by rw [brookref1_Less.j0]) (Ev.ifp rfl (Ev.now _))
  refine (ref_norm t a ht).bind ((ref_norm t b ht).bind ((ref_rule t ht).bind ?_))
  cases hx : normL t.data.toList a.data.toList with
  | none => exact Ev.ifn Bool.false_ne_true (jt _ _ _ _ _)
  | some x =>
    refine Ev.ifp rfl ?_
    cases hy : normL t.data.toList b.data.toList with
    | none => exact Ev.ifn Bool.false_ne_true (jt _ _ _ _ _)
    | some y =>
      refine Ev.ifp rfl ?_
      have sx := normL_small hx
      have sy := normL_small hy
      unfold lessP
      by_cases r1 : ruleL t.data.toList = 1
      · simp only [if_pos r1]
        refine Ev.step (fun k => by rw [brookref1_Less.j0]) (Ev.ifn Bool.false_ne_true (Ev.ifn (by rw [r1]; decide) (Ev.const fun k => ?_)))
        show some (Op.bytesLess (mk x).toList (mk y).toList, true) = _
        rw [mk_toList, mk_toList]
      simp only [if_neg r1]
      by_cases r2 : ruleL t.data.toList = 2
      · simp only [if_pos r2]
        rw [r2]
        refine Ev.step (fun k => by rw [brookref1_Less.j0]) (Ev.ifn (by decide) (Ev.ifp rfl ?_))
        have nx := ref_number (mk x) (by rw [mk_size]; omega)
        have ny := ref_number (mk y) (by rw [mk_size]; omega)
        refine nx.bind (ny.bind (Ev.const fun k => ?_))
        rw [mk_data, mk_data]
        unfold numP
        rw [if_pos (norm_num_is hx r2), if_pos (norm_num_is hy r2)]
      · simp only [if_neg r2]
        rw [show (ruleL t.data.toList != 2) = true from bne_iff_ne.2 r2]
        exact jt _ _ _ _ _
theorem all_true (a0 a1 a2 : ByteArray) : ∃ k, brooklaw3_MatchAll.f k a0 a1 a2 = some true := by
  apply Ev.rounds
  have aw : Ev (fun k => (brooklaw3_awake.f k).bind fun t => some t) true := awake_ev.bind (Ev.now true)
  have jt : Ev (fun k => brooklaw3_MatchAll.j0 k a0 a1 a2 true) true := Ev.step (fun k => by rw [brooklaw3_MatchAll.j0]) (Ev.ifp rfl aw)
  unfold brooklaw3_MatchAll.f
  by_cases h0 : (a0.size : Int) > 60
  · exact Ev.ifp h0 jt
  refine Ev.ifn h0 ?_
  by_cases h1 : (a1.size : Int) > 300
  · exact Ev.ifp h1 jt
  refine Ev.ifn h1 ?_
  by_cases h2 : (a2.size : Int) > 300
  · rw [decide_eq_true h2]; exact jt
  rw [decide_eq_false h2]
  have ht : a0.size ≤ 9223372036854775807 := by omega
  refine Ev.step (fun k => by rw [brooklaw3_MatchAll.j0]) (Ev.ifn Bool.false_ne_true ?_)
  have hc : match_Canon.f a0 = some (if ruleL a0.data.toList = 0 then (mk [], false) else (lowS a0, true)) := by
    rw [canon_eq a0 ht]; split <;> rfl
  rw [hc, rule_eq a0 ht]
  refine Ev.bs ((ref_canon a0 ht).bind ((norm_all a0 a1 ht).bind ((ref_norm a0 a1 ht).bind ((less_all a0 a1 a2 ht).bind ((ref_less a0 a1 a2 ht).bind ?_)))))
  refine Ev.ifp rfl (Ev.ifp (beq_self_eq_true _) (Ev.bs ((ref_rule a0 ht).bind (Ev.ifp rfl (Ev.ifp rfl (Ev.ifp (beq_self_eq_true _) ?_))))))
  refine (same_ev (norm_all a0 a1 ht) (norm_all a0 a2 ht)).bind ((ref_same (ref_norm a0 a1 ht) (ref_norm a0 a2 ht)).bind ?_)
  exact Ev.ifp (beq_self_eq_true _) (Ev.ifp (beq_self_eq_true _) (Ev.ifp (beq_self_eq_true _) aw))
end Go.Proofs.YtpcjjpkmebgjjaaGreatDoor.P

namespace Go.Proofs.YtpcjjpkmebgjjaaGreatDoor.P
open Go.RowKit Go.Proofs.YtpcjjpkmebgjjaaGreatDoorW.PrintWords Go.Proofs.YtpcjjpkmebgjjaaGreatDoorW.PrintLast Go.Proofs.YtpcjjpkmebgjjaaGreatDoorW.PrintMore
attribute [local go_sem] max2_int min2_int max_two min_two max_three min_three max_four min_four
set_option linter.unusedVariables false
set_option linter.unusedSimpArgs false
def brooklaw3_Types.f  : Option (List ByteArray) := some (([(⟨#[111, 98, 106, 101, 99, 116, 99, 108, 97, 115, 115]⟩ : ByteArray), (⟨#[99, 110]⟩ : ByteArray), (⟨#[115, 110]⟩ : ByteArray), (⟨#[111]⟩ : ByteArray), (⟨#[111, 117]⟩ : ByteArray), (⟨#[117, 105, 100]⟩ : ByteArray), (⟨#[109, 97, 105, 108]⟩ : ByteArray), (⟨#[100, 101, 115, 99, 114, 105, 112, 116, 105, 111, 110]⟩ : ByteArray), (⟨#[117, 105, 100, 110, 117, 109, 98, 101, 114]⟩ : ByteArray), (⟨#[109, 101, 109, 98, 101, 114]⟩ : ByteArray), (⟨#[117, 115, 101, 114, 112, 97, 115, 115, 119, 111, 114, 100]⟩ : ByteArray), (⟨#[110, 111, 110, 101]⟩ : ByteArray)] : List ByteArray))
set_option maxHeartbeats 8000000 in
set_option maxRecDepth 100000 in
theorem brooklaw3_Types.calls  (r : List ByteArray) (w : World) (h : brooklaw3_Types.f  = some r) :
  Calls Tryz.prog 17 #[] w fun e w' => ∃ v0_ : Value, e = .returned (v0_) ∧ Kd.R Kd.string 9 w' w.heap.size (fun _ => True) v0_ r ∧ Below w.heap.size w w' := by
 have HB := Aside0.mk (Below.refl w.heap.size w)
 have H : (some (([(⟨#[111, 98, 106, 101, 99, 116, 99, 108, 97, 115, 115]⟩ : ByteArray), (⟨#[99, 110]⟩ : ByteArray), (⟨#[115, 110]⟩ : ByteArray), (⟨#[111]⟩ : ByteArray), (⟨#[111, 117]⟩ : ByteArray), (⟨#[117, 105, 100]⟩ : ByteArray), (⟨#[109, 97, 105, 108]⟩ : ByteArray), (⟨#[100, 101, 115, 99, 114, 105, 112, 116, 105, 111, 110]⟩ : ByteArray), (⟨#[117, 105, 100, 110, 117, 109, 98, 101, 114]⟩ : ByteArray), (⟨#[109, 101, 109, 98, 101, 114]⟩ : ByteArray), (⟨#[117, 115, 101, 114, 112, 97, 115, 115, 119, 111, 114, 100]⟩ : ByteArray), (⟨#[110, 111, 110, 101]⟩ : ByteArray)] : List ByteArray))) = some r := h
 clear h
 obtain ⟨y294, hy294⟩ : ∃ y_ : List ByteArray, y_ = (([(⟨#[111, 98, 106, 101, 99, 116, 99, 108, 97, 115, 115]⟩ : ByteArray), (⟨#[99, 110]⟩ : ByteArray), (⟨#[115, 110]⟩ : ByteArray), (⟨#[111]⟩ : ByteArray), (⟨#[111, 117]⟩ : ByteArray), (⟨#[117, 105, 100]⟩ : ByteArray), (⟨#[109, 97, 105, 108]⟩ : ByteArray), (⟨#[100, 101, 115, 99, 114, 105, 112, 116, 105, 111, 110]⟩ : ByteArray), (⟨#[117, 105, 100, 110, 117, 109, 98, 101, 114]⟩ : ByteArray), (⟨#[109, 101, 109, 98, 101, 114]⟩ : ByteArray), (⟨#[117, 115, 101, 114, 112, 97, 115, 115, 119, 111, 114, 100]⟩ : ByteArray), (⟨#[110, 111, 110, 101]⟩ : ByteArray)] : List ByteArray)) := ⟨_, rfl⟩
 replace H : (some y294) = some r := by first | (rw [hy294]; with_reducible exact H) | (have H2_ := (Option.bind_some _ _).symm.trans H; rw [hy294]; with_reducible exact H2_) | (have H2_ := (Option.bind_some _ _).symm.trans H; with_reducible exact H2_) | with_reducible exact H | (rw [hy294]; exact H) | exact H
 have Ny294 := Aside0.mk hy294
 clear hy294
 obtain rfl := Option.some.inj H
 go_enter Tryz.func17, Tryz.ntmps17
 go_wp2_with (first | ((with_reducible refine gate_dst (N := 1) rfl ?_); refine Kd.R_lit Kd.string _ 9 ?hg (N := 1) ?hd (xs := ([(⟨#[111, 98, 106, 101, 99, 116, 99, 108, 97, 115, 115]⟩ : ByteArray), (⟨#[99, 110]⟩ : ByteArray), (⟨#[115, 110]⟩ : ByteArray), (⟨#[111]⟩ : ByteArray), (⟨#[111, 117]⟩ : ByteArray), (⟨#[117, 105, 100]⟩ : ByteArray), (⟨#[109, 97, 105, 108]⟩ : ByteArray), (⟨#[100, 101, 115, 99, 114, 105, 112, 116, 105, 111, 110]⟩ : ByteArray), (⟨#[117, 105, 100, 110, 117, 109, 98, 101, 114]⟩ : ByteArray), (⟨#[109, 101, 109, 98, 101, 114]⟩ : ByteArray), (⟨#[117, 115, 101, 114, 112, 97, 115, 115, 119, 111, 114, 100]⟩ : ByteArray), (⟨#[110, 111, 110, 101]⟩ : ByteArray)] : List ByteArray)) (inner := [.string (⟨#[111, 98, 106, 101, 99, 116, 99, 108, 97, 115, 115]⟩ : ByteArray), .string (⟨#[99, 110]⟩ : ByteArray), .string (⟨#[115, 110]⟩ : ByteArray), .string (⟨#[111]⟩ : ByteArray), .string (⟨#[111, 117]⟩ : ByteArray), .string (⟨#[117, 105, 100]⟩ : ByteArray), .string (⟨#[109, 97, 105, 108]⟩ : ByteArray), .string (⟨#[100, 101, 115, 99, 114, 105, 112, 116, 105, 111, 110]⟩ : ByteArray), .string (⟨#[117, 105, 100, 110, 117, 109, 98, 101, 114]⟩ : ByteArray), .string (⟨#[109, 101, 109, 98, 101, 114]⟩ : ByteArray), .string (⟨#[117, 115, 101, 114, 112, 97, 115, 115, 119, 111, 114, 100]⟩ : ByteArray), .string (⟨#[110, 111, 110, 101]⟩ : ByteArray)]) (ok := fun _ => True) (okp := fun _ => True) ?hr ?hp (fun _ hk => hk) trivial (Below.refl _ _) (Nat.le_refl _) (by simp) ?_; (case hd => rfl); (case hg => rfl); (case hr => first | (go_simp; done) | (go_simp; rfl)); (case hp => exact (Reps.one (show Kd.M Kd.string _ _ _ (⟨#[111, 98, 106, 101, 99, 116, 99, 108, 97, 115, 115]⟩ : ByteArray) [.string (⟨#[111, 98, 106, 101, 99, 116, 99, 108, 97, 115, 115]⟩ : ByteArray)] from rfl) (Reps.one (show Kd.M Kd.string _ _ _ (⟨#[99, 110]⟩ : ByteArray) [.string (⟨#[99, 110]⟩ : ByteArray)] from rfl) (Reps.one (show Kd.M Kd.string _ _ _ (⟨#[115, 110]⟩ : ByteArray) [.string (⟨#[115, 110]⟩ : ByteArray)] from rfl) (Reps.one (show Kd.M Kd.string _ _ _ (⟨#[111]⟩ : ByteArray) [.string (⟨#[111]⟩ : ByteArray)] from rfl) (Reps.one (show Kd.M Kd.string _ _ _ (⟨#[111, 117]⟩ : ByteArray) [.string (⟨#[111, 117]⟩ : ByteArray)] from rfl) (Reps.one (show Kd.M Kd.string _ _ _ (⟨#[117, 105, 100]⟩ : ByteArray) [.string (⟨#[117, 105, 100]⟩ : ByteArray)] from rfl) (Reps.one (show Kd.M Kd.string _ _ _ (⟨#[109, 97, 105, 108]⟩ : ByteArray) [.string (⟨#[109, 97, 105, 108]⟩ : ByteArray)] from rfl) (Reps.one (show Kd.M Kd.string _ _ _ (⟨#[100, 101, 115, 99, 114, 105, 112, 116, 105, 111, 110]⟩ : ByteArray) [.string (⟨#[100, 101, 115, 99, 114, 105, 112, 116, 105, 111, 110]⟩ : ByteArray)] from rfl) (Reps.one (show Kd.M Kd.string _ _ _ (⟨#[117, 105, 100, 110, 117, 109, 98, 101, 114]⟩ : ByteArray) [.string (⟨#[117, 105, 100, 110, 117, 109, 98, 101, 114]⟩ : ByteArray)] from rfl) (Reps.one (show Kd.M Kd.string _ _ _ (⟨#[109, 101, 109, 98, 101, 114]⟩ : ByteArray) [.string (⟨#[109, 101, 109, 98, 101, 114]⟩ : ByteArray)] from rfl) (Reps.one (show Kd.M Kd.string _ _ _ (⟨#[117, 115, 101, 114, 112, 97, 115, 115, 119, 111, 114, 100]⟩ : ByteArray) [.string (⟨#[117, 115, 101, 114, 112, 97, 115, 115, 119, 111, 114, 100]⟩ : ByteArray)] from rfl) (Reps.one (show Kd.M Kd.string _ _ _ (⟨#[110, 111, 110, 101]⟩ : ByteArray) [.string (⟨#[110, 111, 110, 101]⟩ : ByteArray)] from rfl) (Reps.none _ _)))))))))))))); intro v295 w1 ho2 hb hg_ hnew_; clear hg_ hnew_; (first | rw [← Ny294.out] at ho2 | (simp only [Int.reduceToNat] at ho2; rw [← Ny294.out] at ho2)); have n0_ := Aside0.mk (Kd.R_lower ho2 (below_size (by repeat (first | (with_reducible first | exact HB.out | apply below_alloc | apply pw_below_drewN | apply below_drew1) | exact HB.out)))); have n1_ := Aside0.mk (below_step (by repeat (first | (with_reducible first | exact HB.out | apply below_alloc | apply pw_below_drewN | apply below_drew1) | exact HB.out)) hb); clear HB; have HO296 := n0_; have HB := n1_; clear n0_ n1_; clear hb ho2))
 go_ret
 exact ⟨_, by first | rfl | (simp [errW_none, errW_some] <;> rfl) | (simp [*, errW_none, errW_some] <;> rfl), by (with_reducible repeat (first | apply Kd.R_alloc | apply Kd.R_drewN | apply Kd.R_drew)); exact HO296.out, by repeat (first | (with_reducible first | exact HB.out | apply below_alloc | apply pw_below_drewN | apply below_drew1) | exact HB.out)⟩
end Go.Proofs.YtpcjjpkmebgjjaaGreatDoor.P


namespace Go.Proofs.YtpcjjpkmebgjjaaGreatDoor.P
open Go.RowKit Go.Proofs.YtpcjjpkmebgjjaaGreatDoorW.PrintWords Go.Proofs.YtpcjjpkmebgjjaaGreatDoorW.PrintLast Go.Proofs.YtpcjjpkmebgjjaaGreatDoorW.PrintMore
set_option linter.unusedVariables false
set_option linter.unusedSimpArgs false
def upTo (s : ByteArray) (U : Nat → Bool) (k : Nat) : Nat → Int := fun j => if (decide (j < k) && U j) = true then (((s.data.toList.getD j 0).toNat : Int) - 32) % 256 else ((s.data.toList.getD j 0).toNat : Int)
theorem upTo_zero (s : ByteArray) (U : Nat → Bool) : upTo s U 0 = fun j => ((s.data.toList.getD j 0).toNat : Int) := by funext j; simp [upTo]
theorem upTo_here (s : ByteArray) (U : Nat → Bool) (k : Nat) : upTo s U k k = ((s.data.toList.getD k 0).toNat : Int) := by simp [upTo]
theorem upTo_set {w : World} {B : Nat} {s : ByteArray} {U : Nat → Bool} {k : Nat} (h : BRow w B s.size (upTo s U k)) (hk : k < s.size) (hU : U k = true) {c : Int} (hc : ((s.data.toList.getD k 0).toNat : Int) = c) : BRow (w.setCell ⟨B, k, none⟩ (.int .u8 ((c - 32) % 256))) B s.size (upTo s U (k + 1)) := by
  refine brow_congr (brow_set h k hk ((c - 32) % 256)) fun j hj => ?_
  unfold upTo
  by_cases e1 : j = k
  · subst e1; rw [if_pos rfl, if_pos (by simp [hU]), hc]
  · rw [if_neg e1]
    have : decide (j < k + 1) = decide (j < k) := by rw [decide_eq_decide]; omega
    rw [this]
theorem upTo_skip {w : World} {B : Nat} {s : ByteArray} {U : Nat → Bool} {k : Nat} (h : BRow w B s.size (upTo s U k)) (hU : U k = false) : BRow w B s.size (upTo s U (k + 1)) := by
  refine brow_congr h fun j hj => ?_
  unfold upTo
  by_cases e1 : j = k
  · subst e1; simp [hU]
  · have : decide (j < k + 1) = decide (j < k) := by rw [decide_eq_decide]; omega
    rw [this]
def IsBools (w : World) (a : Option Addr) (len cap : Nat) (U : Nat → Bool) : Prop :=
  (a = none ∧ len = 0 ∧ cap = 0) ∨ ∃ x, a = some x ∧ len ≤ cap ∧ cap ≤ maxLen ∧ ∀ i, i < cap → w.cell? (x.add i) = some (.bool (U i))
theorem blk_lt_cell {w : World} {a : Addr} {v : Value} (h : w.cell? a = some v) : a.block < w.heap.size := by
  rcases Nat.lt_or_ge a.block w.heap.size with h' | h'
  · exact h'
  · simp [World.cell?, Array.getElem?_eq_none h'] at h
theorem types_small : ∀ l, brooklaw3_Types.f = some l → l.length = 12 ∧ ∀ x ∈ l, x.size ≤ 12 := by
  intro l h
  obtain rfl := Option.some.inj h
  exact ⟨rfl, by decide⟩
theorem awake_at : ∃ k, brooklaw3_awake.f k = some true := Ev.rounds awake_ev
set_option maxHeartbeats 4000000 in
set_option maxRecDepth 100000 in
theorem MatchTypes.walk (a0 : Int) (A1 : Option Addr) (len1 cap1 : Nat) (U : Nat → Bool) (a2 a3 : ByteArray) (w : World) (hG : Gl w) (h0 : 0 ≤ a0 ∧ a0 ≤ 255) (hU : IsBools w A1 len1 cap1 U) (h2 : a2.size ≤ 150) (h3 : a3.size ≤ 150) :
    Calls Tryz.prog 4 #[.int .u8 a0, .slice A1 len1 cap1, .string a2, .string a3] w fun e w' => e = .returned (.bool true) ∧ Below w.heap.size w w' := by
  have hll : len1 ≤ 9223372036854775807 := by
    rcases hU with ⟨_, h, _⟩ | ⟨x, _, h, h', _⟩
    · omega
    · unfold maxLen at h'; omega
  have HB := Aside0.mk (Below.refl w.heap.size w)
  have HG := Aside0.mk hG
  have HU := Aside0.mk hU
  clear hG hU
  obtain ⟨kw, hkw⟩ := awake_at
  have AW := Aside0.mk hkw
  clear hkw
  obtain ⟨l, hl⟩ : ∃ l, brooklaw3_Types.f = some l := ⟨_, rfl⟩
  obtain ⟨e12, hall⟩ := types_small l hl
  have HL := Aside0.mk hl
  clear hl
  obtain ⟨ji, hji⟩ : ∃ j_ : Int, Int.tmod a0 12 = j_ := ⟨_, rfl⟩
  have j0 : 0 ≤ ji := by rw [← hji]; exact Int.tmod_nonneg _ h0.1
  have j1 : ji < 12 := by rw [← hji]; exact Int.tmod_lt_of_pos a0 (by decide)
  have hz : (rdOf ByteArray.empty l ji).size ≤ 12 := by
    unfold rdOf
    rw [List.getD_eq_getElem?_getD, List.getElem?_eq_getElem (by omega)]
    exact hall _ (List.getElem_mem _)
  have HZ := Aside0.mk hz
  have HJ := Aside0.mk hji
  have H12 := Aside0.mk e12
  clear hall e12 hz hji
  have d0 : decide (150 < (a2.size : Int)) = false := decide_eq_false (by omega)
  have d1 : decide (150 < a2.size) = false := decide_eq_false (by omega)
  have d2 : decide (150 < (a3.size : Int)) = false := decide_eq_false (by omega)
  have d3 : decide (150 < a3.size) = false := decide_eq_false (by omega)
  have p0 : 0 ≤ a0 := h0.1
  have p1 : a0 ≤ 255 := h0.2
  clear h0 h2 h3
  go_enter Tryz.func4, Tryz.ntmps4
  go_upto_region 4 with (first | ((with_reducible refine gate_callee (f := 17) rfl ?_); refine goesL_ (some 21) rfl rfl Tryz.func17 (by kernel_rfl) rfl #[] rfl (by (try simp only [List.map_toArray, List.map_cons, List.map_nil]); first | done | rfl) ?_; (with_reducible refine (brooklaw3_Types.calls l _ HL.out).mono ?_); rintro e w1 ⟨v1, rfl, ho, hb⟩; refine ⟨_, rfl, ?_⟩; have n0_ := Aside0.mk ho; have n1_ := Aside0.mk (below_step (by repeat (first | (with_reducible first | exact HB.out | apply below_alloc | apply pw_below_drewN | apply below_drew1) | exact HB.out)) hb); clear HB; have HO := n0_; have HB := n1_; clear n0_ n1_ hb ho; obtain ⟨Ao, co, eo⟩ := Kd.R_slice HO.out; subst eo))
  have e12 := H12.out
  obtain ⟨ad, ead, hcad⟩ := Kd.at_string (Kd.R_reads' HO.out).2.2 ji j0 (by omega)
  subst ead
  obtain ⟨s, hs⟩ : ∃ s, rdOf ByteArray.empty l ji = s := ⟨_, rfl⟩
  have hz := HZ.out
  rw [hs] at hz hcad
  clear hs HZ
  rw [e12]
  have hji := HJ.out
  have hcv := fun W => Lib.run_convert_string_bytes (P := Tryz.prog) W 9 37 5 s (u := .string) Tryz.underlying9 Tryz.underlying37 Tryz.underlying5
  go_upto_region 5 with (fail)
  clear hcad hcv hji
  have hsb := HB.out.size
  have n1_ := Aside0.mk (below_step HB.out (Lib.bytesWorld_below w1 5 s))
  have n2_ : Aside0 (BRow (Lib.bytesWorld w1 5 s) w1.heap.size s.size (upTo s U 0)) := ⟨by rw [upTo_zero]; exact brow_conv w1 s⟩
  clear HB HO HL H12 HJ
  have HB := n1_
  have HR := n2_
  clear n1_ n2_ e12 j0 j1 p0 p1
  go_wp2
  go_loopw [11] (fun i wr => ∃ k : Nat, k ≤ s.size ∧ i = .int .i64 k ∧ Aside0 (Below w.heap.size w wr) ∧ Aside0 (BRow wr w1.heap.size s.size (upTo s U k))) (fun i _ => s.size - (intOf i).toNat)
  case atStart => exact ⟨0, Nat.zero_le _, rfl, HB, HR⟩
  case round =>
    clear HB HR
    obtain ⟨k, hk, rfl, HB, HR⟩ := hrel
    by_cases hgo : k < s.size ∧ k < len1
    · obtain ⟨hlt, hlu⟩ := hgo
      obtain ⟨x, rfl, hbool⟩ : ∃ x, A1 = some x ∧ wr.cell? (x.add k) = some (.bool (U k)) := by
        rcases HU.out with ⟨_, h, _⟩ | ⟨x, hx, h1, h2, h4⟩
        · omega
        · refine ⟨x, hx, ?_⟩
          rw [(HB.out).cell (p := x.add k) (blk_lt_cell (h4 k (by omega)))]
          exact h4 k (by omega)
      have hc := HR.out.cell k hlt
      have hz9 := HR.out.free k hlt
      rw [upTo_here] at hc
      obtain ⟨c, hcc⟩ : ∃ c : Int, ((s.data.toList.getD k 0).toNat : Int) = c := ⟨_, rfl⟩
      rw [hcc] at hc
      have hcr : 0 ≤ c ∧ c ≤ 255 := by have := (s.data.toList.getD k 0).toNat_lt; omega
      have hc0 : 0 ≤ c := hcr.1
      have hc1 : c ≤ 255 := hcr.2
      clear hcr
      have HC := Lib.hid hcc
      clear hcc
      have c1 : decide ((k : Int) < (s.size : Int)) = true := decide_eq_true (by omega)
      have c2 : decide (k < s.size) = true := decide_eq_true hlt
      have c3 : decide ((k : Int) < (len1 : Int)) = true := decide_eq_true (by omega)
      have c4 : decide (k < len1) = true := decide_eq_true hlu
      cases hu : U k with
      | true =>
        rw [hu] at hbool
        have HU1 := Lib.hid hu
        clear hu
        go_wp2
        refine ⟨⟨k + 1, by omega, by go_num, ⟨?_⟩, ⟨?_⟩⟩, by simp [intOf]; omega⟩
        · exact (HB.out).setCell hsb _
        · first | exact upTo_set HR.out hlt HU1.out HC.out | (have := upTo_set HR.out hlt HU1.out HC.out; simpa using this)
      | false =>
        rw [hu] at hbool
        have HU1 := Lib.hid hu
        clear hu
        go_wp2
        exact ⟨⟨k + 1, by omega, by go_num, HB, ⟨upTo_skip HR.out HU1.out⟩⟩, by simp [intOf]; omega⟩
    · have hst := fun cap => brow_string (P := Tryz.prog) HR.out cap 37 5 9 Tryz.underlying37 Tryz.underlying5 Tryz.underlying9
      obtain ⟨t, ht⟩ : ∃ t, strOfNums ((List.range s.size).map (upTo s U k)) = t := ⟨_, rfl⟩
      rw [ht] at hst
      clear ht
      obtain ⟨km, hm⟩ := all_true t a2 a3
      have HM := Aside0.mk hm
      clear hm
      by_cases hlt : k < s.size
      · have hlu : ¬ k < len1 := fun h => hgo ⟨hlt, h⟩
        clear hgo
        have c1 : decide ((k : Int) < (s.size : Int)) = true := decide_eq_true (by omega)
        have c2 : decide (k < s.size) = true := decide_eq_true hlt
        have c3 : decide ((k : Int) < (len1 : Int)) = false := decide_eq_false (by omega)
        have c4 : decide (k < len1) = false := decide_eq_false hlu
        go_wp2_with (first | (go_at_call 3; (with_reducible refine (brooklaw3_MatchAll.calls km t a2 a3 true _ ?side1 HM.out).mono ?_); (case side1 => first | exact HG.out | exact Gl.drewN HG.out _ | exact Gl.below HG.out (by repeat (first | (with_reducible first | exact HB.out | apply below_alloc | apply pw_below_drewN | apply below_drew1) | exact HB.out))); rintro e wq ⟨rfl, hb⟩; have n1_ := Aside0.mk (below_step (by repeat (first | (with_reducible first | exact HB.out | apply below_alloc | apply pw_below_drewN | apply below_drew1) | exact HB.out)) hb); clear HB; have HB := n1_; clear n1_; (try clear hb)) | (go_at_call 6; (with_reducible refine (brooklaw3_awake.calls kw true _ ?side1 AW.out).mono ?_); (case side1 => first | exact HG.out | exact Gl.drewN HG.out _ | exact Gl.below HG.out (by repeat (first | (with_reducible first | exact HB.out | apply below_alloc | apply pw_below_drewN | apply below_drew1) | exact HB.out))); rintro e wq ⟨rfl, hb⟩; have n1_ := Aside0.mk (below_step (by repeat (first | (with_reducible first | exact HB.out | apply below_alloc | apply pw_below_drewN | apply below_drew1) | exact HB.out)) hb); clear HB; have HB := n1_; clear n1_; (try clear hb)))
        go_ret
        exact ⟨rfl, (by repeat (first | (with_reducible first | exact HB.out | apply below_alloc | apply pw_below_drewN | apply below_drew1) | exact HB.out))⟩
      · clear hgo
        have c1 : decide ((k : Int) < (s.size : Int)) = false := decide_eq_false (by omega)
        have c2 : decide (k < s.size) = false := decide_eq_false hlt
        go_wp2_with (first | (go_at_call 3; (with_reducible refine (brooklaw3_MatchAll.calls km t a2 a3 true _ ?side1 HM.out).mono ?_); (case side1 => first | exact HG.out | exact Gl.drewN HG.out _ | exact Gl.below HG.out (by repeat (first | (with_reducible first | exact HB.out | apply below_alloc | apply pw_below_drewN | apply below_drew1) | exact HB.out))); rintro e wq ⟨rfl, hb⟩; have n1_ := Aside0.mk (below_step (by repeat (first | (with_reducible first | exact HB.out | apply below_alloc | apply pw_below_drewN | apply below_drew1) | exact HB.out)) hb); clear HB; have HB := n1_; clear n1_; (try clear hb)) | (go_at_call 6; (with_reducible refine (brooklaw3_awake.calls kw true _ ?side1 AW.out).mono ?_); (case side1 => first | exact HG.out | exact Gl.drewN HG.out _ | exact Gl.below HG.out (by repeat (first | (with_reducible first | exact HB.out | apply below_alloc | apply pw_below_drewN | apply below_drew1) | exact HB.out))); rintro e wq ⟨rfl, hb⟩; have n1_ := Aside0.mk (below_step (by repeat (first | (with_reducible first | exact HB.out | apply below_alloc | apply pw_below_drewN | apply below_drew1) | exact HB.out)) hb); clear HB; have HB := n1_; clear n1_; (try clear hb)))
        go_ret
        exact ⟨rfl, (by repeat (first | (with_reducible first | exact HB.out | apply below_alloc | apply pw_below_drewN | apply below_drew1) | exact HB.out))⟩
set_option maxRecDepth 100000 in
theorem MatchTypes.long (a0 : Int) (A1 : Option Addr) (len1 cap1 : Nat) (a2 a3 : ByteArray) (w : World) (hG : Gl w) (h : 150 < a2.size ∨ 150 < a3.size) :
    Calls Tryz.prog 4 #[.int .u8 a0, .slice A1 len1 cap1, .string a2, .string a3] w fun e w' => e = .returned (.bool true) ∧ Below w.heap.size w w' := by
  have HB := Aside0.mk (Below.refl w.heap.size w)
  have HG := Aside0.mk hG
  clear hG
  obtain ⟨kw, hkw⟩ := awake_at
  have AW := Aside0.mk hkw
  clear hkw
  by_cases h2 : 150 < a2.size
  · have d0 : decide (150 < (a2.size : Int)) = true := decide_eq_true (by omega)
    have d1 : decide (150 < a2.size) = true := decide_eq_true (by omega)
    clear h h2
    go_enter Tryz.func4, Tryz.ntmps4
    go_wp2_with ((go_at_call 6; (with_reducible refine (brooklaw3_awake.calls kw true _ ?side1 AW.out).mono ?_); (case side1 => first | exact HG.out | exact Gl.drewN HG.out _ | exact Gl.below HG.out (by repeat (first | (with_reducible first | exact HB.out | apply below_alloc | apply pw_below_drewN | apply below_drew1) | exact HB.out))); rintro e wq ⟨rfl, hb⟩; have n1_ := Aside0.mk (below_step (by repeat (first | (with_reducible first | exact HB.out | apply below_alloc | apply pw_below_drewN | apply below_drew1) | exact HB.out)) hb); clear HB; have HB := n1_; clear n1_; (try clear hb)))
    go_ret
    exact ⟨rfl, (by repeat (first | (with_reducible first | exact HB.out | apply below_alloc | apply pw_below_drewN | apply below_drew1) | exact HB.out))⟩
  · have d0 : decide (150 < (a2.size : Int)) = false := decide_eq_false (by omega)
    have d1 : decide (150 < a2.size) = false := decide_eq_false (by omega)
    have d2 : decide (150 < (a3.size : Int)) = true := decide_eq_true (by omega)
    have d3 : decide (150 < a3.size) = true := decide_eq_true (by omega)
    clear h h2
    go_enter Tryz.func4, Tryz.ntmps4
    go_wp2_with ((go_at_call 6; (with_reducible refine (brooklaw3_awake.calls kw true _ ?side1 AW.out).mono ?_); (case side1 => first | exact HG.out | exact Gl.drewN HG.out _ | exact Gl.below HG.out (by repeat (first | (with_reducible first | exact HB.out | apply below_alloc | apply pw_below_drewN | apply below_drew1) | exact HB.out))); rintro e wq ⟨rfl, hb⟩; have n1_ := Aside0.mk (below_step (by repeat (first | (with_reducible first | exact HB.out | apply below_alloc | apply pw_below_drewN | apply below_drew1) | exact HB.out)) hb); clear HB; have HB := n1_; clear n1_; (try clear hb)))
    go_ret
    exact ⟨rfl, (by repeat (first | (with_reducible first | exact HB.out | apply below_alloc | apply pw_below_drewN | apply below_drew1) | exact HB.out))⟩
theorem types_calls (a0 : Int) (A1 : Option Addr) (len1 cap1 : Nat) (U : Nat → Bool) (a2 a3 : ByteArray) (w : World) (hG : Gl w) (h0 : 0 ≤ a0 ∧ a0 ≤ 255) (hU : IsBools w A1 len1 cap1 U) :
    Calls Tryz.prog 4 #[.int .u8 a0, .slice A1 len1 cap1, .string a2, .string a3] w fun e w' => e = .returned (.bool true) ∧ Below w.heap.size w w' := by
  by_cases h2 : 150 < a2.size
  · exact MatchTypes.long a0 A1 len1 cap1 a2 a3 w hG (Or.inl h2)
  by_cases h3 : 150 < a3.size
  · exact MatchTypes.long a0 A1 len1 cap1 a2 a3 w hG (Or.inr h3)
  exact MatchTypes.walk a0 A1 len1 cap1 U a2 a3 w hG h0 hU (by omega) (by omega)
end Go.Proofs.YtpcjjpkmebgjjaaGreatDoor.P

namespace Go.Proofs.YtpcjjpkmebgjjaaGreatDoor.matchTypes
open Go.ChangeShapes Go.WideShapes Go.ChangeAt Go.RowKit Go.Proofs.YtpcjjpkmebgjjaaGreatDoor.P Go.Proofs.YtpcjjpkmebgjjaaGreatDoorW.PrintWords
open Go.ChangeMaps (open_string shut_string)
set_option linter.unusedVariables false
def IsRow (k : IntKind) (w : World) (a : Option Addr) (len cap : Nat) (zs : List Int) : Prop :=
  (a = none ∧ len = 0 ∧ cap = 0 ∧ zs = []) ∨
  ∃ x, a = some x ∧ len ≤ cap ∧ cap ≤ maxLen ∧ zs.length = cap ∧ (∀ i, i < zs.length → w.cell? (x.add i) = some (.int k (zs.getD i 0))) ∧ ∀ n ∈ zs, (Lit.int k n).wf = true
set_option maxRecDepth 100000 in
theorem contract (H : Type) (enc : TypeId × Value → H) (W : World) (base : Nat) (args : Array Value) (ds gs : List (DataW H)) (before : List MemPlace)
    (hval0 : ∀ (j : Nat) t v, Tryz.f4.params[j]? = some t → args[j]? = some v → Value.okWide Tryz.prog W .any base t v)
    (hW : DataW.Whole enc Tryz.prog Tryz.f4.params.toList Rows.matchTypesSpec.vars false W args.toList ds gs before)
    (hsz0 : (DataW.weightsEach Tryz.prog (Tryz.f4.params.toList ++ Rows.matchTypesSpec.plain.varTypes Tryz.prog) (ds ++ gs)).all (· ≤ reachBytes) = true) (hG : Gl W) :
    Calls Tryz.prog 4 args W fun e W' => ∃ v, e = .returned v ∧ Rows.matchTypesSpec.post enc Tryz.prog Tryz.f4 false true false false W args v W' := by
  have hsz := hsz0
  have hval := hval0
  have hW' := hW
  obtain ⟨p, q, hA0, hV, rfl, hfz, hnd⟩ := hW
  have hA : DataW.TrodAll enc Tryz.prog W 0 (fun _ => true) true Tryz.f4.params.toList args.toList ds p := hA0
  rw [Tryz.params4] at hA hval hsz
  obtain ⟨v0, vs0, d0, ds0, p0, q0, hargs, rfl, rfl, h0, r0⟩ := trodAll_cons hA
  obtain ⟨v1, vs1, d1, ds1, p1, q1, rfl, rfl, rfl, h1, r1⟩ := trodAll_cons r0
  obtain ⟨v2, vs2, d2, ds2, p2, q2, rfl, rfl, rfl, h2, r2⟩ := trodAll_cons r1
  obtain ⟨v3, vs3, d3, ds3, p3, q3, rfl, rfl, rfl, h3, r3⟩ := trodAll_cons r2
  obtain ⟨rfl, rfl, rfl⟩ := trodAll_nil r3
  obtain rfl : args = #[v0, v1, v2, v3] := by cases args; simp_all
  obtain ⟨rfl, rfl⟩ := trodVars_none hV
  obtain ⟨a0, rfl, rfl, rfl, w0⟩ := open_int Tryz.underlying5 (hval 0 5 v0 rfl rfl) h0
  obtain ⟨a1, len1, cap1, rfl⟩ := okWide_slice Tryz.underlying34 (hval 1 34 v1 rfl rfl)
  have k1 := h1
  have lt1 : ∀ x ∈ p1, x.block < W.heap.size := by obtain ⟨m, hm⟩ := k1; exact DataW.trod_lt m _ _ _ hm
  obtain ⟨z1, w1⟩ : ∃ U, IsBools W a1 len1 cap1 U := by
    obtain ⟨fuel, hf⟩ := h1
    rcases Go.Deep.open_bools Tryz.underlying34 Tryz.underlying4 (by kernel_rfl) hf with ⟨hcs, _⟩ | ⟨x, l, c, B, hcs, _, hl, hm, _, hcell⟩
    · simp [Value.cells] at hcs
      obtain ⟨rfl, rfl, rfl⟩ := hcs
      exact ⟨fun _ => false, .inl ⟨rfl, rfl, rfl⟩⟩
    · simp [Value.cells] at hcs
      obtain ⟨rfl, rfl, rfl⟩ := hcs
      exact ⟨B, .inr ⟨_, rfl, hl, hm, hcell⟩⟩
  obtain ⟨a2, rfl, rfl, rfl, y2⟩ := open_string Tryz.underlying9 (hval 2 9 v2 rfl rfl) h2
  have w2 : a2.size ≤ 140737488351232 := by
    have z := sized_string hsz (j := 2) (t := 9) rfl rfl
    rw [Array.length_toList] at z
    exact z
  obtain ⟨a3, rfl, rfl, rfl, y3⟩ := open_string Tryz.underlying9 (hval 3 9 v3 rfl rfl) h3
  have w3 : a3.size ≤ 140737488351232 := by
    have z := sized_string hsz (j := 3) (t := 9) rfl rfl
    rw [Array.length_toList] at z
    exact z
  clear hA0 hval0 hsz0 hsz
  have walk : Calls Tryz.prog 4 #[.int .u8 a0, .slice a1 len1 cap1, .string a2, .string a3] W fun e w' => e = .returned (.bool true) ∧ Below W.heap.size W w' := types_calls a0 a1 len1 cap1 z1 a2 a3 W hG (u8_wf w0) w1
  refine walk.mono fun e W' ⟨he, bel⟩ => ?_
  subst he
  exact ⟨_, rfl, _, _, _, [], _, [], hW', trodAll_mk1 (shut_bool Tryz.underlying4 _), (trodAll_cons_mk (shut_int Tryz.underlying5 w0) (trodAll_cons_mk (Below.trod laidOut (by kernel_rfl) (of_decide_eq_true (by kernel_rfl)) k1 bel lt1) (trodAll_cons_mk (shut_string Tryz.underlying9 y2) (trodAll_cons_mk (shut_string Tryz.underlying9 y3) trodAll_mk0)))), rfl, bel.frame _, fun h => by cases h⟩
theorem reads (os : Os) {H : Type} (enc : TypeId × Value → H) : ∃ places, DataW.whole enc Tryz.prog ((laidWorld os).forCall (fun _ _ => 0) ⟨#[], #[.int .u8 0, .slice none 0 0, .string ByteArray.empty, .string ByteArray.empty], []⟩).memory Tryz.f4.params.toList Rows.matchTypesSpec.vars false (#[.int .u8 0, .slice none 0 0, .string ByteArray.empty, .string ByteArray.empty] : Array Value).toList 8 = some ([.lit (.int .u8 0), .nil, .lit (.string []), .lit (.string [])], [], places) :=
  ⟨[], by kernel_rfl⟩
set_option maxRecDepth 100000 in
theorem lifted (os : Os) (started : os.Started) (H : Type) (enc : TypeId × Value → H) (F : Stop.Interp) :
    ReturnsInHanded {} Tryz.checked os 4 .any ((OpenSpec.ofChange Rows.matchTypesSpec).preRow enc Tryz.prog Tryz.f4 Rows.matchTypesRow.domain false Rows.matchTypesRow.laid) (((OpenSpec.ofChange Rows.matchTypesSpec).at F).post enc Tryz.prog Tryz.f4 false true false false) := by
  obtain ⟨places, hx⟩ := reads os enc
  refine returnsInHanded_of_row (C := Tryz.checked) (s := OpenSpec.ofChange Rows.matchTypesSpec) own started (by kernel_rfl) Tryz.func4
    (witness_row_at (enc := enc) (C := Tryz.checked) false (laidWorld os) #[.int .u8 0, .slice none 0 0, .string ByteArray.empty, .string ByteArray.empty] (World.laidAll_os _ _ _) (by kernel_rfl) (by kernel_rfl) (by kernel_rfl)
      (OpenSpec.preRow_of_cond 8 hx (by kernel_rfl) (fun k hk => by cases hk) (by kernel_rfl) (laid_met os _))) ?_
  intro W base args ds gs before hval hW _ _ hsz hL hsh _
  exact contract H enc W base args ds gs before hval hW hsz (gl_of hL hsh)
theorem said : Rows.MatchTypesSaid :=
  OpenClaim.holds_of_cond 4 Tryz.f4 rfl rfl rfl rfl rfl rfl rfl ⟨rfl, rfl, rfl, rfl, rfl⟩ rfl rfl rfl rfl rfl (by kernel_rfl) Tryz.func4 (by kernel_rfl)
    (of_decide_eq_true (by kernel_rfl)) (by unfold Func.isWrapper; first | (rw [if_pos (by decide +kernel)]; kernel_rfl) | (rw [if_neg (by decide +kernel)]; exact ⟨rfl, rfl⟩))
    (fun os started H enc _ F => by rw [OpenClaim.pre_eq_preRow]; exact lifted os started H enc F)
theorem plain (f : FuncId) (fn : Func) (hf : Tryz.pinned.checked.prog.funcNamed "brook/brooklaw3.MatchTypes" = some f) (hfn : Tryz.pinned.checked.prog.funcs[f]? = some fn) :
    true = Tryz.pinned.checked.prog.looks [] ∧ ∀ (j : Nat) t, fn.params[j]? = some t → Tryz.pinned.checked.prog.wantsStandIn t = false := by
  obtain rfl : f = 4 := Option.some.inj ((show Tryz.prog.funcNamed "brook/brooklaw3.MatchTypes" = some 4 by kernel_rfl).symm.trans hf) |>.symm
  obtain rfl : fn = Tryz.f4 := (Option.some.inj (Tryz.func4.symm.trans hfn)).symm
  refine ⟨by kernel_rfl, fun j t ht => ?_⟩
  rw [Tryz.params4] at ht
  have hm : t ∈ [5, 34, 9, 9] := by simpa using Array.mem_of_getElem? ht
  have hall : ([5, 34, 9, 9].all fun u => !Tryz.prog.wantsStandIn u) = true := by kernel_rfl
  exact (show Tryz.prog.wantsStandIn t = false by simpa using List.all_eq_true.1 hall t hm)
theorem card : Rows.MatchTypesCardSaid :=
  Claim7.holds_tied_plain_at .later [] _ _ _ _ said (fun _ h => by cases h) (by kernel_rfl) (fun _ h => by cases h) matchTypes_row_tie rfl ⟨rfl, rfl⟩ (by kernel_rfl) rfl plain (by kernel_rfl)
#print axioms card
end Go.Proofs.YtpcjjpkmebgjjaaGreatDoor.matchTypes
namespace Go.Proofs.YtpcjjpkmebgjjaaGreatDoor
theorem matchTypes_card : Rows.MatchTypesCardSaid := matchTypes.card
end Go.Proofs.YtpcjjpkmebgjjaaGreatDoor
