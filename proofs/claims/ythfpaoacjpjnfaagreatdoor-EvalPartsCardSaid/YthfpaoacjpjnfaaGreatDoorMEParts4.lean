/- Part 4 of 6 of the proof. See the last part. -/
import Derived.Test.YthfpaoacjpjnfaaGreatDoorMEParts2
import Derived.Test.YthfpaoacjpjnfaaGreatDoorMEParts3
import Derived.Lib.ItoaNum
import Derived.BigQuiet
import Derived.Deep.QuietTactic
import Derived.Deep.RegionHeld3
import Derived.Deep.CutRange
namespace Go.Proofs.YthfpaoacjpjnfaaGreatDoor.P
open Go.RowKit Go.Proofs.YthfpaoacjpjnfaaGreatDoorW.PrintWords Go.Proofs.YthfpaoacjpjnfaaGreatDoorW.PrintLast Go.Proofs.YthfpaoacjpjnfaaGreatDoorW.PrintMore
attribute [local go_sem] max2_int min2_int max_two min_two max_three min_three max_four min_four
set_option linter.unusedVariables false
set_option linter.unusedSimpArgs false
def match_norms.f (k : Nat) (a0 : ByteArray) (a1 : ByteArray) (a2 : ByteArray) : Option (ByteArray × ByteArray × Bool) := (match_Norm.f k a0 a1).bind fun bt188 => ((match_Norm.f k a0 a2).bind fun bt190 => (if bt188.2 = true then (some (bt188.1, bt190.1, bt190.2)) else (some (bt188.1, bt190.1, false))))
set_option maxHeartbeats 8000000 in
set_option maxRecDepth 100000 in
theorem match_norms.calls (k : Nat) (a0 : ByteArray) (a1 : ByteArray) (a2 : ByteArray) (r1 : ByteArray) (r2 : ByteArray) (r3 : Bool) (w : World) (hG : Gl w) (h : match_norms.f k a0 a1 a2 = some (r1, r2, r3)) :
  Calls Tryz.prog 92 #[.string a0, .string a1, .string a2] w fun e w' => e = .returned (.tuple #[.string r1, .string r2, .bool r3]) ∧ Below w.heap.size w w' := by
 have HB := Aside0.mk (Below.refl w.heap.size w)
 have HG := Aside0.mk hG
 clear hG
 have H : ((match_Norm.f k a0 a1).bind fun bt188 => ((match_Norm.f k a0 a2).bind fun bt190 => (if bt188.2 = true then (some (bt188.1, bt190.1, bt190.2)) else (some (bt188.1, bt190.1, false))))) = some (r1, r2, r3) := h
 clear h
 replace H := Option.bind_eq_some_iff.mp H
 obtain ⟨⟨t188, t189⟩, A40, H⟩ := H
 replace H : ((match_Norm.f k a0 a2).bind fun bt190 => (if t189 = true then (some (t188, bt190.1, bt190.2)) else (some (t188, bt190.1, false)))) = some (r1, r2, r3) := H
 have A4 := Aside0.mk A40
 clear A40
 replace H := Option.bind_eq_some_iff.mp H
 obtain ⟨⟨t190, t191⟩, A50, H⟩ := H
 replace H : (if t189 = true then (some (t188, t190, t191)) else (some (t188, t190, false))) = some (r1, r2, r3) := H
 have A5 := Aside0.mk A50
 clear A50
 by_cases c6 : t189 = true
 ·subst c6
  have H1 : (some (t188, t190, t191)) = some (r1, r2, r3) := by rw [if_pos rfl] at H; exact H
  clear H
  have H := H1
  clear H1
  simp only [Option.some.injEq, Prod.mk.injEq] at H
  obtain ⟨rfl, rfl, rfl⟩ := H
  go_enter Tryz.func92, Tryz.ntmps92
  go_wp2_with (first | ((with_reducible refine gate_callee (f := 39) rfl ?_); refine goesL_ (some 13) rfl rfl Tryz.func39 (by kernel_rfl) rfl #[.string a0, .string a1] rfl (by (try simp only [List.map_toArray, List.map_cons, List.map_nil]); first | done | rfl | (simp only [List.length_drop, List.length_take]; rfl)) ?_; (with_reducible refine (match_Norm.calls k a0 a1 t188 true _ ?side1 A4.out).mono ?_); (case side1 => first | exact HG.out | exact Gl.drewN HG.out _ | exact Gl.below HG.out (by repeat (first | (with_reducible first | exact HB.out | apply below_alloc | apply pw_below_drewN | apply below_drew1) | exact HB.out))); rintro e w7 ⟨rfl, hb⟩; refine ⟨_, rfl, ?_⟩; have n0_ := Aside0.mk (below_step (by repeat (first | (with_reducible first | exact HB.out | apply below_alloc | apply pw_below_drewN | apply below_drew1) | exact HB.out)) hb); clear HB; have HB := n0_; clear n0_; (try clear hb); (try clear hb2); (try clear hk); (try clear hi)) | ((with_reducible refine gate_callee (f := 39) rfl ?_); refine goesL_ (some 19) rfl rfl Tryz.func39 (by kernel_rfl) rfl #[.string a0, .string a2] rfl (by (try simp only [List.map_toArray, List.map_cons, List.map_nil]); first | done | rfl | (simp only [List.length_drop, List.length_take]; rfl)) ?_; (with_reducible refine (match_Norm.calls k a0 a2 t190 t191 _ ?side1 A5.out).mono ?_); (case side1 => first | exact HG.out | exact Gl.drewN HG.out _ | exact Gl.below HG.out (by repeat (first | (with_reducible first | exact HB.out | apply below_alloc | apply pw_below_drewN | apply below_drew1) | exact HB.out))); rintro e w8 ⟨rfl, hb⟩; refine ⟨_, rfl, ?_⟩; have n0_ := Aside0.mk (below_step (by repeat (first | (with_reducible first | exact HB.out | apply below_alloc | apply pw_below_drewN | apply below_drew1) | exact HB.out)) hb); clear HB; have HB := n0_; clear n0_; (try clear hb); (try clear hb2); (try clear hk); (try clear hi)))
  go_ret3
  exact ⟨by first | rfl | (simp [errW_none, errW_some] <;> rfl) | (simp [*, errW_none, errW_some] <;> rfl), by repeat (first | (with_reducible first | exact HB.out | apply below_alloc | apply pw_below_drewN | apply below_drew1) | exact HB.out)⟩
 ·replace c6 := Bool.eq_false_iff.mpr c6
  subst c6
  have H1 : (some (t188, t190, false)) = some (r1, r2, r3) := by rw [if_neg (show ¬ (false = true) by decide)] at H; exact H
  clear H
  have H := H1
  clear H1
  simp only [Option.some.injEq, Prod.mk.injEq] at H
  obtain ⟨rfl, rfl, rfl⟩ := H
  go_enter Tryz.func92, Tryz.ntmps92
  go_wp2_with (first | ((with_reducible refine gate_callee (f := 39) rfl ?_); refine goesL_ (some 13) rfl rfl Tryz.func39 (by kernel_rfl) rfl #[.string a0, .string a1] rfl (by (try simp only [List.map_toArray, List.map_cons, List.map_nil]); first | done | rfl | (simp only [List.length_drop, List.length_take]; rfl)) ?_; (with_reducible refine (match_Norm.calls k a0 a1 t188 false _ ?side1 A4.out).mono ?_); (case side1 => first | exact HG.out | exact Gl.drewN HG.out _ | exact Gl.below HG.out (by repeat (first | (with_reducible first | exact HB.out | apply below_alloc | apply pw_below_drewN | apply below_drew1) | exact HB.out))); rintro e w9 ⟨rfl, hb⟩; refine ⟨_, rfl, ?_⟩; have n0_ := Aside0.mk (below_step (by repeat (first | (with_reducible first | exact HB.out | apply below_alloc | apply pw_below_drewN | apply below_drew1) | exact HB.out)) hb); clear HB; have HB := n0_; clear n0_; (try clear hb); (try clear hb2); (try clear hk); (try clear hi)) | ((with_reducible refine gate_callee (f := 39) rfl ?_); refine goesL_ (some 19) rfl rfl Tryz.func39 (by kernel_rfl) rfl #[.string a0, .string a2] rfl (by (try simp only [List.map_toArray, List.map_cons, List.map_nil]); first | done | rfl | (simp only [List.length_drop, List.length_take]; rfl)) ?_; (with_reducible refine (match_Norm.calls k a0 a2 t190 t191 _ ?side1 A5.out).mono ?_); (case side1 => first | exact HG.out | exact Gl.drewN HG.out _ | exact Gl.below HG.out (by repeat (first | (with_reducible first | exact HB.out | apply below_alloc | apply pw_below_drewN | apply below_drew1) | exact HB.out))); rintro e w10 ⟨rfl, hb⟩; refine ⟨_, rfl, ?_⟩; have n0_ := Aside0.mk (below_step (by repeat (first | (with_reducible first | exact HB.out | apply below_alloc | apply pw_below_drewN | apply below_drew1) | exact HB.out)) hb); clear HB; have HB := n0_; clear n0_; (try clear hb); (try clear hb2); (try clear hk); (try clear hi)))
  go_ret3
  exact ⟨by first | rfl | (simp [errW_none, errW_some] <;> rfl) | (simp [*, errW_none, errW_some] <;> rfl), by repeat (first | (with_reducible first | exact HB.out | apply below_alloc | apply pw_below_drewN | apply below_drew1) | exact HB.out)⟩
end Go.Proofs.YthfpaoacjpjnfaaGreatDoor.P

namespace Go.Proofs.YthfpaoacjpjnfaaGreatDoor.P
open Go.RowKit Go.Proofs.YthfpaoacjpjnfaaGreatDoorW.PrintWords Go.Proofs.YthfpaoacjpjnfaaGreatDoorW.PrintLast Go.Proofs.YthfpaoacjpjnfaaGreatDoorW.PrintMore
set_option linter.unusedVariables false
set_option linter.unusedSimpArgs false
def lessNum (x y : List UInt8) : Option (Bool × Bool) :=
  match Lib.atoiAll x, Lib.atoiAll y with
  | .ok n, .ok m => some (decide (n < m), true)
  | _, _ => none
def lessBy (r : Int) (x y : ByteArray) : Option (Bool × Bool) :=
  if r = 1 then some (Op.bytesLess x.toList y.toList, true) else if r = 2 then (if x.size ≤ 281474976710656 ∧ y.size ≤ 281474976710656 then lessNum x.data.toList y.data.toList else none) else some (false, false)
def match_Less.f (k : Nat) (a0 a1 a2 : ByteArray) : Option (Bool × Bool) :=
  (match_norms.f k a0 a1 a2).bind fun b => if b.2.2 = true then (match_Rule.f a0).bind fun r => lessBy r b.1 b.2.1 else some (false, false)
set_option maxHeartbeats 8000000 in
theorem match_Less.calls (k : Nat) (a0 a1 a2 : ByteArray) (r1 r2 : Bool) (w : World) (hG : Gl w) (h : match_Less.f k a0 a1 a2 = some (r1, r2)) :
    Calls Tryz.prog 69 #[.string a0, .string a1, .string a2] w fun e w' => e = .returned (.tuple #[.bool r1, .bool r2]) ∧ Below w.heap.size w w' := by
  unfold match_Less.f at h
  obtain ⟨⟨x, y, ok⟩, hn, h⟩ := Option.bind_eq_some_iff.1 h
  have HN := Lib.hid hn
  have HG := Lib.hid hG
  clear hn hG
  simp only at h
  cases ok with
  | false =>
    rw [if_neg (by simp)] at h
    obtain ⟨rfl, rfl⟩ := Prod.mk.inj (Option.some.inj h)
    clear h
    go_enter Tryz.func69, Tryz.ntmps69
    go_wp2_with (go_at_call 92; refine (match_norms.calls k a0 a1 a2 x y false _ HG.out HN.out).mono ?_; rintro e w1 ⟨rfl, hb1⟩; have HB1 := Lib.hid hb1; clear hb1)
    go_ret2
    exact ⟨rfl, HB1.out⟩
  | true =>
    rw [if_pos rfl] at h
    obtain ⟨r, hr, h⟩ := Option.bind_eq_some_iff.1 h
    have HR := Lib.hid hr
    clear hr
    unfold lessBy at h
    by_cases e1 : r = 1
    · rw [if_pos e1] at h
      obtain ⟨rfl, rfl⟩ := Prod.mk.inj (Option.some.inj h)
      clear h
      have b1 : (r == 1) = true := beq_iff_eq.2 e1
      clear e1
      go_enter Tryz.func69, Tryz.ntmps69
      go_wp2_with (first
        | (go_at_call 92; refine (match_norms.calls k a0 a1 a2 x y true _ HG.out HN.out).mono ?_; rintro e w1 ⟨rfl, hb1⟩; have HB1 := Lib.hid hb1; clear hb1)
        | (go_at_call 59; refine (match_Rule.calls a0 r _ HR.out).mono ?_; rintro e w2 ⟨rfl, hb2⟩; have HB2 := Lib.hid hb2; clear hb2))
      go_ret2
      exact ⟨rfl, HB1.out.trans (HB2.out.mono HB1.out.size)⟩
    · have b1 : (r == 1) = false := beq_eq_false_iff_ne.2 e1
      rw [if_neg e1] at h
      by_cases e2 : r = 2
      · rw [if_pos e2] at h
        by_cases hz : x.size ≤ 281474976710656 ∧ y.size ≤ 281474976710656
        · rw [if_pos hz] at h
          unfold lessNum at h
          have nx : ∃ n, Lib.atoiAll x.data.toList = .ok n := by
            cases hx : Lib.atoiAll x.data.toList with
            | ok n => exact ⟨n, rfl⟩
            | _ => rw [hx] at h; exact absurd h (by simp)
          obtain ⟨n, hx⟩ := nx
          have ny : ∃ m, Lib.atoiAll y.data.toList = .ok m := by
            cases hy : Lib.atoiAll y.data.toList with
            | ok m => exact ⟨m, rfl⟩
            | _ => rw [hx, hy] at h; exact absurd h (by simp)
          obtain ⟨m, hy⟩ := ny
          · ·
              rw [hx, hy] at h
              obtain ⟨rfl, rfl⟩ := Prod.mk.inj (Option.some.inj h)
              have HX := Lib.hid hx
              have HY := Lib.hid hy
              have HZ := Lib.hid hz
              have b2 : (r == 2) = true := beq_iff_eq.2 e2
              clear h hx hy hz e1 e2
              go_enter Tryz.func69, Tryz.ntmps69
              go_wp2_with (first
                | (go_at_call 92; refine (match_norms.calls k a0 a1 a2 x y true _ HG.out HN.out).mono ?_; rintro e w1 ⟨rfl, hb1⟩; have HB1 := Lib.hid hb1; clear hb1)
                | (go_at_call 59; refine (match_Rule.calls a0 r _ HR.out).mono ?_; rintro e w2 ⟨rfl, hb2⟩; have HB2 := Lib.hid hb2; clear hb2)
                | fail)
              refine (atoiB x n HZ.out.1 HX.out _).mono ?_
              rintro e w3 ⟨rfl, hb3⟩
              have HB3 := Lib.hid hb3
              clear hb3
              go_wp2_with fail
              refine (atoiB y m HZ.out.2 HY.out _).mono ?_
              rintro e w4 ⟨rfl, hb4⟩
              have HB4 := Lib.hid hb4
              clear hb4
              go_wp2_with fail
              go_ret2
              have c1 := HB1.out.trans (HB2.out.mono HB1.out.size)
              have c2 := c1.trans (HB3.out.mono c1.size)
              exact ⟨rfl, c2.trans (HB4.out.mono c2.size)⟩
        · rw [if_neg hz] at h
          cases h
      · rw [if_neg e2] at h
        obtain ⟨rfl, rfl⟩ := Prod.mk.inj (Option.some.inj h)
        have b2 : (r == 2) = false := beq_eq_false_iff_ne.2 e2
        clear h e1 e2
        go_enter Tryz.func69, Tryz.ntmps69
        go_wp2_with (first
          | (go_at_call 92; refine (match_norms.calls k a0 a1 a2 x y true _ HG.out HN.out).mono ?_; rintro e w1 ⟨rfl, hb1⟩; have HB1 := Lib.hid hb1; clear hb1)
          | (go_at_call 59; refine (match_Rule.calls a0 r _ HR.out).mono ?_; rintro e w2 ⟨rfl, hb2⟩; have HB2 := Lib.hid hb2; clear hb2))
        go_ret2
        exact ⟨rfl, HB1.out.trans (HB2.out.mono HB1.out.size)⟩
end Go.Proofs.YthfpaoacjpjnfaaGreatDoor.P

namespace Go.Proofs.YthfpaoacjpjnfaaGreatDoor.P
open Go.RowKit Go.Proofs.YthfpaoacjpjnfaaGreatDoorW.PrintWords Go.Proofs.YthfpaoacjpjnfaaGreatDoorW.PrintLast Go.Proofs.YthfpaoacjpjnfaaGreatDoorW.PrintMore
attribute [local go_sem] max2_int min2_int max_two min_two max_three min_three max_four min_four
set_option linter.unusedVariables false
set_option linter.unusedSimpArgs false
def match_Same.f (k : Nat) (a0 : ByteArray) (a1 : ByteArray) (a2 : ByteArray) : Option (Bool) := (match_norms.f k a0 a1 a2).bind fun bt192 => (if bt192.2.2 = true then (some (bt192.1.toList == bt192.2.1.toList)) else (some false))
set_option maxHeartbeats 8000000 in
set_option maxRecDepth 100000 in
theorem match_Same.calls (k : Nat) (a0 : ByteArray) (a1 : ByteArray) (a2 : ByteArray) (r : Bool) (w : World) (hG : Gl w) (h : match_Same.f k a0 a1 a2 = some r) :
  Calls Tryz.prog 68 #[.string a0, .string a1, .string a2] w fun e w' => e = .returned (.bool r) ∧ Below w.heap.size w w' := by
 have HB := Aside0.mk (Below.refl w.heap.size w)
 have HG := Aside0.mk hG
 clear hG
 have H : ((match_norms.f k a0 a1 a2).bind fun bt192 => (if bt192.2.2 = true then (some (bt192.1.toList == bt192.2.1.toList)) else (some false))) = some r := h
 clear h
 replace H := Option.bind_eq_some_iff.mp H
 obtain ⟨⟨t192, t193, t194⟩, A40, H⟩ := H
 replace H : (if t194 = true then (some (t192.toList == t193.toList)) else (some false)) = some r := H
 have A4 := Aside0.mk A40
 clear A40
 by_cases c5 : t194 = true
 ·subst c5
  have H1 : (some (t192.toList == t193.toList)) = some r := by rw [if_pos rfl] at H; exact H
  clear H
  have H := H1
  clear H1
  obtain rfl := Option.some.inj H
  go_enter Tryz.func68, Tryz.ntmps68
  go_wp2_with (first | ((with_reducible refine gate_callee (f := 92) rfl ?_); refine goesL_ (some 14) rfl rfl Tryz.func92 (by kernel_rfl) rfl #[.string a0, .string a1, .string a2] rfl (by (try simp only [List.map_toArray, List.map_cons, List.map_nil]); first | done | rfl | (simp only [List.length_drop, List.length_take]; rfl)) ?_; (with_reducible refine (match_norms.calls k a0 a1 a2 t192 t193 true _ ?side1 A4.out).mono ?_); (case side1 => first | exact HG.out | exact Gl.drewN HG.out _ | exact Gl.below HG.out (by repeat (first | (with_reducible first | exact HB.out | apply below_alloc | apply pw_below_drewN | apply below_drew1) | exact HB.out))); rintro e w6 ⟨rfl, hb⟩; refine ⟨_, rfl, ?_⟩; have n0_ := Aside0.mk (below_step (by repeat (first | (with_reducible first | exact HB.out | apply below_alloc | apply pw_below_drewN | apply below_drew1) | exact HB.out)) hb); clear HB; have HB := n0_; clear n0_; (try clear hb); (try clear hb2); (try clear hk); (try clear hi)))
  go_ret
  exact ⟨by first | rfl | (simp [errW_none, errW_some] <;> rfl) | (simp [*, errW_none, errW_some] <;> rfl), by repeat (first | (with_reducible first | exact HB.out | apply below_alloc | apply pw_below_drewN | apply below_drew1) | exact HB.out)⟩
 ·replace c5 := Bool.eq_false_iff.mpr c5
  subst c5
  have H1 : (some false) = some r := by rw [if_neg (show ¬ (false = true) by decide)] at H; exact H
  clear H
  have H := H1
  clear H1
  obtain rfl := Option.some.inj H
  go_enter Tryz.func68, Tryz.ntmps68
  go_wp2_with (first | ((with_reducible refine gate_callee (f := 92) rfl ?_); refine goesL_ (some 14) rfl rfl Tryz.func92 (by kernel_rfl) rfl #[.string a0, .string a1, .string a2] rfl (by (try simp only [List.map_toArray, List.map_cons, List.map_nil]); first | done | rfl | (simp only [List.length_drop, List.length_take]; rfl)) ?_; (with_reducible refine (match_norms.calls k a0 a1 a2 t192 t193 false _ ?side1 A4.out).mono ?_); (case side1 => first | exact HG.out | exact Gl.drewN HG.out _ | exact Gl.below HG.out (by repeat (first | (with_reducible first | exact HB.out | apply below_alloc | apply pw_below_drewN | apply below_drew1) | exact HB.out))); rintro e w7 ⟨rfl, hb⟩; refine ⟨_, rfl, ?_⟩; have n0_ := Aside0.mk (below_step (by repeat (first | (with_reducible first | exact HB.out | apply below_alloc | apply pw_below_drewN | apply below_drew1) | exact HB.out)) hb); clear HB; have HB := n0_; clear n0_; (try clear hb); (try clear hb2); (try clear hk); (try clear hi)))
  go_ret
  exact ⟨by first | rfl | (simp [errW_none, errW_some] <;> rfl) | (simp [*, errW_none, errW_some] <;> rfl), by repeat (first | (with_reducible first | exact HB.out | apply below_alloc | apply pw_below_drewN | apply below_drew1) | exact HB.out)⟩
end Go.Proofs.YthfpaoacjpjnfaaGreatDoor.P


namespace Go.Proofs.YthfpaoacjpjnfaaGreatDoor.P
open Go.RowKit Go.Proofs.YthfpaoacjpjnfaaGreatDoorW.PrintWords Go.Proofs.YthfpaoacjpjnfaaGreatDoorW.PrintLast Go.Proofs.YthfpaoacjpjnfaaGreatDoorW.PrintMore
set_option linter.unusedVariables false
set_option linter.unusedSimpArgs false
def rulesL (l : List UInt8) : Int :=
  if l = [117, 105, 100, 110, 117, 109, 98, 101, 114] then 2 else if l = [109, 101, 109, 98, 101, 114] then 3 else if l = [117, 115, 101, 114, 112, 97, 115, 115, 119, 111, 114, 100] then 4 else
  if l = [111, 98, 106, 101, 99, 116, 99, 108, 97, 115, 115] then 1 else if l = [99, 110] then 1 else if l = [115, 110] then 1 else if l = [111] then 1 else if l = [111, 117] then 1 else if l = [117, 105, 100] then 1 else if l = [109, 97, 105, 108] then 1 else
  if l = [100, 101, 115, 99, 114, 105, 112, 116, 105, 111, 110] then 1 else 0
def ruleL (t : List UInt8) : Int := rulesL (t.map lowB)
theorem rules_eq (s : ByteArray) : match_rules.f s = some (rulesL s.data.toList) := by
  unfold match_rules.f rulesL
  rw [toList_data]
  simp only [apply_ite (some (α := Int))]
theorem canon_eq (s : ByteArray) (h : s.size ≤ 9223372036854775807) : match_Canon.f s = if ruleL s.data.toList = 0 then some (mk [], false) else some (lowS s, true) := by
  unfold match_Canon.f ruleL
  rw [if_pos h, rules_eq, lowS_data]
  rfl
theorem rule_eq (s : ByteArray) (h : s.size ≤ 9223372036854775807) : match_Rule.f s = some (ruleL s.data.toList) := by
  unfold match_Rule.f
  rw [canon_eq s h]
  by_cases h0 : ruleL s.data.toList = 0
  · rw [if_pos h0, h0]
    show (match_rules.f (mk [])).bind _ = _
    rw [rules_eq]
    rfl
  · rw [if_neg h0]
    show (match_rules.f (lowS s)).bind _ = _
    rw [rules_eq, lowS_data]
    rfl
def encO : Option (List UInt8) → ByteArray × Bool
  | some n => (mk n, true)
  | none => (mk [], false)
def normO (o : Option (List UInt8)) (t v : List UInt8) : Option (List UInt8) :=
  if v = [] ∨ 100 < v.length then none else
  if ruleL t = 1 then (if foldL v = [] then none else some (foldL v)) else
  if ruleL t = 2 then (if numberL v = true then some v else none) else
  if ruleL t = 3 then (if o = some [] then none else o) else
  if ruleL t = 4 then some v else none
theorem Ev.const {α : Type} {g : Nat → Option α} {r : α} (h : ∀ k, g k = some r) : Ev g r := ⟨0, fun k _ => h k⟩
theorem Ev.ifp {α : Type} {c : Prop} [Decidable c] {f g : Nat → Option α} {r : α} (h : c) (e : Ev f r) : Ev (fun k => if c then f k else g k) r := Ev.congr (fun k => if_pos h) e
theorem Ev.ifn {α : Type} {c : Prop} [Decidable c] {f g : Nat → Option α} {r : α} (h : ¬ c) (e : Ev g r) : Ev (fun k => if c then f k else g k) r := Ev.congr (fun k => if_neg h) e
theorem Ev.bs {α β : Type} {a : α} {f : Nat → α → Option β} {r : β} (e : Ev (fun k => f k a) r) : Ev (fun k => (some a).bind (f k)) r := e
theorem norm_ev (t v : ByteArray) (o : Option (List UInt8)) (ht : t.size ≤ 9223372036854775807)
    (hk : v.size ≤ 100 → ruleL t.data.toList = 3 → Ev (fun k => dn_Key.f k v) (encO o)) :
    Ev (fun k => match_Norm.f k t v) (encO (normO o t.data.toList v.data.toList)) := by
  by_cases h0 : v.data.toList = []
  · have : normO o t.data.toList v.data.toList = none := by unfold normO; rw [if_pos (Or.inl h0)]
    rw [this]
    refine ⟨1, fun k hk => ?_⟩
    obtain ⟨k, rfl⟩ : ∃ j, k = j + 1 := ⟨k - 1, by omega⟩
    simp only [match_Norm.f]
    rw [toList_data, if_pos h0]
    rfl
  by_cases h1 : 100 < v.data.toList.length
  · have : normO o t.data.toList v.data.toList = none := by unfold normO; rw [if_pos (Or.inr h1)]
    rw [this]
    refine ⟨1, fun k hk => ?_⟩
    obtain ⟨k, rfl⟩ : ∃ j, k = j + 1 := ⟨k - 1, by omega⟩
    simp only [match_Norm.f]
    rw [toList_data, if_neg h0, show decide ((v.size : Int) > 100) = true from decide_eq_true (by rw [size_len]; omega)]
    rfl
  have hn : normO o t.data.toList v.data.toList = (if ruleL t.data.toList = 1 then (if foldL v.data.toList = [] then none else some (foldL v.data.toList)) else
      if ruleL t.data.toList = 2 then (if numberL v.data.toList = true then some v.data.toList else none) else
      if ruleL t.data.toList = 3 then (if o = some [] then none else o) else
      if ruleL t.data.toList = 4 then some v.data.toList else none) := by
    unfold normO
    rw [if_neg (by intro h; rcases h with h | h; exact h0 h; exact h1 h)]
  rw [hn]
  clear hn
  have hv : v.size ≤ 100 := by rw [size_len]; omega
  have key : Ev (fun k => match_Norm.j0 k t v false) (encO (if ruleL t.data.toList = 1 then (if foldL v.data.toList = [] then none else some (foldL v.data.toList)) else
      if ruleL t.data.toList = 2 then (if numberL v.data.toList = true then some v.data.toList else none) else
      if ruleL t.data.toList = 3 then (if o = some [] then none else o) else
      if ruleL t.data.toList = 4 then some v.data.toList else none)) := by
    refine Ev.step (fun k => by rw [match_Norm.j0, if_neg Bool.false_ne_true, rule_eq t ht, Option.bind_some]) ?_
    by_cases r1 : ruleL t.data.toList = 1
    · simp only [if_pos r1]
      unfold dn_Fold.f
      rw [if_pos (by omega)]
      refine Ev.const fun k => ?_
      rw [Option.bind_some, mk_toList]
      by_cases hf : foldL v.data.toList = []
      · rw [if_pos hf, if_pos hf]; rfl
      · rw [if_neg hf, if_neg hf]; rfl
    simp only [if_neg r1]
    by_cases r2 : ruleL t.data.toList = 2
    · simp only [if_pos r2]
      unfold match_number.f
      rw [if_pos (by omega)]
      refine Ev.const fun k => ?_
      rw [Option.bind_some]
      by_cases hf : numberL v.data.toList = true
      · rw [if_pos hf, if_pos hf, toList_data, if_neg h0]; rfl
      · rw [if_neg hf, if_neg hf]; rfl
    simp only [if_neg r2]
    by_cases r3 : ruleL t.data.toList = 3
    · simp only [if_pos r3]
      refine (hk hv r3).bind (Ev.const fun k => ?_)
      cases o with
      | none => rfl
      | some n =>
        by_cases hn : n = []
        · subst hn
          show (if true = true then (if (mk []).toList = [] then _ else _) else _) = _
          rw [if_pos rfl, if_pos (mk_toList []), if_pos rfl]; rfl
        · show (if true = true then (if (mk n).toList = [] then _ else _) else _) = _
          rw [if_pos rfl, mk_toList, if_neg hn, if_neg (by intro h; exact hn (Option.some.inj h))]; rfl
    simp only [if_neg r3]
    by_cases r4 : ruleL t.data.toList = 4
    · simp only [if_pos r4]
      refine Ev.const fun k => ?_
      rw [toList_data, if_neg h0]; rfl
    · simp only [if_neg r4]
      exact Ev.const fun k => rfl
  refine Ev.congr (fun k => ?_) key
  simp only [match_Norm.f]
  rw [toList_data, if_neg h0, show decide ((v.size : Int) > 100) = false from decide_eq_false (by omega)]
def sameO (x y : Option (List UInt8)) : Bool :=
  match x, y with
  | some a, some b => a == b
  | _, _ => false
theorem norms_ev {t a b : ByteArray} {x y : Option (List UInt8)} (ha : Ev (fun k => match_Norm.f k t a) (encO x)) (hb : Ev (fun k => match_Norm.f k t b) (encO y)) :
    Ev (fun k => match_norms.f k t a b) ((encO x).1, (encO y).1, (x.isSome && y.isSome)) := by
  unfold match_norms.f
  refine ha.bind (hb.bind (Ev.const fun k => ?_))
  cases x <;> cases y <;> rfl
theorem same_ev {t a b : ByteArray} {x y : Option (List UInt8)} (ha : Ev (fun k => match_Norm.f k t a) (encO x)) (hb : Ev (fun k => match_Norm.f k t b) (encO y)) :
    Ev (fun k => match_Same.f k t a b) (sameO x y) := by
  unfold match_Same.f
  refine (norms_ev ha hb).bind (Ev.const fun k => ?_)
  cases x with
  | none => rfl
  | some x => cases y with
    | none => rfl
    | some y => show (if true = true then some ((mk x).toList == (mk y).toList) else _) = _; rw [if_pos rfl, mk_toList, mk_toList]; rfl
theorem less_ev {t a b : ByteArray} {x y : Option (List UInt8)} {p : Bool × Bool} (ht : t.size ≤ 9223372036854775807) (ha : Ev (fun k => match_Norm.f k t a) (encO x)) (hb : Ev (fun k => match_Norm.f k t b) (encO y))
    (h : (if (x.isSome && y.isSome) = true then lessBy (ruleL t.data.toList) (encO x).1 (encO y).1 else some (false, false)) = some p) :
    Ev (fun k => match_Less.f k t a b) p := by
  unfold match_Less.f
  refine (norms_ev ha hb).bind (Ev.const fun k => ?_)
  rw [rule_eq t ht, Option.bind_some]
  exact h
end Go.Proofs.YthfpaoacjpjnfaaGreatDoor.P


namespace Go.Proofs.YthfpaoacjpjnfaaGreatDoor.P
open Go.RowKit Go.Proofs.YthfpaoacjpjnfaaGreatDoorW.PrintWords Go.Proofs.YthfpaoacjpjnfaaGreatDoorW.PrintLast Go.Proofs.YthfpaoacjpjnfaaGreatDoorW.PrintMore
set_option linter.unusedVariables false
set_option linter.unusedSimpArgs false
def isHexB (c : UInt8) : Bool := (decide (48 ≤ c) && decide (c ≤ 57)) || (decide (97 ≤ c) && decide (c ≤ 102)) || (decide (65 ≤ c) && decide (c ≤ 70))
def hexVB (c : UInt8) : UInt8 := if c ≤ 57 then c - 48 else if c ≤ 70 then c - 55 else c - 87
def escN : List UInt8 → Option (UInt8 × Nat)
  | [] => none
  | c :: r => if (specialB c || c == 61 || c == 35 || c == 32) = true then some (c, 1) else
    match r with
    | [] => none
    | d :: _ => if (isHexB c && isHexB d) = true then some (hexVB c * 16 + hexVB d, 2) else none
def badB (first : Bool) (c : UInt8) : Bool := decide (c < 32) || decide (126 < c) || specialB c || (first && (c == 35 || c == 32))
def valG (first sp : Bool) : List UInt8 → Option (List UInt8 × List UInt8)
  | [] => if sp = true then none else some ([], [])
  | c :: r => if c = 44 then (if sp = true then none else some ([], c :: r)) else
    if c = 92 then (match escN r with | none => none | some (b, n) => (valG false false (r.drop n)).map fun p => (b :: p.1, p.2)) else
    if badB first c = true then none else (valG false (c == 32) r).map fun p => (c :: p.1, p.2)
termination_by l => l.length
decreasing_by all_goals (simp only [List.length_drop, List.length_cons]; omega)
theorem u8i (u v : UInt8) : ((u.toNat : Int) = (v.toNat : Int)) ↔ u = v :=
  ⟨fun h => UInt8.toNat_inj.1 (by omega), fun h => by rw [h]⟩
theorem dn_digit_eq (c : UInt8) : dn_digit.f (c.toNat : Int) = some (if isHexB c = true then ((hexVB c).toNat : Int) else -1) :=
  byteAll (p := fun c => dn_digit.f (c.toNat : Int) = some (if isHexB c = true then ((hexVB c).toNat : Int) else -1)) (by decide +kernel) c
theorem hexVB_lt (c : UInt8) : isHexB c = true → (hexVB c).toNat < 16 := byteAll (p := fun c => isHexB c = true → (hexVB c).toNat < 16) (by decide +kernel) c
theorem or16 : ∀ a b : Fin 16, (Go.bits .or .i64 (wrap64 ((a.val : Int) * 16)) (b.val : Int)) % 256 = ((UInt8.ofNat a.val * 16 + UInt8.ofNat b.val).toNat : Int) := by decide +kernel
theorem hex_two (c d : UInt8) (hc : isHexB c = true) (hd : isHexB d = true) : (Go.bits .or .i64 (wrap64 (((hexVB c).toNat : Int) * 16)) ((hexVB d).toNat : Int)) % 256 = ((hexVB c * 16 + hexVB d).toNat : Int) := by
  have h := or16 ⟨(hexVB c).toNat, hexVB_lt c hc⟩ ⟨(hexVB d).toNat, hexVB_lt d hd⟩
  simpa using h
theorem bt_mk0 (c : UInt8) (r : List UInt8) : bt (mk (c :: r)) 0 = (c.toNat : Int) := by rw [bt_eq]; rfl
theorem bt_mk1 (c d : UInt8) (r : List UInt8) : bt (mk (c :: d :: r)) 1 = (d.toNat : Int) := by rw [bt_eq]; rfl
theorem escN_t (c : UInt8) (r : List UInt8) (h : (specialB c || c == 61 || c == 35 || c == 32) = true) : escN (c :: r) = some (c, 1) := by simp only [escN]; rw [if_pos h]
theorem escN_f1 (c : UInt8) (h : (specialB c || c == 61 || c == 35 || c == 32) = false) : escN [c] = none := by simp only [escN]; rw [if_neg (by rw [h]; exact Bool.false_ne_true)]
theorem escN_f2 (c d : UInt8) (r : List UInt8) (h : (specialB c || c == 61 || c == 35 || c == 32) = false) : escN (c :: d :: r) = if (isHexB c && isHexB d) = true then some (hexVB c * 16 + hexVB d, 2) else none := by
  simp only [escN]; rw [if_neg (by rw [h]; exact Bool.false_ne_true)]
theorem escN_len (l : List UInt8) (b : UInt8) (n : Nat) (h : escN l = some (b, n)) : (n = 1 ∨ n = 2) ∧ n ≤ l.length := by
  cases l with
  | nil => cases h
  | cons c r =>
    cases hc : (specialB c || c == 61 || c == 35 || c == 32) with
    | true =>
      rw [escN_t c r hc] at h
      have := (Prod.mk.inj (Option.some.inj h)).2
      rw [List.length_cons]; omega
    | false =>
      cases r with
      | nil => rw [escN_f1 c hc] at h; cases h
      | cons d r =>
        rw [escN_f2 c d r hc] at h
        by_cases hh : (isHexB c && isHexB d) = true
        · rw [if_pos hh] at h
          have := (Prod.mk.inj (Option.some.inj h)).2
          rw [List.length_cons, List.length_cons]; omega
        · rw [if_neg hh] at h; cases h
def escP (l : List UInt8) : Int × Int := match escN l with | none => (0, 0) | some (b, n) => ((b.toNat : Int), (n : Int))
theorem escaped_j1 (c d : UInt8) (r : List UInt8) (b : Bool) (hb : b = true → isHexB c = true ∧ isHexB d = true) :
    Ev (fun k => dn_escaped.j1 k (mk (c :: d :: r)) b) (if b = true then (((hexVB c * 16 + hexVB d).toNat : Int), 2) else (0, 0)) := by
  refine Ev.step (fun k => by rw [dn_escaped.j1]) ?_
  cases b with
  | false => exact Ev.ifn Bool.false_ne_true (Ev.now _)
  | true =>
    obtain ⟨hc, hd⟩ := hb rfl
    refine Ev.const fun k => ?_
    rw [if_pos rfl, if_pos rfl, if_pos (by rw [mk_size]; simp only [List.length_cons]; omega), bt_mk0, bt_mk1, dn_digit_eq, dn_digit_eq, if_pos hc, if_pos hd, Option.bind_some, if_pos (by rw [mk_size]; simp only [List.length_cons]; omega), Option.bind_some, hex_two c d hc hd]
theorem escaped_j0 (c : UInt8) (r : List UInt8) (b : Bool) (hb : b = (specialB c || c == 61 || c == 35 || c == 32)) :
    Ev (fun k => dn_escaped.j0 k (mk (c :: r)) b) (escP (c :: r)) := by
  refine Ev.step (fun k => by rw [dn_escaped.j0]) ?_
  unfold escP
  cases b with
  | true =>
    rw [escN_t c r hb.symm]
    refine Ev.const fun k => ?_
    rw [if_pos rfl, if_pos (by rw [mk_size]; simp only [List.length_cons]; omega), bt_mk0]
    rfl
  | false =>
    refine Ev.ifn Bool.false_ne_true ?_
    cases r with
    | nil =>
      rw [escN_f1 c hb.symm]
      exact Ev.ifn (by rw [mk_size]; simp only [List.length_cons, List.length_nil]; omega) (Ev.step (fun k => by rw [dn_escaped.j1]) (Ev.const fun k => by rw [if_neg Bool.false_ne_true]))
    | cons d r =>
      rw [escN_f2 c d r hb.symm]
      refine Ev.ifp (by rw [mk_size]; simp only [List.length_cons]; omega) (Ev.ifp (by rw [mk_size]; simp only [List.length_cons]; omega) ?_)
      rw [bt_mk0, dn_digit_eq]
      refine Ev.bs ?_
      by_cases hc : isHexB c = true
      · rw [if_pos hc]
        refine Ev.ifp (by omega) (Ev.ifp (by rw [mk_size]; simp only [List.length_cons]; omega) ?_)
        rw [bt_mk1, dn_digit_eq]
        refine Ev.bs ?_
        by_cases hd : isHexB d = true
        · rw [if_pos hd, hc, hd, decide_eq_true (by omega)]
          exact escaped_j1 c d r true (fun _ => ⟨hc, hd⟩)
        · rw [if_neg hd, Bool.eq_false_iff.2 hd, Bool.and_false, decide_eq_false (by omega)]
          exact escaped_j1 c d r false (fun h => by cases h)
      · rw [if_neg hc, Bool.eq_false_iff.2 hc, Bool.false_and]
        exact Ev.ifn (by omega) (escaped_j1 c d r false (fun h => by cases h))
theorem escaped_ev (s : ByteArray) : Ev (fun k => dn_escaped.f k s) (escP s.data.toList) := by
  rw [← mk_of s]
  generalize s.data.toList = l
  unfold dn_escaped.f
  rw [mk_toList]
  cases l with
  | nil => exact Ev.ifp rfl (Ev.now _)
  | cons c r =>
    refine Ev.ifn (by simp) (Ev.ifp (by rw [mk_size]; simp only [List.length_cons]; omega) ?_)
    rw [bt_mk0, dn_special_eq]
    refine Ev.bs ?_
    by_cases h1 : specialB c = true
    · exact Ev.ifp h1 (escaped_j0 c r true (by rw [h1]; rfl))
    have h1' := Bool.eq_false_iff.2 h1
    refine Ev.ifn h1 ?_
    by_cases h2 : c = 61
    · exact Ev.ifp ((u8i c 61).2 h2) (escaped_j0 c r true (by rw [h2]; rfl))
    refine Ev.ifn (fun h => h2 ((u8i c 61).1 h)) ?_
    by_cases h3 : c = 35
    · exact Ev.ifp ((u8i c 35).2 h3) (escaped_j0 c r true (by rw [h3]; rfl))
    refine Ev.ifn (fun h => h3 ((u8i c 35).1 h)) ?_
    refine escaped_j0 c r _ ?_
    rw [h1', beq_eq_false_iff_ne.2 h2, beq_eq_false_iff_ne.2 h3, Bool.false_or, Bool.false_or, Bool.false_or]
    by_cases h4 : c = 32
    · rw [h4]; rfl
    · rw [beq_eq_false_iff_ne.2 h4, show (((c.toNat : Int)) == 32) = false from beq_eq_false_iff_ne.2 (fun h => h4 ((u8i c 32).1 h))]
theorem drop_cons (l : List UInt8) (i : Nat) (h : i < l.length) : l.drop i = l.getD i 0 :: l.drop (i + 1) := by
  rw [List.drop_eq_getElem_cons h, List.getD_eq_getElem?_getD, List.getElem?_eq_getElem h]; rfl
theorem extract_tail (s : ByteArray) (i : Nat) : s.extract i s.size = mk (s.data.toList.drop i) := by
  apply ba_ext
  have e : (s.data.toList.drop i).length = s.size - i := by rw [List.length_drop, ← size_len]
  rw [extract_data, mk_data, List.take_of_length_le (Nat.le_of_eq e)]
theorem wrap_small (n : Int) (h0 : 0 ≤ n) (h1 : n ≤ 9223372036854775807) : wrap64 n = n := by
  first
    | exact wrap64_small n (by omega) (by omega)
    | (unfold wrap64; simp only [Int.emod_def]; omega)
def ValIs (o : List UInt8) (x : Option (List UInt8 × List UInt8)) (p : ByteArray × ByteArray × Bool) : Prop :=
  match x with
  | some (v, r) => p = (mk (o ++ v), mk r, true)
  | none => p.2.2 = false
theorem ValIs.push {o : List UInt8} {b : UInt8} {x : Option (List UInt8 × List UInt8)} {p : ByteArray × ByteArray × Bool} (h : ValIs (o ++ [b]) x p) : ValIs o (x.map fun q => (b :: q.1, q.2)) p := by
  cases x with
  | none => exact h
  | some q =>
    obtain ⟨v, r⟩ := q
    unfold ValIs at h ⊢
    simp only [Option.map_some]
    rw [h, List.append_assoc]; rfl
theorem value_loop (s : ByteArray) (hs : s.size ≤ 70368744177664) : ∀ (n i : Nat) (o : List UInt8) (sp : Bool), s.size - i = n → i ≤ s.size → o.length ≤ i →
    ∃ p, Ev (fun k => dn_value.l0 k s (numsB o) sp (i : Int)) p ∧ ValIs o (valG (decide (i = 0)) sp (s.data.toList.drop i)) p := by
  intro n
  induction n using Nat.strongRecOn with
  | _ n ih =>
    intro i o sp hn hi ho
    have hlen : s.data.toList.length = s.size := (size_len s).symm
    have stop : ∀ (x20 : Bool), x20 = false → (s.data.toList.drop i = [] ∨ ∃ r, s.data.toList.drop i = 44 :: r) →
        ∃ p, Ev (fun k => dn_value.j1 k s (numsB o) sp (i : Int) x20) p ∧ ValIs o (valG (decide (i = 0)) sp (s.data.toList.drop i)) p := by
      intro x20 hx hr
      subst hx
      refine ⟨(strOfNums (numsB o), s.extract i s.size, !sp), Ev.step (fun k => by rw [dn_value.j1]) (Ev.ifn Bool.false_ne_true (Ev.ifp (by omega) (Ev.ifp (by omega) (Ev.const fun k => by rw [Int.toNat_natCast])))), ?_⟩
      rw [strOf_numsB, extract_tail]
      cases sp with
      | true =>
        have : valG (decide (i = 0)) true (s.data.toList.drop i) = none := by
          rcases hr with hr | ⟨r, hr⟩
          · rw [hr, valG, if_pos rfl]
          · rw [hr, valG, if_pos rfl, if_pos rfl]
        rw [this]
        rfl
      | false =>
        have : valG (decide (i = 0)) false (s.data.toList.drop i) = some ([], s.data.toList.drop i) := by
          rcases hr with hr | ⟨r, hr⟩
          · rw [hr, valG, if_neg Bool.false_ne_true]
          · rw [hr, valG, if_pos rfl, if_neg Bool.false_ne_true]
        rw [this]
        show _ = _
        rw [List.append_nil]; rfl
    by_cases hlt : i < s.size
    · have hd := drop_cons s.data.toList i (by omega)
      generalize hc : s.data.toList.getD i 0 = c at hd
      have hb : bt s (i : Int) = (c.toNat : Int) := by rw [bt_nat, hc]
      by_cases h44 : c = 44
      · obtain ⟨p, hp, hv⟩ := stop ((bt s (i : Int)) != 44) (by rw [hb, h44]; rfl) (Or.inr ⟨_, by rw [hd, h44]⟩)
        exact ⟨p, Ev.step (fun k => by rw [dn_value.l0]) (Ev.ifp (by omega) (Ev.ifp (by omega) hp)), hv⟩
      · have hne : ((bt s (i : Int)) != 44) = true := by rw [hb, bne_iff_ne]; exact fun h => h44 ((u8i c 44).1 h)
        have body : ∃ p, Ev (fun k => dn_value.j1 k s (numsB o) sp (i : Int) true) p ∧ ValIs o (valG (decide (i = 0)) sp (s.data.toList.drop i)) p := by
          rw [hd, valG, if_neg h44]
          have w1 : wrap64 ((i : Int) + 1) = ((i + 1 : Nat) : Int) := by rw [wrap_small _ (by omega) (by omega)]; omega
          by_cases h92 : c = 92
          · rw [if_pos h92]
            have he := escaped_ev (s.extract (i + 1) s.size)
            rw [extract_tail, mk_data] at he
            have pre : ∀ {p : ByteArray × ByteArray × Bool}, Ev (fun k => if (escP (s.data.toList.drop (i + 1))).2 = 0 then some ((⟨#[]⟩ : ByteArray), (⟨#[]⟩ : ByteArray), false) else (if (numsB o).length < 140737488355328 then (dn_value.l0 k s (numsB o ++ [(escP (s.data.toList.drop (i + 1))).1]) ((bt s (i : Int)) == 32) (wrap64 ((wrap64 ((i : Int) + (escP (s.data.toList.drop (i + 1))).2)) + 1))) else none)) p →
                Ev (fun k => dn_value.j1 k s (numsB o) sp (i : Int) true) p := by
              intro p hp
              refine Ev.step (fun k => by rw [dn_value.j1]) (Ev.ifp rfl (Ev.ifp (by omega) (Ev.ifp (by omega) (Ev.ifp (by rw [hb, h92]; rfl) ?_))))
              rw [w1]
              refine Ev.ifp (by omega) (Ev.ifp (by omega) ?_)
              rw [Int.toNat_natCast, extract_tail]
              exact he.bind hp
            unfold escP at pre
            cases hx : escN (s.data.toList.drop (i + 1)) with
            | none =>
              rw [hx] at pre
              exact ⟨_, pre (Ev.ifp rfl (Ev.now _)), rfl⟩
            | some q =>
              obtain ⟨b, m⟩ := q
              rw [hx] at pre
              have hm : (m = 1 ∨ m = 2) ∧ i + 1 + m ≤ s.size := by
                obtain ⟨e1, e2⟩ := escN_len _ _ _ hx
                rw [List.length_drop] at e2
                omega
              obtain ⟨p, hp, hv⟩ := ih (s.size - (i + 1 + m)) (by omega) (i + 1 + m) (o ++ [b]) false rfl hm.2 (by rw [List.length_append, List.length_singleton]; omega)
              rw [show decide (i + 1 + m = 0) = false from decide_eq_false (by omega)] at hv
              refine ⟨p, pre (Ev.ifn (by simp only; omega) (Ev.ifp (by rw [numsB_len]; omega) ?_)), ?_⟩
              · rw [← numsB_snoc, show ((bt s (i : Int)) == 32) = false by rw [hb, h92]; rfl]
                rw [wrap_small ((i : Int) + (m : Int)) (by omega) (by omega), wrap_small _ (by omega) (by omega), show (i : Int) + (m : Int) + 1 = ((i + 1 + m : Nat) : Int) by omega]
                exact hp
              · rw [← List.drop_drop] at hv
                exact hv.push
          · rw [if_neg h92]
            have go : ∀ {p : ByteArray × ByteArray × Bool} (h32 : 32 ≤ c) (h126 : c ≤ 126) (hsp : specialB c = false) (hf : i = 0 → c ≠ 35 ∧ c ≠ 32), Ev (fun k => dn_value.l0 k s (numsB o ++ [bt s (i : Int)]) ((bt s (i : Int)) == 32) (wrap64 ((i : Int) + 1))) p → Ev (fun k => dn_value.j1 k s (numsB o) sp (i : Int) true) p := by
              intro p h32 h126 hsp hf hp
              have g1 : ¬ bt s (i : Int) < 32 := by rw [hb]; have : (32 : UInt8).toNat ≤ c.toNat := h32; have e : (32 : UInt8).toNat = 32 := rfl; omega
              have g2 : ¬ bt s (i : Int) > 126 := by rw [hb]; have : c.toNat ≤ (126 : UInt8).toNat := h126; have e : (126 : UInt8).toNat = 126 := rfl; omega
              refine Ev.step (fun k => by rw [dn_value.j1]) (Ev.ifp rfl (Ev.ifp (by omega) (Ev.ifp (by omega) (Ev.ifn (by rw [hb]; exact fun h => h92 ((u8i c 92).1 h)) (Ev.ifn g1 (Ev.ifn g2 ?_))))))
              rw [hb, dn_special_eq, ← hb]
              refine Ev.bs (Ev.ifn (by rw [hsp]; exact Bool.false_ne_true) ?_)
              by_cases hi0 : i = 0
              · obtain ⟨f1, f2⟩ := hf hi0
                exact Ev.ifp (by omega) (Ev.ifn (by rw [hb]; exact fun h => f1 ((u8i c 35).1 h)) (Ev.ifn (by rw [hb]; exact fun h => f2 ((u8i c 32).1 h)) (Ev.ifp (by rw [numsB_len]; omega) hp)))
              · exact Ev.ifn (by omega) (Ev.ifp (by rw [numsB_len]; omega) hp)
            by_cases hbad : badB (decide (i = 0)) c = true
            · rw [if_pos hbad]
              refine ⟨((⟨#[]⟩ : ByteArray), (⟨#[]⟩ : ByteArray), false), ?_, rfl⟩
              refine Ev.step (fun k => by rw [dn_value.j1]) (Ev.ifp rfl (Ev.ifp (by omega) (Ev.ifp (by omega) (Ev.ifn (by rw [hb]; exact fun h => h92 ((u8i c 92).1 h)) ?_))))
              by_cases g1 : bt s (i : Int) < 32
              · exact Ev.ifp g1 (Ev.now _)
              refine Ev.ifn g1 ?_
              by_cases g2 : bt s (i : Int) > 126
              · exact Ev.ifp g2 (Ev.now _)
              refine Ev.ifn g2 ?_
              have g1' : ¬ c < 32 := by rw [hb] at g1; intro h; have : c.toNat < (32 : UInt8).toNat := h; have e : (32 : UInt8).toNat = 32 := rfl; omega
              have g2' : ¬ 126 < c := by rw [hb] at g2; intro h; have : (126 : UInt8).toNat < c.toNat := h; have e : (126 : UInt8).toNat = 126 := rfl; omega
              rw [hb, dn_special_eq, ← hb]
              refine Ev.bs ?_
              by_cases hsp : specialB c = true
              · exact Ev.ifp hsp (Ev.now _)
              refine Ev.ifn hsp ?_
              unfold badB at hbad
              rw [decide_eq_false g1', decide_eq_false g2', Bool.eq_false_iff.2 hsp] at hbad
              simp only [Bool.false_or, Bool.and_eq_true, decide_eq_true_eq, Bool.or_eq_true, beq_iff_eq] at hbad
              obtain ⟨hi0, h⟩ := hbad
              refine Ev.ifp (by omega) ?_
              rcases h with h | h
              · exact Ev.ifp (by rw [hb]; exact (u8i c 35).2 h) (Ev.now _)
              · exact Ev.ifn (by rw [hb, h]; decide) (Ev.ifp (by rw [hb]; exact (u8i c 32).2 h) (Ev.now _))
            · rw [if_neg hbad]
              have hbad' := Bool.eq_false_iff.2 hbad
              unfold badB at hbad'
              simp only [Bool.or_eq_false_iff, decide_eq_false_iff_not, Bool.and_eq_false_iff, beq_eq_false_iff_ne] at hbad'
              obtain ⟨⟨⟨b1, b2⟩, b3⟩, b4⟩ := hbad'
              obtain ⟨p, hp, hv⟩ := ih (s.size - (i + 1)) (by omega) (i + 1) (o ++ [c]) (c == 32) rfl (by omega) (by rw [List.length_append, List.length_singleton]; omega)
              rw [show decide (i + 1 = 0) = false from decide_eq_false (by omega)] at hv
              refine ⟨p, go (UInt8.not_lt.1 b1) (UInt8.not_lt.1 b2) b3 (fun h => ?_) ?_, hv.push⟩
              · rcases b4 with b4 | b4
                · exact absurd h b4
                · exact b4
              · rw [w1, hb, ← numsB_snoc]
                have : (((c.toNat : Int)) == 32) = (c == 32) := by
                  by_cases h : c = 32
                  · rw [h]; rfl
                  · rw [beq_eq_false_iff_ne.2 h, show (((c.toNat : Int)) == 32) = false from beq_eq_false_iff_ne.2 (fun e => h ((u8i c 32).1 e))]
                rw [this]
                exact hp
        obtain ⟨p, hp, hv⟩ := body
        refine ⟨p, Ev.step (fun k => by rw [dn_value.l0]) (Ev.ifp (by omega) (Ev.ifp (by omega) ?_)), hv⟩
        rw [hne]
        exact hp
    · obtain ⟨p, hp, hv⟩ := stop false rfl (Or.inl (List.drop_eq_nil_of_le (by omega)))
      exact ⟨p, Ev.step (fun k => by rw [dn_value.l0]) (Ev.ifn (by omega) hp), hv⟩
theorem value_ev (s : ByteArray) (hs : s.size ≤ 70368744177664) : ∃ p, Ev (fun k => dn_value.f k s) p ∧ ValIs [] (valG true false s.data.toList) p := by
  have h := value_loop s hs s.size 0 [] false (by omega) (by omega) (Nat.le_refl _)
  exact h
end Go.Proofs.YthfpaoacjpjnfaaGreatDoor.P


namespace Go.Proofs.YthfpaoacjpjnfaaGreatDoor.P
open Go.RowKit Go.Proofs.YthfpaoacjpjnfaaGreatDoorW.PrintWords Go.Proofs.YthfpaoacjpjnfaaGreatDoorW.PrintLast Go.Proofs.YthfpaoacjpjnfaaGreatDoorW.PrintMore
set_option linter.unusedVariables false
set_option linter.unusedSimpArgs false
abbrev PR := List UInt8 × List UInt8
def cutEq : List UInt8 → Option (List UInt8 × List UInt8)
  | [] => none
  | c :: r => if c = 61 then some ([], r) else (cutEq r).map fun p => (c :: p.1, p.2)
theorem cut_idx : ∀ (l : List UInt8), match cutEq l with
    | none => Lib.indexByte l 61 = -1
    | some (a, b) => ∃ n : Nat, Lib.indexByte l 61 = n ∧ l.take n = a ∧ l.drop (n + 1) = b
  | [] => rfl
  | c :: r => by
    have ih := cut_idx r
    unfold cutEq
    by_cases hc : c = 61
    · rw [if_pos hc]
      exact ⟨0, by unfold Lib.indexByte; rw [if_pos (by rw [hc]; rfl)]; rfl, rfl, rfl⟩
    · rw [if_neg hc]
      cases h : cutEq r with
      | none =>
        rw [h] at ih
        show Lib.indexByte (c :: r) 61 = -1
        unfold Lib.indexByte
        rw [if_neg (by rw [beq_iff_eq]; exact hc), if_pos (by rw [show Lib.indexByte r 61 = -1 from ih]; rfl)]
      | some p =>
        obtain ⟨a, b⟩ := p
        rw [h] at ih
        obtain ⟨n, h1, h2, h3⟩ := ih
        refine ⟨n + 1, ?_, ?_, ?_⟩
        · unfold Lib.indexByte
          rw [if_neg (by rw [beq_iff_eq]; exact hc), h1, if_neg (by rw [beq_iff_eq]; omega)]
          omega
        · rw [List.take_succ_cons, h2]
        · rw [List.drop_succ_cons, h3]
theorem cut_eq (l : List UInt8) : Lib.cut l [61] = match cutEq l with | none => (l, [], false) | some (a, b) => (a, b, true) := by
  have h := cut_idx l
  unfold Lib.cut
  rw [Lib.index_one]
  cases hc : cutEq l with
  | none =>
    rw [hc] at h
    rw [show Lib.indexByte l 61 = -1 from h, if_neg (by decide)]
  | some p =>
    obtain ⟨a, b⟩ := p
    rw [hc] at h
    obtain ⟨n, h1, h2, h3⟩ := h
    rw [h1, if_pos (by omega), Int.toNat_natCast, List.length_singleton, h2, h3]
theorem cutEq_len : ∀ (l a b : List UInt8), cutEq l = some (a, b) → l = a ++ 61 :: b
  | [], a, b, h => by cases h
  | c :: r, a, b, h => by
    unfold cutEq at h
    by_cases hc : c = 61
    · rw [if_pos hc] at h
      obtain ⟨rfl, rfl⟩ := Prod.mk.inj (Option.some.inj h)
      rw [hc]; rfl
    · rw [if_neg hc] at h
      obtain ⟨⟨a', b'⟩, h1, h2⟩ := Option.map_eq_some_iff.1 h
      obtain ⟨rfl, rfl⟩ := Prod.mk.inj h2
      rw [cutEq_len r _ _ h1]; rfl
def parseN : Nat → List UInt8 → Option (List PR)
  | 0, _ => none
  | m + 1, l => match cutEq l with
    | none => none
    | some (t, v) => if typedL t = true then (match valG true false v with
      | none => none
      | some (x, []) => some [(t, x)]
      | some (x, _ :: r) => (parseN m r).map fun y => (t, x) :: y) else none
def okV (p : PR) : Bool := !p.2.isEmpty && decide (p.2.length ≤ 100)
def okR (p : PR) : Bool := typedL p.1 && okV p
def mayL (rs : List PR) : Bool := rs.all okR && decide (rs.length ≤ 8)
def parseL (l : List UInt8) : Option (List PR) := if l = [] then some [] else (parseN 8 l).bind fun rs => if rs.all okV = true then some rs else none
def toS (p : PR) : S102 := ⟨mk p.1, mk p.2⟩
theorem rd_map (rs : List PR) (i : Nat) (h : i < rs.length) : rd_T102 (rs.map toS) (i : Int) = toS (rs.getD i ([], [])) := by
  unfold rd_T102
  rw [Int.toNat_natCast, List.getD_eq_getElem?_getD, List.getElem?_map, List.getElem?_eq_getElem h, List.getD_eq_getElem?_getD, List.getElem?_eq_getElem h]; rfl
theorem dropP_cons (l : List PR) (i : Nat) (h : i < l.length) : l.drop i = l.getD i ([], []) :: l.drop (i + 1) := by
  rw [List.drop_eq_getElem_cons h, List.getD_eq_getElem?_getD, List.getElem?_eq_getElem h]; rfl
theorem may_loop (rs : List PR) (hr : rs.length ≤ 1000000000) : ∀ n i : Nat, rs.length - i = n → i ≤ rs.length →
    Ev (fun k => dn_May.l0 k (rs.map toS) (rs.map toS) (rs.length : Int) (i : Int)) ((rs.drop i).all okR && decide (rs.length ≤ 8)) := by
  intro n
  induction n with
  | zero =>
    intro i hn hi
    refine Ev.step (fun k => by rw [dn_May.l0]) (Ev.ifn (by omega) (Ev.const fun k => ?_))
    rw [List.drop_eq_nil_of_le (by omega), List.length_map]
    simp only [List.all_nil, Bool.true_and]
    congr 1
    exact decide_eq_decide.2 (by omega)
  | succ n ih =>
    intro i hn hi
    refine Ev.step (fun k => by rw [dn_May.l0]) (Ev.ifp (by omega) (Ev.ifp (by omega) (Ev.ifp (by rw [List.length_map]; omega) ?_)))
    rw [rd_map rs i (by omega), dropP_cons rs i (by omega)]
    generalize rs.getD i ([], []) = p
    unfold dn_typed.f
    refine Ev.bs ?_
    show Ev (fun k => if typedL p.1 = true then (if (mk p.2).toList = [] then some false else (if ((mk p.2).size : Int) > 100 then some false else _)) else some false) _
    rw [List.all_cons]
    by_cases h1 : typedL p.1 = true
    · refine Ev.ifp h1 ?_
      rw [mk_toList, mk_size]
      by_cases h2 : p.2 = []
      · refine Ev.ifp h2 (Ev.const fun k => ?_)
        unfold okR okV; rw [h2]; simp
      refine Ev.ifn h2 ?_
      by_cases h3 : (p.2.length : Int) > 100
      · refine Ev.ifp h3 (Ev.const fun k => ?_)
        unfold okR okV; rw [decide_eq_false (show ¬ p.2.length ≤ 100 by omega)]; simp
      refine Ev.ifn h3 ?_
      have hp : okR p = true := by unfold okR okV; rw [h1, decide_eq_true (by omega)]; simp [List.isEmpty_iff, h2]
      rw [hp, Bool.true_and, wrap_small _ (by omega) (by omega), show (i : Int) + 1 = ((i + 1 : Nat) : Int) by omega]
      exact ih (i + 1) (by omega) (by omega)
    · refine Ev.ifn h1 (Ev.const fun k => ?_)
      unfold okR; rw [Bool.eq_false_iff.2 h1]; simp
theorem may_ev (rs : List PR) (hr : rs.length ≤ 1000000000) : Ev (fun k => dn_May.f k (rs.map toS)) (mayL rs) := by
  have h := may_loop rs hr rs.length 0 (by omega) (by omega)
  unfold dn_May.f
  rw [List.length_map]
  exact h
theorem valG_len : ∀ (n : Nat) (l : List UInt8) (f sp : Bool) (v r : List UInt8), l.length = n → valG f sp l = some (v, r) → v.length + r.length ≤ l.length ∧ (r = [] ∨ ∃ r', r = 44 :: r') := by
  intro n
  induction n using Nat.strongRecOn with
  | _ n ih =>
    intro l f sp v r hn h
    cases l with
    | nil =>
      rw [valG] at h
      split at h
      · cases h
      · obtain ⟨rfl, rfl⟩ := Prod.mk.inj (Option.some.inj h)
        exact ⟨Nat.le_refl _, Or.inl rfl⟩
    | cons c l =>
      rw [List.length_cons] at hn
      rw [valG] at h
      by_cases h44 : c = 44
      · rw [if_pos h44] at h
        split at h
        · cases h
        · obtain ⟨rfl, rfl⟩ := Prod.mk.inj (Option.some.inj h)
          exact ⟨by simp, Or.inr ⟨l, by rw [h44]⟩⟩
      rw [if_neg h44] at h
      by_cases h92 : c = 92
      · rw [if_pos h92] at h
        cases hx : escN l with
        | none => rw [hx] at h; cases h
        | some q =>
          obtain ⟨b, m⟩ := q
          rw [hx] at h
          obtain ⟨⟨v', r'⟩, h1, h2⟩ := Option.map_eq_some_iff.1 h
          obtain ⟨rfl, rfl⟩ := Prod.mk.inj h2
          obtain ⟨e1, e2⟩ := escN_len _ _ _ hx
          have := ih _ (by rw [List.length_drop]; omega) (l.drop m) _ _ _ _ rfl h1
          rw [List.length_drop] at this
          simp only [List.length_cons]
          exact ⟨by omega, this.2⟩
      · rw [if_neg h92] at h
        split at h
        · cases h
        · obtain ⟨⟨v', r'⟩, h1, h2⟩ := Option.map_eq_some_iff.1 h
          obtain ⟨rfl, rfl⟩ := Prod.mk.inj h2
          have := ih l.length (by omega) l _ _ _ _ rfl h1
          simp only [List.length_cons]
          exact ⟨by omega, this.2⟩
theorem bne_nil (l : List UInt8) : ((mk l).toList != []) = !decide (l = []) := by
  rw [mk_toList]
  cases l <;> rfl
def parseEnd (x : Option (List PR)) : List S102 × Bool := match x with | some rs => (rs.map toS, true) | none => ([], false)
def parseGo (acc : List PR) (m : Nat) (l : List UInt8) : Option (List PR) := (parseN m l).bind fun rs => if (acc ++ rs).all okV = true then some (acc ++ rs) else none
theorem parse_stop (acc : List PR) (ht : acc.all (fun p => typedL p.1) = true) (hl : acc.length ≤ 8) (s : ByteArray) :
    Ev (fun k => dn_Parse.l0 k s (acc.map toS) false) (parseEnd (if acc.all okV = true then some acc else none)) := by
  refine Ev.step (fun k => by rw [dn_Parse.l0]) (Ev.ifn Bool.false_ne_true ((may_ev acc (by omega)).bind (Ev.const fun k => ?_)))
  have e : mayL acc = acc.all okV := by
    unfold mayL
    rw [decide_eq_true hl, Bool.and_true]
    clear hl
    induction acc with
    | nil => rfl
    | cons a r ih =>
      rw [List.all_cons, Bool.and_eq_true] at ht
      rw [List.all_cons, List.all_cons, ih ht.2]
      unfold okR; rw [ht.1, Bool.true_and]
  rw [e]
  split <;> rfl
theorem parse_loop : ∀ (m : Nat) (acc : List PR), 8 - acc.length = m → acc.length ≤ 8 → acc.all (fun p => typedL p.1) = true → ∀ l : List UInt8, l.length ≤ 2147483648 →
    Ev (fun k => dn_Parse.l0 k (mk l) (acc.map toS) true) (parseEnd (parseGo acc m l)) := by
  intro m
  induction m with
  | zero =>
    intro acc hm ha ht l hl
    have e : parseGo acc 0 l = none := rfl
    rw [e]
    have j : ∀ (t v : ByteArray), Ev (fun k => dn_Parse.j1 k (acc.map toS) t v true) (([] : List S102), false) := fun t v => Ev.step (fun k => by rw [dn_Parse.j1]) (Ev.ifp rfl (Ev.now _))
    refine Ev.step (fun k => by rw [dn_Parse.l0]) (Ev.ifp rfl ?_)
    unfold strings_Cut.f
    rw [mk_size, if_pos (by omega), mk_data, show (⟨#[61]⟩ : ByteArray).data.toList = [61] from rfl, cut_eq]
    cases hc : cutEq l with
    | none => exact Ev.bs (Ev.ifn Bool.false_ne_true (j _ _))
    | some p =>
      obtain ⟨a, b⟩ := p
      refine Ev.bs (Ev.ifp rfl ?_)
      unfold dn_typed.f
      refine Ev.bs ?_
      rw [List.length_map, show (((acc.length : Int)) == 8) = true from beq_iff_eq.2 (by omega)]
      by_cases h : typedL a = true
      · exact Ev.ifp h (j _ _)
      · exact Ev.ifn h (j _ _)
  | succ m ih =>
    intro acc hm ha ht l hl
    have j : ∀ (t v : ByteArray), Ev (fun k => dn_Parse.j1 k (acc.map toS) t v true) (([] : List S102), false) := fun t v => Ev.step (fun k => by rw [dn_Parse.j1]) (Ev.ifp rfl (Ev.now _))
    refine Ev.step (fun k => by rw [dn_Parse.l0]) (Ev.ifp rfl ?_)
    unfold strings_Cut.f
    rw [mk_size, if_pos (by omega), mk_data, show (⟨#[61]⟩ : ByteArray).data.toList = [61] from rfl, cut_eq]
    unfold parseGo parseN
    cases hc : cutEq l with
    | none => exact Ev.bs (Ev.ifn Bool.false_ne_true (j _ _))
    | some p =>
      obtain ⟨a, b⟩ := p
      have hlen := congrArg List.length (cutEq_len _ _ _ hc)
      rw [List.length_append, List.length_cons] at hlen
      refine Ev.bs (Ev.ifp rfl ?_)
      unfold dn_typed.f
      refine Ev.bs ?_
      rw [List.length_map, show (((acc.length : Int)) == 8) = false from beq_eq_false_iff_ne.2 (by omega)]
      by_cases h : typedL a = true
      · simp only [if_pos h]
        refine Ev.step (fun k => by rw [dn_Parse.j1]) (Ev.ifn Bool.false_ne_true ?_)
        obtain ⟨p, hp, hv⟩ := value_ev (mk b) (by rw [mk_size]; omega)
        rw [mk_data] at hv
        refine hp.bind ?_
        cases hx : valG true false b with
        | none =>
          rw [hx] at hv
          exact Ev.ifn (by rw [show p.2.2 = false from hv]; exact Bool.false_ne_true) (Ev.now _)
        | some q =>
          obtain ⟨v, r⟩ := q
          rw [hx] at hv
          rw [show p = (mk v, mk r, true) from hv]
          have hvl := valG_len _ _ _ _ _ _ rfl hx
          have ht' : (acc ++ [(a, v)]).all (fun p => typedL p.1) = true := by rw [List.all_append, ht]; simp [h]
          have hm' : (acc.map toS ++ [(⟨mk a, mk v⟩ : S102)]) = (acc ++ [(a, v)]).map toS := by rw [List.map_append]; rfl
          refine Ev.ifp rfl (Ev.ifp (by rw [List.length_map]; omega) (Ev.bs ?_))
          show Ev (fun k => if (mk r).toList = [] then dn_Parse.l0 k (mk r) (acc.map toS ++ [(⟨mk a, mk v⟩ : S102)]) ((mk r).toList != []) else _) _
          rw [hm', bne_nil, mk_toList]
          cases r with
          | nil =>
            refine Ev.ifp rfl ?_
            exact parse_stop (acc ++ [(a, v)]) ht' (by rw [List.length_append, List.length_singleton]; omega) _
          | cons c r =>
            refine Ev.ifn (by simp) (Ev.ifp (by rw [mk_size]; simp only [List.length_cons]; omega) ?_)
            rw [extract_tail, mk_data, List.drop_succ_cons, List.drop_zero]
            have hi := ih (acc ++ [(a, v)]) (by rw [List.length_append, List.length_singleton]; omega) (by rw [List.length_append, List.length_singleton]; omega) ht' r (by simp only [List.length_cons] at hvl; omega)
            have e : parseGo (acc ++ [(a, v)]) m r = ((parseN m r).map fun y => (a, v) :: y).bind fun rs => if (acc ++ rs).all okV = true then some (acc ++ rs) else none := by
              unfold parseGo
              cases parseN m r with
              | none => rfl
              | some y => simp only [Option.bind_some, Option.map_some, List.append_assoc, List.singleton_append]
            rw [e] at hi
            exact hi
      · simp only [if_neg h]
        exact j _ _
theorem parse_ev (s : ByteArray) (hs : s.size ≤ 2147483648) : Ev (fun k => dn_Parse.f k s) (parseEnd (parseL s.data.toList)) := by
  rw [← mk_of s]
  rw [size_len] at hs
  generalize s.data.toList = l at hs
  unfold dn_Parse.f parseL
  rw [bne_nil]
  by_cases h : l = []
  · rw [if_pos h, decide_eq_true h]
    exact parse_stop [] rfl (by decide) _
  · rw [if_neg h, decide_eq_false h]
    have := parse_loop 8 [] rfl (by decide) rfl l hs
    unfold parseGo at this
    simp only [List.nil_append] at this
    exact this
end Go.Proofs.YthfpaoacjpjnfaaGreatDoor.P


namespace Go.Proofs.YthfpaoacjpjnfaaGreatDoor.P
open Go.RowKit Go.Proofs.YthfpaoacjpjnfaaGreatDoorW.PrintWords Go.Proofs.YthfpaoacjpjnfaaGreatDoorW.PrintLast Go.Proofs.YthfpaoacjpjnfaaGreatDoorW.PrintMore
set_option linter.unusedVariables false
set_option linter.unusedSimpArgs false
def escF (first : Bool) : List UInt8 → List UInt8
  | [] => []
  | c :: r => (if oddB c = true then [92, hexD (c >>> 4), hexD (c &&& 15)] else if (specialB c || (first && (decide (c = 35) || decide (c = 32))) || (decide (r = []) && decide (c = 32))) = true then [92, c] else [c]) ++ escF false r
theorem escTo_F (l : List UInt8) : ∀ i, i ≤ l.length → escTo l i ++ escF (decide (i = 0)) (l.drop i) = escF true l
  | 0, _ => by
    show escTo l 0 ++ escF true (l.drop 0) = escF true l
    rfl
  | i + 1, h => by
    have ih := escTo_F l i (by omega)
    rw [drop_cons l i (by omega), escF] at ih
    rw [escTo_succ, show decide (i + 1 = 0) = false from decide_eq_false (by omega), List.append_assoc, ← ih]
    congr 2
    unfold escB backB
    have e : decide (l.drop (i + 1) = []) = decide (i + 1 = l.length) := decide_eq_decide.2 (by rw [List.drop_eq_nil_iff]; omega)
    rw [e]
theorem escV_F (l : List UInt8) : escV l = escF true l := by
  have h := escTo_F l l.length (Nat.le_refl _)
  rw [List.drop_length] at h
  simp only [escF, List.append_nil] at h
  exact h
def textR (first : Bool) : List PR → List UInt8
  | [] => []
  | p :: r => (if first = true then [] else [44]) ++ (p.1 ++ [61] ++ escF true p.2) ++ textR false r
theorem textTo_R (rs : List PR) : ∀ i, i ≤ rs.length → textTo (rs.map toS) i ++ textR (decide (i = 0)) (rs.drop i) = textR true rs
  | 0, _ => by
    show textTo (rs.map toS) 0 ++ textR true (rs.drop 0) = textR true rs
    rfl
  | i + 1, h => by
    have ih := textTo_R rs i (by omega)
    rw [dropP_cons rs i (by omega), textR] at ih
    rw [textTo_succ, show decide (i + 1 = 0) = false from decide_eq_false (by omega), List.append_assoc, ← ih, List.append_assoc]
    have e : ((rs.map toS).getD i z102) = toS (rs.getD i ([], [])) := by
      rw [List.getD_eq_getElem?_getD, List.getElem?_map, List.getElem?_eq_getElem (by omega), List.getD_eq_getElem?_getD, List.getElem?_eq_getElem (by omega)]; rfl
    rw [e]
    unfold sepB rdnB toS
    rw [mk_data, mk_data, escV_F]
    by_cases h0 : i = 0
    · rw [if_pos h0, decide_eq_true h0, if_pos rfl]
      simp only [List.append_assoc]
    · rw [if_neg h0, decide_eq_false h0, if_neg Bool.false_ne_true]
      simp only [List.append_assoc]
theorem textL_R (rs : List PR) : textL (rs.map toS) = textR true rs := by
  have h := textTo_R rs rs.length (Nat.le_refl _)
  rw [List.drop_length] at h
  unfold textL
  rw [List.length_map]
  simp only [textR, List.append_nil] at h
  exact h
theorem odd_hex (c : UInt8) : oddB c = true → (specialB (hexD (c >>> 4)) || hexD (c >>> 4) == 61 || hexD (c >>> 4) == 35 || hexD (c >>> 4) == 32) = false ∧ (isHexB (hexD (c >>> 4)) && isHexB (hexD (c &&& 15))) = true ∧ hexVB (hexD (c >>> 4)) * 16 + hexVB (hexD (c &&& 15)) = c :=
  byteAll (p := fun c => oddB c = true → (specialB (hexD (c >>> 4)) || hexD (c >>> 4) == 61 || hexD (c >>> 4) == 35 || hexD (c >>> 4) == 32) = false ∧ (isHexB (hexD (c >>> 4)) && isHexB (hexD (c &&& 15))) = true ∧ hexVB (hexD (c >>> 4)) * 16 + hexVB (hexD (c &&& 15)) = c) (by decide +kernel) c
theorem bare_ok (f : Bool) (c : UInt8) : oddB c = false → (specialB c || (f && (decide (c = 35) || decide (c = 32)))) = false → c ≠ 44 ∧ c ≠ 92 ∧ badB f c = false := by
  cases f
  · exact byteAll (p := fun c => oddB c = false → (specialB c || (false && (decide (c = 35) || decide (c = 32)))) = false → c ≠ 44 ∧ c ≠ 92 ∧ badB false c = false) (by decide +kernel) c
  · exact byteAll (p := fun c => oddB c = false → (specialB c || (true && (decide (c = 35) || decide (c = 32)))) = false → c ≠ 44 ∧ c ≠ 92 ∧ badB true c = false) (by decide +kernel) c
theorem valG_esc (tail : List UInt8) (ht : tail = [] ∨ ∃ t, tail = 44 :: t) : ∀ (v : List UInt8) (f sp : Bool), (v = [] → sp = false) → valG f sp (escF f v ++ tail) = some (v, tail)
  | [], f, sp, hsp => by
    rw [hsp rfl]
    rcases ht with rfl | ⟨t, rfl⟩
    · show valG f false [] = _; rw [valG, if_neg Bool.false_ne_true]
    · show valG f false (44 :: t) = _; rw [valG, if_pos rfl, if_neg Bool.false_ne_true]
  | c :: r, f, sp, _ => by
    unfold escF
    by_cases ho : oddB c = true
    · obtain ⟨h1, h2, h3⟩ := odd_hex c ho
      rw [if_pos ho]
      show valG f sp (92 :: hexD (c >>> 4) :: hexD (c &&& 15) :: (escF false r ++ tail)) = _
      rw [valG, if_neg (by decide), if_pos rfl, escN_f2 _ _ _ h1, if_pos h2, h3]
      show (valG false false (escF false r ++ tail)).map _ = _
      rw [valG_esc tail ht r false false (fun _ => rfl)]; rfl
    · rw [if_neg ho]
      have ho' := Bool.eq_false_iff.2 ho
      by_cases hb : (specialB c || (f && (decide (c = 35) || decide (c = 32))) || (decide (r = []) && decide (c = 32))) = true
      · rw [if_pos hb]
        show valG f sp (92 :: c :: (escF false r ++ tail)) = _
        have hc : (specialB c || c == 61 || c == 35 || c == 32) = true := by
          simp only [Bool.or_eq_true, Bool.and_eq_true, decide_eq_true_eq, beq_iff_eq] at hb ⊢
          rcases hb with (h | ⟨_, h | h⟩) | ⟨_, h⟩
          · exact .inl (.inl (.inl h))
          · exact .inl (.inr h)
          · exact .inr h
          · exact .inr h
        rw [valG, if_neg (by decide), if_pos rfl, escN_t _ _ hc]
        show (valG false false (escF false r ++ tail)).map _ = _
        rw [valG_esc tail ht r false false (fun _ => rfl)]; rfl
      · rw [if_neg hb]
        have hb' := Bool.eq_false_iff.2 hb
        rw [Bool.or_eq_false_iff] at hb'
        obtain ⟨b1, b2, b3⟩ := bare_ok f c ho' hb'.1
        show valG f sp (c :: (escF false r ++ tail)) = _
        rw [valG, if_neg b1, if_neg b2, if_neg (by rw [b3]; exact Bool.false_ne_true), valG_esc tail ht r false (c == 32) ?_]
        · rfl
        · intro hr
          have := hb'.2
          rw [decide_eq_true hr, Bool.true_and] at this
          exact beq_eq_false_iff_ne.2 (of_decide_eq_false this)
theorem cutEq_app : ∀ (t r : List UInt8), (∀ c ∈ t, c ≠ 61) → cutEq (t ++ 61 :: r) = some (t, r)
  | [], r, _ => by show cutEq (61 :: r) = _; unfold cutEq; rw [if_pos rfl]
  | c :: t, r, h => by
    show cutEq (c :: (t ++ 61 :: r)) = _
    unfold cutEq
    rw [if_neg (h c (List.mem_cons_self)), cutEq_app t r (fun x hx => h x (List.mem_cons_of_mem _ hx))]; rfl
theorem typed_no61 {t : List UInt8} (h : typedL t = true) : ∀ c ∈ t, c ≠ 61 := by
  intro c hc e
  unfold typedL at h
  simp only [Bool.and_eq_true] at h
  have := List.all_eq_true.1 h.2 c hc
  rw [e] at this
  exact absurd this (by decide)
theorem textR_tail (rs : List PR) : textR false rs = [] ∨ ∃ t, textR false rs = 44 :: t := by
  cases rs with
  | nil => exact Or.inl rfl
  | cons p r => exact Or.inr ⟨p.1 ++ [61] ++ escF true p.2 ++ textR false r, rfl⟩
theorem parseN_text : ∀ (m : Nat) (rs : List PR), rs ≠ [] → rs.length ≤ m → rs.all okR = true → parseN m (textR true rs) = some rs
  | 0, rs, h, hl, _ => absurd (List.eq_nil_of_length_eq_zero (by omega)) h
  | m + 1, [], h, _, _ => absurd rfl h
  | m + 1, (t, v) :: rs, _, hl, hr => by
    rw [List.all_cons, Bool.and_eq_true] at hr
    unfold okR okV at hr
    simp only [Bool.and_eq_true] at hr
    obtain ⟨⟨h1, h2, h3⟩, h4⟩ := hr
    have hv : v ≠ [] := by intro e; subst e; exact absurd h2 (by decide)
    have e : textR true ((t, v) :: rs) = t ++ 61 :: (escF true v ++ textR false rs) := by
      show [] ++ (t ++ [61] ++ escF true v) ++ textR false rs = _
      simp
    unfold parseN
    rw [e, cutEq_app t _ (typed_no61 h1)]
    simp only [if_pos h1]
    rw [valG_esc (textR false rs) (textR_tail rs) v true false (fun h => absurd h hv)]
    cases rs with
    | nil => rfl
    | cons p r =>
      have ih := parseN_text m (p :: r) (by simp) (by simp only [List.length_cons] at hl ⊢; omega) h4
      have e2 : textR false (p :: r) = 44 :: textR true (p :: r) := rfl
      rw [e2]
      simp only [ih, Option.map_some]
theorem textR_nil {rs : List PR} (h : textR true rs = []) : rs = [] := by
  cases rs with
  | nil => rfl
  | cons p r =>
    exfalso
    have := congrArg List.length h
    simp [textR] at this
theorem parse_text (rs : List PR) (h : mayL rs = true) : parseL (textR true rs) = some rs := by
  unfold mayL at h
  rw [Bool.and_eq_true] at h
  obtain ⟨h1, h2⟩ := h
  unfold parseL
  by_cases h0 : rs = []
  · subst h0; rfl
  · rw [if_neg (fun e => h0 (textR_nil e)), parseN_text 8 rs h0 (of_decide_eq_true h2) h1]
    rw [Option.bind_some, if_pos]
    refine List.all_eq_true.2 fun p hp => ?_
    have := List.all_eq_true.1 h1 p hp
    unfold okR at this
    rw [Bool.and_eq_true] at this
    exact this.2
theorem parseN_ok : ∀ (m : Nat) (l : List UInt8) (rs : List PR), parseN m l = some rs → rs.length ≤ m ∧ rs ≠ [] ∧ rs.all (fun p => typedL p.1) = true
  | 0, l, rs, h => by cases h
  | m + 1, l, rs, h => by
    unfold parseN at h
    cases hc : cutEq l with
    | none => rw [hc] at h; cases h
    | some p =>
      obtain ⟨a, b⟩ := p
      rw [hc] at h
      simp only at h
      by_cases ht : typedL a = true
      · rw [if_pos ht] at h
        cases hx : valG true false b with
        | none => rw [hx] at h; cases h
        | some q =>
          obtain ⟨v, r⟩ := q
          rw [hx] at h
          cases r with
          | nil =>
            obtain rfl := Option.some.inj h
            exact ⟨by simp, by simp, by simp [ht]⟩
          | cons c r =>
            obtain ⟨y, h1, rfl⟩ := Option.map_eq_some_iff.1 h
            obtain ⟨i1, i2, i3⟩ := parseN_ok m r y h1
            exact ⟨by simp only [List.length_cons]; omega, by simp, by rw [List.all_cons, i3]; simp [ht]⟩
      · rw [if_neg ht] at h; cases h
theorem parse_may {l : List UInt8} {rs : List PR} (h : parseL l = some rs) : mayL rs = true := by
  unfold parseL at h
  by_cases h0 : l = []
  · rw [if_pos h0] at h
    obtain rfl := Option.some.inj h
    decide
  · rw [if_neg h0] at h
    obtain ⟨y, h1, h2⟩ := Option.bind_eq_some_iff.1 h
    by_cases ho : y.all okV = true
    · rw [if_pos ho] at h2
      obtain rfl := Option.some.inj h2
      obtain ⟨i1, i2, i3⟩ := parseN_ok _ _ _ h1
      unfold mayL
      rw [decide_eq_true i1, Bool.and_true]
      refine List.all_eq_true.2 fun p hp => ?_
      unfold okR
      rw [List.all_eq_true.1 i3 p hp, List.all_eq_true.1 ho p hp]; rfl
    · rw [if_neg ho] at h2; cases h2
def normR (p : PR) : PR := (p.1.map lowB, foldL p.2)
def keyR (rs : List PR) : Option (List UInt8) := if rs.all (fun p => !(foldL p.2).isEmpty) = true then some (textR true (rs.map normR)) else none
def keyL (l : List UInt8) : Option (List UInt8) := (parseL l).bind keyR
theorem escF_len (f : Bool) : ∀ v : List UInt8, (escF f v).length ≤ 3 * v.length := by
  intro v
  induction v generalizing f with
  | nil => exact Nat.zero_le _
  | cons c r ih =>
    unfold escF
    rw [List.length_append, List.length_cons]
    have := ih false
    split
    · simp only [List.length_cons, List.length_nil]; omega
    · split <;> (simp only [List.length_cons, List.length_nil]; omega)
theorem foldL_len (l : List UInt8) : (foldL l).length ≤ l.length := by
  unfold foldL
  have h := sq_take_len ((Lib.trimB l 32).map lowB) _ (Nat.le_refl _)
  rw [List.take_length, List.length_map] at h
  exact Nat.le_trans h (trimB_len l)
theorem textR_len (n : Nat) : ∀ (rs : List PR) (f : Bool), (∀ p ∈ rs, p.1.length ≤ 30 ∧ p.2.length ≤ n) → (textR f rs).length ≤ rs.length * (32 + 3 * n)
  | [], _, _ => Nat.zero_le _
  | p :: r, f, h => by
    have ih := textR_len n r false (fun q hq => h q (List.mem_cons_of_mem _ hq))
    have hp := h p (List.mem_cons_self)
    have he := escF_len true p.2
    unfold textR
    simp only [List.length_append, List.length_cons, List.length_nil]
    rw [Nat.add_mul]
    have : (if f = true then ([] : List UInt8) else [44]).length ≤ 1 := by split <;> simp
    omega
theorem key_loop (rs : List PR) (hr : mayL rs = true) : ∀ n i : Nat, rs.length - i = n → i ≤ rs.length → (rs.take i).all (fun p => !(foldL p.2).isEmpty) = true →
    Ev (fun k => dn_Key.l0 k (((rs.take i).map normR ++ rs.drop i).map toS) (rs.length : Int) (i : Int)) (encO (keyR rs)) := by
  have hm := hr
  unfold mayL at hm
  rw [Bool.and_eq_true, decide_eq_true_eq] at hm
  have hb : ∀ p ∈ rs, p.1.length ≤ 30 ∧ p.2.length ≤ 100 := by
    intro p hp
    have := List.all_eq_true.1 hm.1 p hp
    unfold okR okV typedL at this
    simp only [Bool.and_eq_true, decide_eq_true_eq] at this
    exact ⟨this.1.1.1.2, this.2.2⟩
  intro n
  induction n with
  | zero =>
    intro i hn hi hall
    have e : i = rs.length := by omega
    subst e
    rw [List.take_length] at hall
    rw [List.take_length, List.drop_length, List.append_nil]
    have ek : keyR rs = some (textR true (rs.map normR)) := by unfold keyR; rw [if_pos hall]
    rw [ek]
    refine Ev.step (fun k => by rw [dn_Key.l0]) (Ev.ifn (by omega) ?_)
    unfold dn_Text.f
    rw [textL_R]
    have hl := textR_len 100 (rs.map normR) true (fun q hq => by
      obtain ⟨p, hp, rfl⟩ := List.mem_map.1 hq
      have := hb p hp
      unfold normR
      have h2 := foldL_len p.2
      simp only [List.length_map]
      omega)
    rw [List.length_map] at hl
    rw [if_pos (by omega)]
    exact Ev.const fun k => rfl
  | succ n ih =>
    intro i hn hi hall
    have hget : (((rs.take i).map normR ++ rs.drop i).getD i ([], [])) = rs.getD i ([], []) := by
      rw [List.getD_eq_getElem?_getD, List.getElem?_append_right (by rw [List.length_map, List.length_take]; omega), List.length_map, List.length_take, Nat.min_eq_left hi, Nat.sub_self, List.getElem?_drop, Nat.add_zero, ← List.getD_eq_getElem?_getD]
    have hlen : ((rs.take i).map normR ++ rs.drop i).length = rs.length := by
      rw [List.length_append, List.length_map, List.length_take, List.length_drop]; omega
    refine Ev.step (fun k => by rw [dn_Key.l0]) (Ev.ifp (by omega) (Ev.ifp (by omega) (Ev.ifp (by rw [List.length_map, hlen]; omega) ?_)))
    rw [rd_map _ i (by omega), hget]
    generalize hp : rs.getD i ([], []) = p
    have hpm : p ∈ rs := by
      rw [← hp, List.getD_eq_getElem?_getD, List.getElem?_eq_getElem (by omega)]
      exact List.getElem_mem _
    have hbp := hb p hpm
    have e1 : dn_lowered.f (toS p).f0 = some (mk (p.1.map lowB)) := by
      unfold dn_lowered.f toS
      rw [mk_size, if_pos (by omega)]
      congr 1
      apply ba_ext
      rw [lowS_data, mk_data, mk_data]
    have e2 : dn_Fold.f (toS p).f1 = some (mk (foldL p.2)) := by
      unfold dn_Fold.f toS
      rw [mk_size, if_pos (by omega), mk_data]
    rw [e1, e2]
    refine Ev.bs (Ev.bs (Ev.bs ?_))
    rw [mk_toList]
    by_cases hf : foldL p.2 = []
    · refine Ev.ifp hf ?_
      have ek : keyR rs = none := by
        unfold keyR
        rw [if_neg]
        intro h
        have := List.all_eq_true.1 h p hpm
        rw [hf] at this
        exact absurd this (by decide)
      rw [ek]
      exact Ev.now _
    · refine Ev.ifn hf ?_
      have hset : ((((rs.take i).map normR ++ rs.drop i).map toS).set (i : Int).toNat (⟨mk (p.1.map lowB), (toS p).f1⟩ : S102)).set (i : Int).toNat (⟨(rd_T102 ((((rs.take i).map normR ++ rs.drop i).map toS).set (i : Int).toNat (⟨mk (p.1.map lowB), (toS p).f1⟩ : S102)) (i : Int)).f0, mk (foldL p.2)⟩ : S102) = (((rs.take (i + 1)).map normR ++ rs.drop (i + 1)).map toS) := by
        rw [Int.toNat_natCast, List.set_set]
        have er : (rd_T102 ((((rs.take i).map normR ++ rs.drop i).map toS).set i (⟨mk (p.1.map lowB), (toS p).f1⟩ : S102)) (i : Int)).f0 = mk (p.1.map lowB) := by
          unfold rd_T102
          rw [Int.toNat_natCast, List.getD_eq_getElem?_getD, List.getElem?_set_self (by rw [List.length_map, hlen]; omega)]; rfl
        rw [er, dropP_cons rs i (by omega), hp, List.take_succ_eq_append_getElem (by omega), List.map_append, List.map_append, List.map_append, List.map_append, List.map_cons]
        have eg : rs[i]'(by omega) = p := by rw [← hp, List.getD_eq_getElem?_getD, List.getElem?_eq_getElem (by omega)]; rfl
        rw [eg, List.set_append_right _ _ (by rw [List.length_map, List.length_map, List.length_take]; omega)]
        rw [show i - ((rs.take i).map normR |>.map toS).length = 0 by rw [List.length_map, List.length_map, List.length_take]; omega]
        rw [List.set_cons_zero, List.append_assoc]
        rfl
      rw [hset, wrap_small _ (by omega) (by omega), show (i : Int) + 1 = ((i + 1 : Nat) : Int) by omega]
      refine ih (i + 1) (by omega) (by omega) ?_
      rw [List.take_succ_eq_append_getElem (by omega), List.all_append, hall]
      have eg : rs[i]'(by omega) = p := by rw [← hp, List.getD_eq_getElem?_getD, List.getElem?_eq_getElem (by omega)]; rfl
      rw [eg]
      simp [List.isEmpty_iff, hf]
theorem key_ev (s : ByteArray) (hs : s.size ≤ 2147483648) : Ev (fun k => dn_Key.f k s) (encO (keyL s.data.toList)) := by
  unfold dn_Key.f keyL
  refine (parse_ev s hs).bind ?_
  cases h : parseL s.data.toList with
  | none => exact Ev.ifn Bool.false_ne_true (Ev.now _)
  | some rs =>
    refine Ev.ifp rfl ?_
    have := key_loop rs (parse_may h) rs.length 0 (by omega) (by omega) (by rfl)
    show Ev (fun k => dn_Key.l0 k (rs.map toS) ((rs.map toS).length : Int) 0) (encO (keyR rs))
    rw [List.length_map]
    exact this
end Go.Proofs.YthfpaoacjpjnfaaGreatDoor.P


namespace Go.Proofs.YthfpaoacjpjnfaaGreatDoor.P
open Go.RowKit Go.Proofs.YthfpaoacjpjnfaaGreatDoorW.PrintWords Go.Proofs.YthfpaoacjpjnfaaGreatDoorW.PrintLast Go.Proofs.YthfpaoacjpjnfaaGreatDoorW.PrintMore
set_option linter.unusedVariables false
set_option linter.unusedSimpArgs false
def sqR (b : Bool) : List UInt8 → List UInt8
  | [] => []
  | c :: r => if c = 32 ∧ b = true then sqR true r else c :: sqR (decide (c = 32)) r
theorem foldl_sq : ∀ (l acc : List UInt8), l.foldl sqStep acc = acc ++ sqR (decide (acc.getLast? = some 32)) l
  | [], acc => by simp [sqR]
  | c :: r, acc => by
    rw [List.foldl_cons, foldl_sq r]
    unfold sqStep
    conv => rhs; rw [sqR]
    by_cases h : c = 32 ∧ acc.getLast? = some 32
    · rw [if_pos h, if_pos ⟨h.1, decide_eq_true h.2⟩, decide_eq_true h.2]
    · rw [if_neg h, if_neg (fun e => h ⟨e.1, of_decide_eq_true e.2⟩), List.append_assoc]
      have : (decide ((acc ++ [c]).getLast? = some 32)) = decide (c = 32) := decide_eq_decide.2 (by simp)
      rw [this]; rfl
theorem sq_R (l : List UInt8) : sq l = sqR false l := by
  unfold sq
  rw [foldl_sq]; rfl
theorem sqR_idem : ∀ (l : List UInt8) (b : Bool), sqR b (sqR b l) = sqR b l
  | [], b => rfl
  | c :: r, b => by
    by_cases h : c = 32 ∧ b = true
    · have e : sqR b (c :: r) = sqR true r := by rw [sqR, if_pos h]
      rw [e, h.2]
      exact sqR_idem r true
    · have e : sqR b (c :: r) = c :: sqR (decide (c = 32)) r := by rw [sqR, if_neg h]
      rw [e, sqR, if_neg h, sqR_idem r]
theorem lowB_idem (c : UInt8) : lowB (lowB c) = lowB c := byteAll (p := fun c => lowB (lowB c) = lowB c) (by decide +kernel) c
theorem low_idem (l : List UInt8) : (l.map lowB).map lowB = l.map lowB := by
  rw [List.map_map]
  exact List.map_congr_left fun c _ => lowB_idem c
theorem sqR_low : ∀ (l : List UInt8) (b : Bool), (sqR b l).map lowB = sqR b (l.map lowB)
  | [], b => rfl
  | c :: r, b => by
    rw [List.map_cons, sqR, sqR]
    have e : (lowB c = 32) = (c = 32) := propext (lowB_blank c)
    by_cases h : c = 32 ∧ b = true
    · rw [if_pos h, if_pos ⟨(lowB_blank c).2 h.1, h.2⟩, sqR_low r]
    · rw [if_neg h, if_neg (fun x => h ⟨(lowB_blank c).1 x.1, x.2⟩), List.map_cons, sqR_low r]
      simp only [e]
theorem sqR_last : ∀ (l : List UInt8) (b : Bool), l ≠ [] → l.getLast? ≠ some 32 → (sqR b l).getLast? = l.getLast? ∧ sqR b l ≠ []
  | [], b, h, _ => absurd rfl h
  | [c], b, _, h => by
    have hc : c ≠ 32 := fun e => h (by rw [e]; rfl)
    rw [sqR, if_neg (fun x => hc x.1)]
    exact ⟨rfl, by simp⟩
  | c :: d :: r, b, _, h => by
    have h' : (d :: r).getLast? ≠ some 32 := by rw [List.getLast?_cons_cons] at h; exact h
    rw [sqR]
    by_cases hx : c = 32 ∧ b = true
    · rw [if_pos hx, List.getLast?_cons_cons]
      exact sqR_last (d :: r) true (by simp) h'
    · rw [if_neg hx, List.getLast?_cons_cons]
      obtain ⟨h1, h2⟩ := sqR_last (d :: r) (decide (c = 32)) (by simp) h'
      refine ⟨?_, by simp⟩
      rw [← h1]
      cases hs : sqR (decide (c = 32)) (d :: r) with
      | nil => exact absurd hs h2
      | cons x y => rw [List.getLast?_cons_cons]
theorem dropW_head (l : List UInt8) : (l.dropWhile (· == 32)).head? ≠ some 32 := by
  induction l with
  | nil => simp
  | cons c r ih =>
    rw [List.dropWhile_cons]
    split
    · exact ih
    · rename_i h
      intro e
      have : c = 32 := by simpa using e
      exact h (by rw [this]; rfl)
theorem dropW_id (l : List UInt8) (h : l.head? ≠ some 32) : l.dropWhile (· == 32) = l := by
  cases l with
  | nil => rfl
  | cons c r =>
    rw [List.dropWhile_cons, if_neg]
    intro e
    exact h (by rw [beq_iff_eq.1 e]; rfl)
theorem dropW_last (l : List UInt8) (h : l.getLast? ≠ some 32) : (l.dropWhile (· == 32)).getLast? ≠ some 32 := by
  induction l with
  | nil => simp
  | cons c r ih =>
    rw [List.dropWhile_cons]
    split
    · cases r with
      | nil => simp
      | cons d r => exact ih (by rw [List.getLast?_cons_cons] at h; exact h)
    · exact h
theorem trim_head (l : List UInt8) : (Lib.trimB l 32).head? ≠ some 32 := dropW_head _
theorem trim_last (l : List UInt8) : (Lib.trimB l 32).getLast? ≠ some 32 := by
  refine dropW_last _ ?_
  unfold Lib.trimRightB
  rw [List.getLast?_reverse]
  exact dropW_head _
theorem trim_id (l : List UInt8) (h1 : l.head? ≠ some 32) (h2 : l.getLast? ≠ some 32) : Lib.trimB l 32 = l := by
  unfold Lib.trimB Lib.trimLeftB Lib.trimRightB
  rw [dropW_id l.reverse (by rw [List.head?_reverse]; exact h2), List.reverse_reverse, dropW_id l h1]
theorem foldL_R (l : List UInt8) : foldL l = sqR false ((Lib.trimB l 32).map lowB) := sq_R _
theorem low_ends (l : List UInt8) (h1 : l.head? ≠ some 32) (h2 : l.getLast? ≠ some 32) : (l.map lowB).head? ≠ some 32 ∧ (l.map lowB).getLast? ≠ some 32 := by
  constructor
  · intro e
    rw [List.head?_map, Option.map_eq_some_iff] at e
    obtain ⟨c, hc, e⟩ := e
    exact h1 (by rw [hc, (lowB_blank c).1 e])
  · intro e
    rw [List.getLast?_map, Option.map_eq_some_iff] at e
    obtain ⟨c, hc, e⟩ := e
    exact h2 (by rw [hc, (lowB_blank c).1 e])
theorem sqR_head (l : List UInt8) : (sqR false l).head? = l.head? := by
  cases l with
  | nil => rfl
  | cons c r => rw [sqR, if_neg (fun x => Bool.false_ne_true x.2)]; rfl
theorem fold_ends (l : List UInt8) : (foldL l).head? ≠ some 32 ∧ (foldL l).getLast? ≠ some 32 := by
  rw [foldL_R]
  obtain ⟨h1, h2⟩ := low_ends _ (trim_head l) (trim_last l)
  refine ⟨by rw [sqR_head]; exact h1, ?_⟩
  by_cases h : (Lib.trimB l 32).map lowB = []
  · rw [h]; simp [sqR]
  · rw [(sqR_last _ false h h2).1]; exact h2
theorem fold_idem (l : List UInt8) : foldL (foldL l) = foldL l := by
  obtain ⟨h1, h2⟩ := fold_ends l
  rw [foldL_R (foldL l), trim_id _ h1 h2, foldL_R l, sqR_low, low_idem, sqR_idem]
def cst (f : Bool) (c : UInt8) : Nat := if oddB c = true then 3 else if (specialB c || (f && (decide (c = 35) || decide (c = 32)))) = true then 2 else 1
def costV (f : Bool) : List UInt8 → Nat
  | [] => 0
  | c :: r => cst f c + costV false r
theorem cst_pos (f : Bool) (c : UInt8) : 1 ≤ cst f c := by unfold cst; split; omega; split <;> omega
theorem cst_three (f : Bool) (c : UInt8) : cst f c ≤ 3 := by unfold cst; split; omega; split <;> omega
theorem cst_one (f : Bool) (c : UInt8) : badB f c = false → cst f c = 1 := by
  cases f
  · exact byteAll (p := fun c => badB false c = false → cst false c = 1) (by decide +kernel) c
  · exact byteAll (p := fun c => badB true c = false → cst true c = 1) (by decide +kernel) c
theorem cst_two (f : Bool) (c : UInt8) : (specialB c || c == 61 || c == 35 || c == 32) = true → cst f c ≤ 2 := by
  cases f
  · exact byteAll (p := fun c => (specialB c || c == 61 || c == 35 || c == 32) = true → cst false c ≤ 2) (by decide +kernel) c
  · exact byteAll (p := fun c => (specialB c || c == 61 || c == 35 || c == 32) = true → cst true c ≤ 2) (by decide +kernel) c
theorem cst_low (f : Bool) (c : UInt8) : cst f (lowB c) = cst f c := by
  cases f
  · exact byteAll (p := fun c => cst false (lowB c) = cst false c) (by decide +kernel) c
  · exact byteAll (p := fun c => cst true (lowB c) = cst true c) (by decide +kernel) c
theorem cst_first (c : UInt8) : cst true c ≤ cst false c + 1 := byteAll (p := fun c => cst true c ≤ cst false c + 1) (by decide +kernel) c
theorem escN_cost (f : Bool) (l : List UInt8) (b : UInt8) (n : Nat) (h : escN l = some (b, n)) : cst f b ≤ n + 1 := by
  cases l with
  | nil => cases h
  | cons c r =>
    cases hc : (specialB c || c == 61 || c == 35 || c == 32) with
    | true =>
      rw [escN_t c r hc] at h
      obtain ⟨e1, e2⟩ := Prod.mk.inj (Option.some.inj h)
      rw [← e1, ← e2]
      exact cst_two f c hc
    | false =>
      cases r with
      | nil => rw [escN_f1 c hc] at h; cases h
      | cons d r =>
        rw [escN_f2 c d r hc] at h
        by_cases hh : (isHexB c && isHexB d) = true
        · rw [if_pos hh] at h
          obtain ⟨e1, e2⟩ := Prod.mk.inj (Option.some.inj h)
          have := cst_three f b
          omega
        · rw [if_neg hh] at h; cases h
theorem valG_cost : ∀ (n : Nat) (l : List UInt8) (f sp : Bool) (v r : List UInt8), l.length = n → valG f sp l = some (v, r) → costV f v + r.length ≤ l.length := by
  intro n
  induction n using Nat.strongRecOn with
  | _ n ih =>
    intro l f sp v r hn h
    cases l with
    | nil =>
      rw [valG] at h
      split at h
      · cases h
      · obtain ⟨rfl, rfl⟩ := Prod.mk.inj (Option.some.inj h)
        exact Nat.le_refl _
    | cons c l =>
      rw [List.length_cons] at hn
      rw [valG] at h
      by_cases h44 : c = 44
      · rw [if_pos h44] at h
        split at h
        · cases h
        · obtain ⟨rfl, rfl⟩ := Prod.mk.inj (Option.some.inj h)
          simp [costV]
      rw [if_neg h44] at h
      by_cases h92 : c = 92
      · rw [if_pos h92] at h
        cases hx : escN l with
        | none => rw [hx] at h; cases h
        | some q =>
          obtain ⟨b, m⟩ := q
          rw [hx] at h
          obtain ⟨⟨v', r'⟩, h1, h2⟩ := Option.map_eq_some_iff.1 h
          obtain ⟨rfl, rfl⟩ := Prod.mk.inj h2
          obtain ⟨e1, e2⟩ := escN_len _ _ _ hx
          have := ih _ (by rw [List.length_drop]; omega) (l.drop m) _ _ _ _ rfl h1
          have hc := escN_cost f _ _ _ hx
          rw [List.length_drop] at this
          simp only [costV, List.length_cons]
          omega
      · rw [if_neg h92] at h
        by_cases hb : badB f c = true
        · rw [if_pos hb] at h; cases h
        · rw [if_neg hb] at h
          obtain ⟨⟨v', r'⟩, h1, h2⟩ := Option.map_eq_some_iff.1 h
          obtain ⟨rfl, rfl⟩ := Prod.mk.inj h2
          have := ih l.length (by omega) l _ _ _ _ rfl h1
          have hc := cst_one f c (Bool.eq_false_iff.2 hb)
          simp only [costV, List.length_cons]
          omega
theorem escF_cost : ∀ (v : List UInt8) (f : Bool), v.getLast? ≠ some 32 → (escF f v).length = costV f v
  | [], f, _ => rfl
  | c :: r, f, h => by
    have hr : (decide (r = []) && decide (c = 32)) = false := by
      by_cases e : r = []
      · subst e
        rw [decide_eq_false (show ¬ c = 32 from fun e => h (by rw [e]; rfl)), Bool.and_false]
      · rw [decide_eq_false e, Bool.false_and]
    have h' : r.getLast? ≠ some 32 := by
      cases r with
      | nil => simp
      | cons d r => rw [List.getLast?_cons_cons] at h; exact h
    unfold escF costV cst
    rw [hr, Bool.or_false, List.length_append, escF_cost r false h']
    congr 1
    split
    · rfl
    · split <;> rfl
theorem cost_low (f : Bool) : ∀ v : List UInt8, costV f (v.map lowB) = costV f v := by
  intro v
  induction v generalizing f with
  | nil => rfl
  | cons c r ih => simp only [List.map_cons, costV]; rw [cst_low, ih]
theorem cost_sq0 : ∀ (v : List UInt8) (b : Bool), costV false (sqR b v) ≤ costV false v
  | [], b => Nat.le_refl _
  | c :: r, b => by
    rw [sqR]
    by_cases h : c = 32 ∧ b = true
    · rw [if_pos h]
      have := cost_sq0 r true
      simp only [costV]; omega
    · rw [if_neg h]
      have := cost_sq0 r (decide (c = 32))
      simp only [costV]; omega
theorem cost_sq (v : List UInt8) : costV true (sqR false v) ≤ costV true v := by
  cases v with
  | nil => exact Nat.le_refl _
  | cons c r =>
    rw [sqR, if_neg (fun x => Bool.false_ne_true x.2)]
    have := cost_sq0 r (decide (c = 32))
    simp only [costV]; omega
theorem cost_app (f : Bool) : ∀ a b : List UInt8, costV f a ≤ costV f (a ++ b) := by
  intro a
  induction a generalizing f with
  | nil => intro b; exact Nat.zero_le _
  | cons c r ih =>
    intro b
    have := ih false b
    simp only [List.cons_append, costV]; omega
theorem cost_drop1 : ∀ r : List UInt8, costV true (r.dropWhile (· == 32)) ≤ costV false r + 1
  | [] => Nat.zero_le _
  | c :: r => by
    rw [List.dropWhile_cons]
    split
    · have := cost_drop1 r
      have := cst_pos false c
      simp only [costV]; omega
    · have := cst_first c
      simp only [costV]; omega
theorem cost_drop (l : List UInt8) : costV true (l.dropWhile (· == 32)) ≤ costV true l := by
  cases l with
  | nil => exact Nat.le_refl _
  | cons c r =>
    rw [List.dropWhile_cons]
    split
    · rename_i h
      have := cost_drop1 r
      have e : cst true c = 2 := by rw [beq_iff_eq.1 h]; decide
      simp only [costV]; omega
    · exact Nat.le_refl _
theorem trimR_app (l : List UInt8) : ∃ b, l = Lib.trimRightB l 32 ++ b := by
  refine ⟨(l.reverse.takeWhile (· == 32)).reverse, ?_⟩
  unfold Lib.trimRightB
  rw [← List.reverse_append, List.takeWhile_append_dropWhile, List.reverse_reverse]
theorem cost_trim (l : List UInt8) : costV true (Lib.trimB l 32) ≤ costV true l := by
  refine Nat.le_trans (cost_drop _) ?_
  obtain ⟨b, hb⟩ := trimR_app l
  conv => rhs; rw [hb]
  exact cost_app true _ _
theorem cost_fold (v : List UInt8) : (escF true (foldL v)).length ≤ costV true v := by
  rw [escF_cost _ _ (fold_ends v).2, foldL_R]
  refine Nat.le_trans (cost_sq _) ?_
  rw [cost_low]
  exact cost_trim v
def lenC (f : Bool) : List PR → Nat
  | [] => 0
  | p :: r => (if f = true then 0 else 1) + (p.1.length + 1 + costV true p.2) + lenC false r
theorem lenC_first {rs : List PR} (h : rs ≠ []) : lenC false rs = 1 + lenC true rs := by
  cases rs with
  | nil => exact absurd rfl h
  | cons p r => simp only [lenC, if_neg Bool.false_ne_true, if_pos]; omega
theorem parseN_cost : ∀ (m : Nat) (l : List UInt8) (rs : List PR), parseN m l = some rs → lenC true rs ≤ l.length
  | 0, l, rs, h => by cases h
  | m + 1, l, rs, h => by
    unfold parseN at h
    cases hc : cutEq l with
    | none => rw [hc] at h; cases h
    | some p =>
      obtain ⟨a, b⟩ := p
      have hlen := congrArg List.length (cutEq_len _ _ _ hc)
      rw [List.length_append, List.length_cons] at hlen
      rw [hc] at h
      simp only at h
      by_cases ht : typedL a = true
      · rw [if_pos ht] at h
        cases hx : valG true false b with
        | none => rw [hx] at h; cases h
        | some q =>
          obtain ⟨v, r⟩ := q
          rw [hx] at h
          have hv := valG_cost _ _ _ _ _ _ rfl hx
          cases r with
          | nil =>
            obtain rfl := Option.some.inj h
            simp only [lenC, if_pos, List.length_nil] at hv ⊢
            omega
          | cons c r =>
            obtain ⟨y, h1, rfl⟩ := Option.map_eq_some_iff.1 h
            have ih := parseN_cost m r y h1
            have e := lenC_first (parseN_ok m r y h1).2.1
            simp only [lenC, if_pos, List.length_cons] at hv ⊢
            omega
      · rw [if_neg ht] at h; cases h
theorem text_norm_len : ∀ (rs : List PR) (f : Bool), (textR f (rs.map normR)).length ≤ lenC f rs
  | [], f => Nat.le_refl _
  | p :: r, f => by
    have ih := text_norm_len r false
    have hc := cost_fold p.2
    rw [List.map_cons]
    unfold textR lenC normR
    simp only [List.length_append, List.length_cons, List.length_nil, List.length_map]
    have : (if f = true then ([] : List UInt8) else [44]).length = if f = true then 0 else 1 := by split <;> rfl
    have e2 : (textR false (r.map fun p => (p.1.map lowB, foldL p.2))).length ≤ lenC false r := ih
    rw [this]
    omega
theorem key_len {l k : List UInt8} (h : keyL l = some k) : k.length ≤ l.length := by
  unfold keyL at h
  obtain ⟨rs, h1, h2⟩ := Option.bind_eq_some_iff.1 h
  unfold keyR at h2
  by_cases ha : rs.all (fun p => !(foldL p.2).isEmpty) = true
  · rw [if_pos ha] at h2
    obtain rfl := Option.some.inj h2
    refine Nat.le_trans (text_norm_len rs true) ?_
    unfold parseL at h1
    by_cases h0 : l = []
    · rw [if_pos h0] at h1
      obtain rfl := Option.some.inj h1
      exact Nat.zero_le _
    · rw [if_neg h0] at h1
      obtain ⟨y, g1, g2⟩ := Option.bind_eq_some_iff.1 h1
      split at g2
      · obtain rfl := Option.some.inj g2
        exact parseN_cost _ _ _ g1
      · cases g2
  · rw [if_neg ha] at h2; cases h2
theorem ltr_low (c : UInt8) : isLtr (lowB c) = isLtr c := byteAll (p := fun c => isLtr (lowB c) = isLtr c) (by decide +kernel) c
theorem name_low (c : UInt8) : inName (lowB c) = inName c := byteAll (p := fun c => inName (lowB c) = inName c) (by decide +kernel) c
theorem typed_low (t : List UInt8) : typedL (t.map lowB) = typedL t := by
  unfold typedL
  rw [List.length_map, List.all_map]
  have e1 : (t.map lowB).isEmpty = t.isEmpty := by cases t <;> rfl
  have e2 : (inName ∘ lowB) = inName := funext name_low
  rw [e1, e2]
  cases t with
  | nil => rfl
  | cons c r => rw [List.map_cons]; simp only [List.getD_cons_zero]; rw [ltr_low]
theorem normR_idem (p : PR) : normR (normR p) = normR p := by
  unfold normR
  simp only
  rw [low_idem, fold_idem]
theorem may_norm {rs : List PR} (h : mayL rs = true) (ha : rs.all (fun p => !(foldL p.2).isEmpty) = true) : mayL (rs.map normR) = true := by
  unfold mayL at h ⊢
  rw [Bool.and_eq_true] at h ⊢
  refine ⟨?_, by rw [List.length_map]; exact h.2⟩
  refine List.all_eq_true.2 fun q hq => ?_
  obtain ⟨p, hp, rfl⟩ := List.mem_map.1 hq
  have h1 := List.all_eq_true.1 h.1 p hp
  have h2 := List.all_eq_true.1 ha p hp
  unfold okR okV at h1 ⊢
  simp only [Bool.and_eq_true, decide_eq_true_eq] at h1 ⊢
  unfold normR
  simp only
  have := foldL_len p.2
  exact ⟨by rw [typed_low]; exact h1.1, h2, by omega⟩
theorem key_idem {l k : List UInt8} (h : keyL l = some k) : keyL k = some k := by
  unfold keyL at h
  obtain ⟨rs, h1, h2⟩ := Option.bind_eq_some_iff.1 h
  unfold keyR at h2
  by_cases ha : rs.all (fun p => !(foldL p.2).isEmpty) = true
  · rw [if_pos ha] at h2
    obtain rfl := Option.some.inj h2
    unfold keyL
    rw [parse_text _ (may_norm (parse_may h1) ha), Option.bind_some]
    unfold keyR
    rw [if_pos]
    · rw [List.map_map]
      congr 2
      exact List.map_congr_left fun p _ => normR_idem p
    · refine List.all_eq_true.2 fun q hq => ?_
      obtain ⟨p, hp, rfl⟩ := List.mem_map.1 hq
      unfold normR
      simp only
      rw [fold_idem]
      exact List.all_eq_true.1 ha p hp
  · rw [if_neg ha] at h2; cases h2
def normL (t v : List UInt8) : Option (List UInt8) := normO (keyL v) t v
theorem norm_all (t v : ByteArray) (ht : t.size ≤ 9223372036854775807) : Ev (fun k => match_Norm.f k t v) (encO (normL t.data.toList v.data.toList)) :=
  norm_ev t v _ ht (fun hv _ => key_ev v (by omega))
theorem normL_small {t v x : List UInt8} (h : normL t v = some x) : x ≠ [] ∧ x.length ≤ 100 := by
  unfold normL normO at h
  split at h
  · cases h
  · rename_i hv
    rw [not_or] at hv
    split at h
    · split at h
      · cases h
      · rename_i hf
        obtain rfl := Option.some.inj h
        have := foldL_len v
        exact ⟨hf, by omega⟩
    · split at h
      · split at h
        · obtain rfl := Option.some.inj h
          exact ⟨hv.1, by omega⟩
        · cases h
      · split at h
        · split at h
          · cases h
          · rename_i hk
            have := key_len h
            refine ⟨fun e => hk (by rw [h, e]), by omega⟩
        · split at h
          · obtain rfl := Option.some.inj h
            exact ⟨hv.1, by omega⟩
          · cases h
theorem norm_idem {t v x : List UInt8} (h : normL t v = some x) : normL t x = some x := by
  have hs := normL_small h
  have hx : ¬ (x = [] ∨ 100 < x.length) := by rw [not_or]; exact ⟨hs.1, by omega⟩
  unfold normL normO at h ⊢
  rw [if_neg hx]
  split at h
  · cases h
  · split at h
    · rename_i r1
      split at h
      · cases h
      · obtain rfl := Option.some.inj h
        rw [if_pos r1, fold_idem, if_neg hs.1]
    · rename_i r1
      rw [if_neg r1]
      split at h
      · rename_i r2
        rw [if_pos r2]
        split at h
        · rename_i hn
          obtain rfl := Option.some.inj h
          rw [if_pos hn]
        · cases h
      · rename_i r2
        rw [if_neg r2]
        split at h
        · rename_i r3
          rw [if_pos r3]
          split at h
          · cases h
          · rw [key_idem h, if_neg (fun e => hs.1 (Option.some.inj e))]
        · rename_i r3
          rw [if_neg r3]
          split at h
          · rename_i r4
            rw [if_pos r4]
          · cases h
end Go.Proofs.YthfpaoacjpjnfaaGreatDoor.P

namespace Go.Proofs.YthfpaoacjpjnfaaGreatDoor.P
open Go.RowKit Go.Proofs.YthfpaoacjpjnfaaGreatDoorW.PrintWords Go.Proofs.YthfpaoacjpjnfaaGreatDoorW.PrintLast Go.Proofs.YthfpaoacjpjnfaaGreatDoorW.PrintMore
set_option linter.unusedVariables false
set_option linter.unusedSimpArgs false
def brookref1_Lower.f (a0 : ByteArray) : Option ByteArray := if a0.size ≤ 9223372036854775807 then some (lowS a0) else none
theorem brookref1_Lower.any (a0 : ByteArray) (w : World) (hs : a0.size ≤ 9223372036854775807) :
    Calls Tryz.prog 31 #[.string a0] w fun e w' => e = .returned (.string (lowS a0)) ∧ Below w.heap.size w w' := by
  have hcv := fun W => Lib.run_convert_string_bytes (P := Tryz.prog) W 9 34 5 a0 (u := .string) Tryz.underlying9 Tryz.underlying34 Tryz.underlying5
  go_enter Tryz.func31, Tryz.ntmps31
  go_wp2
  go_loopw [4] (fun i wr => ∃ k : Nat, k ≤ a0.size ∧ i = .int .i64 k ∧ Aside0 (Below w.heap.size w wr) ∧ Aside0 (BRow wr w.heap.size a0.size (lowTo a0 k))) (fun i _ => a0.size - (intOf i).toNat)
  case atStart => exact ⟨0, Nat.zero_le _, rfl, ⟨Lib.bytesWorld_below _ _ _⟩, ⟨by rw [lowTo_zero]; exact brow_conv w a0⟩⟩
  case round =>
    obtain ⟨k, hk, rfl, HB, HR⟩ := hrel
    by_cases hlt : k < a0.size
    · have hc := HR.out.cell k hlt
      have hz := HR.out.free k hlt
      rw [lowTo_here] at hc
      obtain ⟨c, hcc⟩ : ∃ c : Int, ((a0.data.toList.getD k 0).toNat : Int) = c := ⟨_, rfl⟩
      rw [hcc] at hc
      have hcr : 0 ≤ c ∧ c ≤ 255 := by have := (a0.data.toList.getD k 0).toNat_lt; omega
      have hc0 : 0 ≤ c := hcr.1
      have hc1 : c ≤ 255 := hcr.2
      clear hcr
      have HC := Lib.hid hcc
      clear hcc
      by_cases h1 : 65 ≤ c
      · by_cases h2 : c ≤ 90
        · have HL := Lib.hid (lowI_in h1 h2)
          go_wp2
          refine ⟨⟨k + 1, by omega, by go_num, ⟨?_⟩, ⟨?_⟩⟩, by simp [intOf]; omega⟩
          · exact (HB.out).setCell (Nat.le_refl _) _
          · have := lowTo_set HR.out hlt HC.out
            rw [HL.out] at this
            first
            | exact this
            | (rw [show (c + 32) % 256 = c + 32 from by omega]; exact this)
        · have HL := Lib.hid (lowI_out (c := c) (by omega))
          have d2 : decide (c ≤ 90) = false := by simpa using h2
          go_wp2
          refine ⟨⟨k + 1, by omega, by go_num, HB, ⟨lowTo_skip HR.out HC.out HL.out⟩⟩, by simp [intOf]; omega⟩
      · have HL := Lib.hid (lowI_out (c := c) (by omega))
        have d1 : decide (65 ≤ c) = false := by simpa using h1
        go_wp2
        refine ⟨⟨k + 1, by omega, by go_num, HB, ⟨lowTo_skip HR.out HC.out HL.out⟩⟩, by simp [intOf]; omega⟩
    · have hge : ¬ (k : Int) < (a0.size : Int) := by omega
      have hst := fun cap => brow_string (P := Tryz.prog) HR.out cap 34 5 9 Tryz.underlying34 Tryz.underlying5 Tryz.underlying9
      rw [lowTo_all a0 k hlt] at hst
      go_wp2
      go_ret
      exact ⟨rfl, HB.out⟩
theorem brookref1_Lower.calls (a0 : ByteArray) (r : ByteArray) (w : World) (h : brookref1_Lower.f a0 = some r) :
    Calls Tryz.prog 31 #[.string a0] w fun e w' => e = .returned (.string r) ∧ Below w.heap.size w w' := by
  unfold brookref1_Lower.f at h
  by_cases hs : a0.size ≤ 9223372036854775807
  · rw [if_pos hs] at h
    obtain rfl := Option.some.inj h
    exact brookref1_Lower.any a0 w hs
  · rw [if_neg hs] at h
    cases h
end Go.Proofs.YthfpaoacjpjnfaaGreatDoor.P

namespace Go.Proofs.YthfpaoacjpjnfaaGreatDoor.P
open Go.RowKit Go.Proofs.YthfpaoacjpjnfaaGreatDoorW.PrintWords Go.Proofs.YthfpaoacjpjnfaaGreatDoorW.PrintLast Go.Proofs.YthfpaoacjpjnfaaGreatDoorW.PrintMore
attribute [local go_sem] max2_int min2_int max_two min_two max_three min_three max_four min_four
set_option linter.unusedVariables false
set_option linter.unusedSimpArgs false
def brookref1_Fold.l0 : Nat → ByteArray → ByteArray → Bool → Int → Option (ByteArray)
 | 0, _, _, _, _ => none
 | k + 1, x3, x4, x5, x6 => if x6 < (x3.size : Int) then (if 0 ≤ x6 then (if (bt x3 x6) = 32 then (brookref1_Fold.l0 k x3 x4 (x4.toList != ([] : List UInt8)) (wrap64 (x6 + 1))) else (if x5 = true then (if x4.size + 1 ≤ 9223372036854775807 then (if x6 ≤ (wrap64 (x6 + 1)) then (if (wrap64 (x6 + 1)) ≤ (x3.size : Int) then (if (x4 ++ (⟨#[32]⟩ : ByteArray)).size + (x3.extract (x6 : Int).toNat ((wrap64 (x6 + 1)) : Int).toNat).size ≤ 9223372036854775807 then (brookref1_Fold.l0 k x3 ((x4 ++ (⟨#[32]⟩ : ByteArray)) ++ (x3.extract (x6 : Int).toNat ((wrap64 (x6 + 1)) : Int).toNat)) false (wrap64 (x6 + 1))) else (none)) else (none)) else (none)) else (none)) else (if x6 ≤ (wrap64 (x6 + 1)) then (if (wrap64 (x6 + 1)) ≤ (x3.size : Int) then (if x4.size + (x3.extract (x6 : Int).toNat ((wrap64 (x6 + 1)) : Int).toNat).size ≤ 9223372036854775807 then (brookref1_Fold.l0 k x3 (x4 ++ (x3.extract (x6 : Int).toNat ((wrap64 (x6 + 1)) : Int).toNat)) x5 (wrap64 (x6 + 1))) else (none)) else (none)) else (none)))) else (none)) else (some x4)
def brookref1_Fold.f (k : Nat) (a0 : ByteArray) : Option (ByteArray) := (brookref1_Lower.f a0).bind fun t248 => (brookref1_Fold.l0 k t248 (⟨#[]⟩ : ByteArray) false 0)
set_option maxHeartbeats 8000000 in
set_option maxRecDepth 100000 in
theorem brookref1_Fold.calls (k : Nat) (a0 : ByteArray) (r : ByteArray) (w : World) (h : brookref1_Fold.f k a0 = some r) :
  Calls Tryz.prog 21 #[.string a0] w fun e w' => e = .returned (.string r) ∧ Below w.heap.size w w' := by
 have HB := Aside0.mk (Below.refl w.heap.size w)
 have H : ((brookref1_Lower.f a0).bind fun t248 => (brookref1_Fold.l0 k t248 (⟨#[]⟩ : ByteArray) false 0)) = some r := h
 clear h
 replace H := Option.bind_eq_some_iff.mp H
 obtain ⟨t248, A20, H⟩ := H
 replace H : (brookref1_Fold.l0 k t248 (⟨#[]⟩ : ByteArray) false 0) = some r := H
 have A2 := Aside0.mk A20
 clear A20
 have H' := Aside0.mk H
 clear H
 go_enter Tryz.func21, Tryz.ntmps21
 go_wp2_with (first | ((with_reducible refine gate_callee (f := 31) rfl ?_); refine goesL_ (some 8) rfl rfl Tryz.func31 (by kernel_rfl) rfl #[.string a0] rfl (by (try simp only [List.map_toArray, List.map_cons, List.map_nil]); first | done | rfl | (simp only [List.length_drop, List.length_take]; rfl)) ?_; (with_reducible refine (brookref1_Lower.calls a0 t248 _ A2.out).mono ?_); rintro e w3 ⟨rfl, hb⟩; refine ⟨_, rfl, ?_⟩; have n0_ := Aside0.mk (below_step (by repeat (first | (with_reducible first | exact HB.out | apply below_alloc | apply pw_below_drewN | apply below_drew1) | exact HB.out)) hb); clear HB; have HB := n0_; clear n0_; (try clear hb); (try clear hb2); (try clear hk); (try clear hi)))
 go_loopg [4, 5, 6] k (fun kq v4 v5 v6 w' => ∃ (x4_1 : ByteArray) (x5_1 : Bool) (x6_1 : Int), v4 = .string x4_1 ∧ v5 = .bool x5_1 ∧ v6 = .int .i64 x6_1 ∧ Aside0 (brookref1_Fold.l0 kq t248 x4_1 x5_1 x6_1 = some r) ∧ Aside0 (kq ≤ k) ∧ Aside0 (Below w.heap.size w w'))
 case atStart => exact ⟨((⟨#[]⟩ : ByteArray)), (false), (0), (by first | rfl | (simp; done) | (simp [*]; done) | (simp [*, i64_w, i32_w, u8_w]; done) | (simp only [bneNil, beqNil]; done) | (simp only [bneNil, beqNil]; simp; done) | (simp only [bneNil, beqNil]; simp [*]; done)), (by first | rfl | (simp; done) | (simp [*]; done) | (simp [*, i64_w, i32_w, u8_w]; done) | (simp only [bneNil, beqNil]; done) | (simp only [bneNil, beqNil]; simp; done) | (simp only [bneNil, beqNil]; simp [*]; done)), (by first | rfl | (simp; done) | (simp [*]; done) | (simp [*, i64_w, i32_w, u8_w]; done) | (simp only [bneNil, beqNil]; done) | (simp only [bneNil, beqNil]; simp; done) | (simp only [bneNil, beqNil]; simp [*]; done)), H', ⟨Nat.le_refl _⟩, ⟨by repeat (first | (with_reducible first | exact HB.out | apply below_alloc | apply pw_below_drewN | apply below_drew1) | exact HB.out)⟩⟩
 case round =>
  clear H'
  try clear c2
  try clear p2
  try clear c3
  obtain ⟨x4_1, x5_1, x6_1, rfl, rfl, rfl, HA, HK1, HB⟩ := hrel
  cases gk with
  | zero => exact absurd HA.out (by simp [brookref1_Fold.l0])
  | succ k1 =>
   have H := HA.out
   clear HA
   simp only [brookref1_Fold.l0] at H
   by_cases c4 : x6_1 < (t248.size : Int)
   ·rw [if_pos c4] at H
    have c4b0 : decide (x6_1 < (t248.size : Int)) = true := decide_eq_true c4
    clear c4
    by_cases c5 : 0 ≤ x6_1
    ·rw [if_pos c5] at H
     have c5b0 : decide (0 ≤ x6_1) = true := decide_eq_true c5
     clear c5
     by_cases c7 : (bt t248 x6_1) = 32
     ·rw [if_pos c7] at H
      have c7b0 : ((bt t248 x6_1) == 32) = true := beq_iff_eq.mpr c7
      have c7b1 : ((bt t248 x6_1) != 32) = false := bne_eq_false_iff_eq.mpr c7
      clear c7
      have H' := Aside0.mk H
      clear H
      have p6 : 0 ≤ (x6_1 : Int) := of_decide_eq_true (by first | (with_reducible assumption) | assumption)
      have q6 : x6_1 < (t248.size : Int) := of_decide_eq_true (by first | (with_reducible assumption) | assumption)
      have hx6 := bt_at t248 x6_1
      replace p6 := eq_true p6
      replace q6 := eq_true q6
      go_wp2
      go_roundg k1
      case measure => have := HK1.out; omega
      case rel => exact ⟨(x4_1), ((x4_1.toList != ([] : List UInt8))), (wrap64 (x6_1 + 1)), (by first | rfl | (simp; done) | (simp [*]; done) | (simp [*, i64_w, i32_w, u8_w]; done) | (simp only [bneNil, beqNil]; done) | (simp only [bneNil, beqNil]; simp; done) | (simp only [bneNil, beqNil]; simp [*]; done)), (by first | rfl | (simp; done) | (simp [*]; done) | (simp [*, i64_w, i32_w, u8_w]; done) | (simp only [bneNil, beqNil]; done) | (simp only [bneNil, beqNil]; simp; done) | (simp only [bneNil, beqNil]; simp [*]; done)), (by first | rfl | (simp; done) | (simp [*]; done) | (simp [*, i64_w, i32_w, u8_w]; done) | (simp only [bneNil, beqNil]; done) | (simp only [bneNil, beqNil]; simp; done) | (simp only [bneNil, beqNil]; simp [*]; done)), H', ⟨by have := HK1.out; omega⟩, ⟨by repeat (first | (with_reducible first | exact HB.out | apply below_alloc | apply pw_below_drewN | apply below_drew1) | exact HB.out)⟩⟩
     ·rw [if_neg c7] at H
      have c7b0 : ((bt t248 x6_1) == 32) = false := beq_eq_false_iff_ne.mpr c7
      have c7b1 : ((bt t248 x6_1) != 32) = true := bne_iff_ne.mpr c7
      by_cases c8 : x5_1 = true
      ·subst c8
       have H1 : (if x4_1.size + 1 ≤ 9223372036854775807 then (if x6_1 ≤ (wrap64 (x6_1 + 1)) then (if (wrap64 (x6_1 + 1)) ≤ (t248.size : Int) then (if (x4_1 ++ (⟨#[32]⟩ : ByteArray)).size + (t248.extract (x6_1 : Int).toNat ((wrap64 (x6_1 + 1)) : Int).toNat).size ≤ 9223372036854775807 then (brookref1_Fold.l0 k1 t248 ((x4_1 ++ (⟨#[32]⟩ : ByteArray)) ++ (t248.extract (x6_1 : Int).toNat ((wrap64 (x6_1 + 1)) : Int).toNat)) false (wrap64 (x6_1 + 1))) else (none)) else (none)) else (none)) else (none)) = some r := by rw [if_pos rfl] at H; exact H
       clear H
       have H := H1
       clear H1
       by_cases c9 : x4_1.size + 1 ≤ 9223372036854775807
       ·rw [if_pos c9] at H
        have c9b0 := eq_true c9
        have c9b1 : decide (x4_1.size + 1 ≤ 9223372036854775807) = true := decide_eq_true c9
        try have c9b2 : (9223372036854775807 < x4_1.size + 1) = False := eq_false (Nat.not_lt.2 c9)
        have c10b0 := eq_true (of_decide_eq_true (by first | (with_reducible assumption) | assumption) : 0 ≤ x6_1)
        by_cases c11 : x6_1 ≤ (wrap64 (x6_1 + 1))
        ·rw [if_pos c11] at H
         have c11b0 := eq_true c11
         have c11b1 : decide (x6_1 ≤ (wrap64 (x6_1 + 1))) = true := decide_eq_true c11
         by_cases c12 : (wrap64 (x6_1 + 1)) ≤ (t248.size : Int)
         ·rw [if_pos c12] at H
          have c12b0 := eq_true c12
          have c12b1 : decide ((wrap64 (x6_1 + 1)) ≤ (t248.size : Int)) = true := decide_eq_true c12
          by_cases c13 : (x4_1 ++ (⟨#[32]⟩ : ByteArray)).size + (t248.extract (x6_1 : Int).toNat ((wrap64 (x6_1 + 1)) : Int).toNat).size ≤ 9223372036854775807
          ·rw [if_pos c13] at H
           have c13b0 := eq_true c13
           have c13b1 : decide ((x4_1 ++ (⟨#[32]⟩ : ByteArray)).size + (t248.extract (x6_1 : Int).toNat ((wrap64 (x6_1 + 1)) : Int).toNat).size ≤ 9223372036854775807) = true := decide_eq_true c13
           try have c13b2 : (9223372036854775807 < (x4_1 ++ (⟨#[32]⟩ : ByteArray)).size + (t248.extract (x6_1 : Int).toNat ((wrap64 (x6_1 + 1)) : Int).toNat).size) = False := eq_false (Nat.not_lt.2 c13)
           try (have c13b3 := c13b2; simp only [ByteArray.size_append, show ∀ a : UInt8, (⟨#[a]⟩ : ByteArray).size = 1 from fun _ => rfl, show ∀ a b : UInt8, (⟨#[a, b]⟩ : ByteArray).size = 2 from fun _ _ => rfl] at c13b3)
           have H' := Aside0.mk H
           clear H
           have p6 : 0 ≤ (x6_1 : Int) := of_decide_eq_true (by first | (with_reducible assumption) | assumption)
           have q6 : x6_1 < (t248.size : Int) := of_decide_eq_true (by first | (with_reducible assumption) | assumption)
           have hx6 := bt_at t248 x6_1
           replace p6 := eq_true p6
           replace q6 := eq_true q6
           go_wp2
           go_roundg k1
           case measure => have := HK1.out; omega
           case rel => exact ⟨((x4_1 ++ (⟨#[32]⟩ : ByteArray)) ++ (t248.extract (x6_1 : Int).toNat ((wrap64 (x6_1 + 1)) : Int).toNat)), (false), (wrap64 (x6_1 + 1)), (by first | rfl | (simp; done) | (simp [*]; done) | (simp [*, i64_w, i32_w, u8_w]; done) | (simp only [bneNil, beqNil]; done) | (simp only [bneNil, beqNil]; simp; done) | (simp only [bneNil, beqNil]; simp [*]; done)), (by first | rfl | (simp; done) | (simp [*]; done) | (simp [*, i64_w, i32_w, u8_w]; done) | (simp only [bneNil, beqNil]; done) | (simp only [bneNil, beqNil]; simp; done) | (simp only [bneNil, beqNil]; simp [*]; done)), (by first | rfl | (simp; done) | (simp [*]; done) | (simp [*, i64_w, i32_w, u8_w]; done) | (simp only [bneNil, beqNil]; done) | (simp only [bneNil, beqNil]; simp; done) | (simp only [bneNil, beqNil]; simp [*]; done)), H', ⟨by have := HK1.out; omega⟩, ⟨by repeat (first | (with_reducible first | exact HB.out | apply below_alloc | apply pw_below_drewN | apply below_drew1) | exact HB.out)⟩⟩
          ·rw [if_neg c13] at H
           exact absurd H (by simp)
         ·rw [if_neg c12] at H
          exact absurd H (by simp)
        ·rw [if_neg c11] at H
         exact absurd H (by simp)
       ·rw [if_neg c9] at H
        exact absurd H (by simp)
      ·replace c8 := Bool.eq_false_iff.mpr c8
       subst c8
       have H1 : (if x6_1 ≤ (wrap64 (x6_1 + 1)) then (if (wrap64 (x6_1 + 1)) ≤ (t248.size : Int) then (if x4_1.size + (t248.extract (x6_1 : Int).toNat ((wrap64 (x6_1 + 1)) : Int).toNat).size ≤ 9223372036854775807 then (brookref1_Fold.l0 k1 t248 (x4_1 ++ (t248.extract (x6_1 : Int).toNat ((wrap64 (x6_1 + 1)) : Int).toNat)) false (wrap64 (x6_1 + 1))) else (none)) else (none)) else (none)) = some r := by rw [if_neg (show ¬ (false = true) by decide)] at H; exact H
       clear H
       have H := H1
       clear H1
       have c14b0 := eq_true (of_decide_eq_true (by first | (with_reducible assumption) | assumption) : 0 ≤ x6_1)
       by_cases c15 : x6_1 ≤ (wrap64 (x6_1 + 1))
       ·rw [if_pos c15] at H
        have c15b0 := eq_true c15
        have c15b1 : decide (x6_1 ≤ (wrap64 (x6_1 + 1))) = true := decide_eq_true c15
        by_cases c16 : (wrap64 (x6_1 + 1)) ≤ (t248.size : Int)
        ·rw [if_pos c16] at H
         have c16b0 := eq_true c16
         have c16b1 : decide ((wrap64 (x6_1 + 1)) ≤ (t248.size : Int)) = true := decide_eq_true c16
         by_cases c17 : x4_1.size + (t248.extract (x6_1 : Int).toNat ((wrap64 (x6_1 + 1)) : Int).toNat).size ≤ 9223372036854775807
         ·rw [if_pos c17] at H
          have c17b0 := eq_true c17
          have c17b1 : decide (x4_1.size + (t248.extract (x6_1 : Int).toNat ((wrap64 (x6_1 + 1)) : Int).toNat).size ≤ 9223372036854775807) = true := decide_eq_true c17
          try have c17b2 : (9223372036854775807 < x4_1.size + (t248.extract (x6_1 : Int).toNat ((wrap64 (x6_1 + 1)) : Int).toNat).size) = False := eq_false (Nat.not_lt.2 c17)
          have H' := Aside0.mk H
          clear H
          have p6 : 0 ≤ (x6_1 : Int) := of_decide_eq_true (by first | (with_reducible assumption) | assumption)
          have q6 : x6_1 < (t248.size : Int) := of_decide_eq_true (by first | (with_reducible assumption) | assumption)
          have hx6 := bt_at t248 x6_1
          replace p6 := eq_true p6
          replace q6 := eq_true q6
          go_wp2
          go_roundg k1
          case measure => have := HK1.out; omega
          case rel => exact ⟨(x4_1 ++ (t248.extract (x6_1 : Int).toNat ((wrap64 (x6_1 + 1)) : Int).toNat)), (false), (wrap64 (x6_1 + 1)), (by first | rfl | (simp; done) | (simp [*]; done) | (simp [*, i64_w, i32_w, u8_w]; done) | (simp only [bneNil, beqNil]; done) | (simp only [bneNil, beqNil]; simp; done) | (simp only [bneNil, beqNil]; simp [*]; done)), (by first | rfl | (simp; done) | (simp [*]; done) | (simp [*, i64_w, i32_w, u8_w]; done) | (simp only [bneNil, beqNil]; done) | (simp only [bneNil, beqNil]; simp; done) | (simp only [bneNil, beqNil]; simp [*]; done)), (by first | rfl | (simp; done) | (simp [*]; done) | (simp [*, i64_w, i32_w, u8_w]; done) | (simp only [bneNil, beqNil]; done) | (simp only [bneNil, beqNil]; simp; done) | (simp only [bneNil, beqNil]; simp [*]; done)), H', ⟨by have := HK1.out; omega⟩, ⟨by repeat (first | (with_reducible first | exact HB.out | apply below_alloc | apply pw_below_drewN | apply below_drew1) | exact HB.out)⟩⟩
         ·rw [if_neg c17] at H
          exact absurd H (by simp)
        ·rw [if_neg c16] at H
         exact absurd H (by simp)
       ·rw [if_neg c15] at H
        exact absurd H (by simp)
    ·rw [if_neg c5] at H
     exact absurd H (by simp)
   ·rw [if_neg c4] at H
    have c4b0 : decide (x6_1 < (t248.size : Int)) = false := decide_eq_false c4
    clear c4
    obtain rfl := Option.some.inj H
    go_wp2
    go_ret
    exact ⟨by first | rfl | (simp [errW_none, errW_some] <;> rfl) | (simp [*, errW_none, errW_some] <;> rfl), by repeat (first | (with_reducible first | exact HB.out | apply below_alloc | apply pw_below_drewN | apply below_drew1) | exact HB.out)⟩
end Go.Proofs.YthfpaoacjpjnfaaGreatDoor.P

namespace Go.Proofs.YthfpaoacjpjnfaaGreatDoor.P
open Go.RowKit Go.Proofs.YthfpaoacjpjnfaaGreatDoorW.PrintWords Go.Proofs.YthfpaoacjpjnfaaGreatDoorW.PrintLast Go.Proofs.YthfpaoacjpjnfaaGreatDoorW.PrintMore
attribute [local go_sem] max2_int min2_int max_two min_two max_three min_three max_four min_four
set_option linter.unusedVariables false
set_option linter.unusedSimpArgs false
end Go.Proofs.YthfpaoacjpjnfaaGreatDoor.P

namespace Go.Proofs.YthfpaoacjpjnfaaGreatDoor.P
open Go.RowKit Go.Proofs.YthfpaoacjpjnfaaGreatDoorW.PrintWords Go.Proofs.YthfpaoacjpjnfaaGreatDoorW.PrintLast Go.Proofs.YthfpaoacjpjnfaaGreatDoorW.PrintMore
set_option linter.unusedVariables false
set_option linter.unusedSimpArgs false
end Go.Proofs.YthfpaoacjpjnfaaGreatDoor.P

namespace Go.Proofs.YthfpaoacjpjnfaaGreatDoor.P
open Go.RowKit Go.Proofs.YthfpaoacjpjnfaaGreatDoorW.PrintWords Go.Proofs.YthfpaoacjpjnfaaGreatDoorW.PrintLast Go.Proofs.YthfpaoacjpjnfaaGreatDoorW.PrintMore
attribute [local go_sem] max2_int min2_int max_two min_two max_three min_three max_four min_four
set_option linter.unusedVariables false
set_option linter.unusedSimpArgs false
end Go.Proofs.YthfpaoacjpjnfaaGreatDoor.P

namespace Go.Proofs.YthfpaoacjpjnfaaGreatDoor.P
open Go.RowKit Go.Proofs.YthfpaoacjpjnfaaGreatDoorW.PrintWords Go.Proofs.YthfpaoacjpjnfaaGreatDoorW.PrintLast Go.Proofs.YthfpaoacjpjnfaaGreatDoorW.PrintMore
attribute [local go_sem] max2_int min2_int max_two min_two max_three min_three max_four min_four
set_option linter.unusedVariables false
set_option linter.unusedSimpArgs false
end Go.Proofs.YthfpaoacjpjnfaaGreatDoor.P

namespace Go.Proofs.YthfpaoacjpjnfaaGreatDoor.P
open Go.RowKit Go.Proofs.YthfpaoacjpjnfaaGreatDoorW.PrintWords Go.Proofs.YthfpaoacjpjnfaaGreatDoorW.PrintLast Go.Proofs.YthfpaoacjpjnfaaGreatDoorW.PrintMore
attribute [local go_sem] max2_int min2_int max_two min_two max_three min_three max_four min_four
set_option linter.unusedVariables false
set_option linter.unusedSimpArgs false
end Go.Proofs.YthfpaoacjpjnfaaGreatDoor.P

namespace Go.Proofs.YthfpaoacjpjnfaaGreatDoor.P
open Go.RowKit Go.Proofs.YthfpaoacjpjnfaaGreatDoorW.PrintWords Go.Proofs.YthfpaoacjpjnfaaGreatDoorW.PrintLast Go.Proofs.YthfpaoacjpjnfaaGreatDoorW.PrintMore
attribute [local go_sem] max2_int min2_int max_two min_two max_three min_three max_four min_four
set_option linter.unusedVariables false
set_option linter.unusedSimpArgs false
end Go.Proofs.YthfpaoacjpjnfaaGreatDoor.P

namespace Go.Proofs.YthfpaoacjpjnfaaGreatDoor.P
open Go.RowKit Go.Proofs.YthfpaoacjpjnfaaGreatDoorW.PrintWords Go.Proofs.YthfpaoacjpjnfaaGreatDoorW.PrintLast Go.Proofs.YthfpaoacjpjnfaaGreatDoorW.PrintMore
attribute [local go_sem] max2_int min2_int max_two min_two max_three min_three max_four min_four
set_option linter.unusedVariables false
set_option linter.unusedSimpArgs false
end Go.Proofs.YthfpaoacjpjnfaaGreatDoor.P

namespace Go.Proofs.YthfpaoacjpjnfaaGreatDoor.P
open Go.RowKit Go.Proofs.YthfpaoacjpjnfaaGreatDoorW.PrintWords Go.Proofs.YthfpaoacjpjnfaaGreatDoorW.PrintLast Go.Proofs.YthfpaoacjpjnfaaGreatDoorW.PrintMore
attribute [local go_sem] max2_int min2_int max_two min_two max_three min_three max_four min_four
set_option linter.unusedVariables false
set_option linter.unusedSimpArgs false
end Go.Proofs.YthfpaoacjpjnfaaGreatDoor.P

namespace Go.Proofs.YthfpaoacjpjnfaaGreatDoor.P
open Go.RowKit Go.Proofs.YthfpaoacjpjnfaaGreatDoorW.PrintWords Go.Proofs.YthfpaoacjpjnfaaGreatDoorW.PrintLast Go.Proofs.YthfpaoacjpjnfaaGreatDoorW.PrintMore
attribute [local go_sem] max2_int min2_int max_two min_two max_three min_three max_four min_four
set_option linter.unusedVariables false
set_option linter.unusedSimpArgs false
end Go.Proofs.YthfpaoacjpjnfaaGreatDoor.P

namespace Go.Proofs.YthfpaoacjpjnfaaGreatDoor.P
open Go.RowKit Go.Proofs.YthfpaoacjpjnfaaGreatDoorW.PrintWords Go.Proofs.YthfpaoacjpjnfaaGreatDoorW.PrintLast Go.Proofs.YthfpaoacjpjnfaaGreatDoorW.PrintMore
attribute [local go_sem] max2_int min2_int max_two min_two max_three min_three max_four min_four
set_option linter.unusedVariables false
set_option linter.unusedSimpArgs false
end Go.Proofs.YthfpaoacjpjnfaaGreatDoor.P

namespace Go.Proofs.YthfpaoacjpjnfaaGreatDoor.P
open Go.RowKit Go.Proofs.YthfpaoacjpjnfaaGreatDoorW.PrintWords Go.Proofs.YthfpaoacjpjnfaaGreatDoorW.PrintLast Go.Proofs.YthfpaoacjpjnfaaGreatDoorW.PrintMore
attribute [local go_sem] max2_int min2_int max_two min_two max_three min_three max_four min_four
set_option linter.unusedVariables false
set_option linter.unusedSimpArgs false
end Go.Proofs.YthfpaoacjpjnfaaGreatDoor.P


namespace Go.Proofs.YthfpaoacjpjnfaaGreatDoor.P
open Go.RowKit Go.Proofs.YthfpaoacjpjnfaaGreatDoorW.PrintWords Go.Proofs.YthfpaoacjpjnfaaGreatDoorW.PrintLast Go.Proofs.YthfpaoacjpjnfaaGreatDoorW.PrintMore
set_option linter.unusedVariables false
set_option linter.unusedSimpArgs false
end Go.Proofs.YthfpaoacjpjnfaaGreatDoor.P

namespace Go.Proofs.YthfpaoacjpjnfaaGreatDoor.P
open Go.RowKit Go.Proofs.YthfpaoacjpjnfaaGreatDoorW.PrintWords Go.Proofs.YthfpaoacjpjnfaaGreatDoorW.PrintLast Go.Proofs.YthfpaoacjpjnfaaGreatDoorW.PrintMore
attribute [local go_sem] max2_int min2_int max_two min_two max_three min_three max_four min_four
set_option linter.unusedVariables false
set_option linter.unusedSimpArgs false
end Go.Proofs.YthfpaoacjpjnfaaGreatDoor.P

namespace Go.Proofs.YthfpaoacjpjnfaaGreatDoor.P
open Go.RowKit Go.Proofs.YthfpaoacjpjnfaaGreatDoorW.PrintWords Go.Proofs.YthfpaoacjpjnfaaGreatDoorW.PrintLast Go.Proofs.YthfpaoacjpjnfaaGreatDoorW.PrintMore
attribute [local go_sem] max2_int min2_int max_two min_two max_three min_three max_four min_four
set_option linter.unusedVariables false
set_option linter.unusedSimpArgs false
end Go.Proofs.YthfpaoacjpjnfaaGreatDoor.P

namespace Go.Proofs.YthfpaoacjpjnfaaGreatDoor.P
open Go.RowKit Go.Proofs.YthfpaoacjpjnfaaGreatDoorW.PrintWords Go.Proofs.YthfpaoacjpjnfaaGreatDoorW.PrintLast Go.Proofs.YthfpaoacjpjnfaaGreatDoorW.PrintMore
attribute [local go_sem] max2_int min2_int max_two min_two max_three min_three max_four min_four
set_option linter.unusedVariables false
set_option linter.unusedSimpArgs false
end Go.Proofs.YthfpaoacjpjnfaaGreatDoor.P

namespace Go.Proofs.YthfpaoacjpjnfaaGreatDoor.P
open Go.RowKit Go.Proofs.YthfpaoacjpjnfaaGreatDoorW.PrintWords Go.Proofs.YthfpaoacjpjnfaaGreatDoorW.PrintLast Go.Proofs.YthfpaoacjpjnfaaGreatDoorW.PrintMore
attribute [local go_sem] max2_int min2_int max_two min_two max_three min_three max_four min_four
set_option linter.unusedVariables false
set_option linter.unusedSimpArgs false
attribute [local go_sem high] fld82_1
end Go.Proofs.YthfpaoacjpjnfaaGreatDoor.P

namespace Go.Proofs.YthfpaoacjpjnfaaGreatDoor.P
open Go.RowKit Go.Proofs.YthfpaoacjpjnfaaGreatDoorW.PrintWords Go.Proofs.YthfpaoacjpjnfaaGreatDoorW.PrintLast Go.Proofs.YthfpaoacjpjnfaaGreatDoorW.PrintMore
attribute [local go_sem] max2_int min2_int max_two min_two max_three min_three max_four min_four
set_option linter.unusedVariables false
set_option linter.unusedSimpArgs false
end Go.Proofs.YthfpaoacjpjnfaaGreatDoor.P

namespace Go.Proofs.YthfpaoacjpjnfaaGreatDoor.P
open Go.RowKit Go.Proofs.YthfpaoacjpjnfaaGreatDoorW.PrintWords Go.Proofs.YthfpaoacjpjnfaaGreatDoorW.PrintLast Go.Proofs.YthfpaoacjpjnfaaGreatDoorW.PrintMore
attribute [local go_sem] max2_int min2_int max_two min_two max_three min_three max_four min_four
set_option linter.unusedVariables false
set_option linter.unusedSimpArgs false
attribute [local go_sem high] fld82_0
end Go.Proofs.YthfpaoacjpjnfaaGreatDoor.P


namespace Go.Proofs.YthfpaoacjpjnfaaGreatDoor.P
open Go.RowKit Go.Proofs.YthfpaoacjpjnfaaGreatDoorW.PrintWords Go.Proofs.YthfpaoacjpjnfaaGreatDoorW.PrintLast Go.Proofs.YthfpaoacjpjnfaaGreatDoorW.PrintMore
set_option linter.unusedVariables false
set_option linter.unusedSimpArgs false
theorem ref_lower (s : ByteArray) (h : s.size ≤ 9223372036854775807) : brookref1_Lower.f s = some (lowS s) := by unfold brookref1_Lower.f; rw [if_pos h]
theorem extract_one (s : ByteArray) (i : Nat) (h : i < s.size) : s.extract i (i + 1) = mk [s.data.toList.getD i 0] := by
  apply ba_ext
  have hlen : s.data.toList.length = s.size := (size_len s).symm
  rw [extract_data, mk_data, drop_cons s.data.toList i (by omega)]
  rw [show i + 1 - i = 1 by omega]; rfl
theorem mk_app (a b : List UInt8) : mk a ++ mk b = mk (a ++ b) := by apply ba_ext; rw [append_data, mk_data, mk_data, mk_data]
def foldG (acc : List UInt8) (gap : Bool) : List UInt8 → List UInt8
  | [] => acc
  | c :: r => if c = 32 then foldG acc (decide (acc ≠ [])) r else foldG (acc ++ (if gap = true then [32] else []) ++ [c]) false r
theorem fold_loop (s : ByteArray) (hs : s.size ≤ 1073741824) : ∀ (n i : Nat) (acc : List UInt8) (gap : Bool), s.size - i = n → i ≤ s.size → acc.length ≤ 2 * i →
    Ev (fun k => brookref1_Fold.l0 k s (mk acc) gap (i : Int)) (mk (foldG acc gap (s.data.toList.drop i))) := by
  intro n
  have hlen : s.data.toList.length = s.size := (size_len s).symm
  induction n with
  | zero =>
    intro i acc gap hn hi ha
    refine Ev.step (fun k => by rw [brookref1_Fold.l0]) (Ev.ifn (by omega) ?_)
    rw [List.drop_eq_nil_of_le (by omega)]
    exact Ev.now _
  | succ n ih =>
    intro i acc gap hn hi ha
    have hd := drop_cons s.data.toList i (by omega)
    generalize hc : s.data.toList.getD i 0 = c at hd
    have hb : bt s (i : Int) = (c.toNat : Int) := by rw [bt_nat, hc]
    have w1 : wrap64 ((i : Int) + 1) = (i : Int) + 1 := wrap_small _ (by omega) (by omega)
    have hx : s.extract (i : Int).toNat (wrap64 ((i : Int) + 1)).toNat = mk [c] := by
      rw [w1, Int.toNat_natCast, show ((i : Int) + 1).toNat = i + 1 by omega, extract_one s i (by omega), hc]
    refine Ev.step (fun k => by rw [brookref1_Fold.l0]) (Ev.ifp (by omega) (Ev.ifp (by omega) ?_))
    rw [hd, foldG, hb]
    by_cases h32 : c = 32
    · rw [if_pos h32]
      refine Ev.ifp ((u8i c 32).2 h32) ?_
      have e : ((mk acc).toList != []) = decide (acc ≠ []) := by rw [bne_nil]; by_cases h : acc = [] <;> simp [h]
      rw [e, w1, show (i : Int) + 1 = ((i + 1 : Nat) : Int) by omega]
      exact ih (i + 1) acc _ (by omega) (by omega) (by omega)
    · rw [if_neg h32]
      refine Ev.ifn (fun e => h32 ((u8i c 32).1 e)) ?_
      rw [hx, show (⟨#[32]⟩ : ByteArray) = mk [32] from rfl, mk_app, mk_app, mk_app]
      cases gap with
      | true =>
        refine Ev.ifp rfl (Ev.ifp (by rw [mk_size]; omega) (Ev.ifp (by rw [w1]; omega) (Ev.ifp (by rw [w1]; omega) (Ev.ifp (by rw [mk_size, mk_size]; simp only [List.length_append, List.length_cons, List.length_nil]; omega) ?_))))
        rw [w1, show (i : Int) + 1 = ((i + 1 : Nat) : Int) by omega]
        exact ih (i + 1) (acc ++ [32] ++ [c]) false (by omega) (by omega) (by simp only [List.length_append, List.length_cons, List.length_nil]; omega)
      | false =>
        refine Ev.ifn Bool.false_ne_true (Ev.ifp (by rw [w1]; omega) (Ev.ifp (by rw [w1]; omega) (Ev.ifp (by rw [mk_size, mk_size]; simp only [List.length_cons, List.length_nil]; omega) ?_)))
        rw [w1, show (i : Int) + 1 = ((i + 1 : Nat) : Int) by omega, if_neg Bool.false_ne_true, List.append_nil]
        exact ih (i + 1) (acc ++ [c]) false (by omega) (by omega) (by simp only [List.length_append, List.length_cons, List.length_nil]; omega)
def trR : List UInt8 → List UInt8
  | [] => []
  | c :: r => if c = 32 ∧ trR r = [] then [] else c :: trR r
theorem trR_eq : ∀ l : List UInt8, Lib.trimRightB l 32 = trR l
  | [] => rfl
  | c :: r => by
    have ih := trR_eq r
    unfold Lib.trimRightB at ih ⊢
    rw [List.reverse_cons, List.dropWhile_append, trR]
    rw [← ih]
    by_cases h : (r.reverse.dropWhile (· == 32)) = []
    · have e1 : (r.reverse.dropWhile (· == 32)).isEmpty = true := by rw [h]; rfl
      rw [if_pos e1, h]
      by_cases hc : c = 32
      · rw [if_pos ⟨hc, rfl⟩, hc]; rfl
      · rw [if_neg (fun x => hc x.1)]
        have : ([c].dropWhile (· == 32)) = [c] := by rw [List.dropWhile_cons, if_neg (by rw [beq_iff_eq]; exact hc)]
        rw [this]; rfl
    · have e1 : ¬ (r.reverse.dropWhile (· == 32)).isEmpty = true := by rw [List.isEmpty_iff]; exact h
      rw [if_neg e1, List.reverse_append, if_neg (fun x => h (List.reverse_eq_nil_iff.1 x.2))]; rfl
theorem foldG_acc : ∀ (r acc : List UInt8) (gap : Bool), acc ≠ [] → foldG acc gap r = acc ++ (if trR r = [] then [] else (if gap = true then [32] else []) ++ sqR gap (trR r))
  | [], acc, gap, h => by simp [foldG, trR]
  | c :: r, acc, gap, h => by
    by_cases hc : c = 32
    · rw [foldG, if_pos hc, decide_eq_true h, foldG_acc r acc true h]
      by_cases ht : trR r = []
      · have e : trR (c :: r) = [] := by rw [trR, if_pos ⟨hc, ht⟩]
        rw [if_pos ht, e, if_pos rfl]
      · have e : trR (c :: r) = c :: trR r := by rw [trR, if_neg (fun x => ht x.2)]
        rw [if_neg ht, e, if_neg (List.cons_ne_nil _ _)]
        cases gap with
        | true =>
          have e2 : sqR true (c :: trR r) = sqR true (trR r) := by rw [sqR, if_pos ⟨hc, rfl⟩]
          rw [e2]
        | false =>
          have e2 : sqR false (c :: trR r) = 32 :: sqR true (trR r) := by rw [sqR, if_neg (fun x => Bool.false_ne_true x.2), decide_eq_true hc, hc]
          rw [e2]; rfl
    · have e : trR (c :: r) = c :: trR r := by rw [trR, if_neg (fun x => hc x.1)]
      have e2 : sqR gap (c :: trR r) = c :: sqR false (trR r) := by rw [sqR, if_neg (fun x => hc x.1), decide_eq_false hc]
      rw [foldG, if_neg hc, foldG_acc r _ false (by simp), e, if_neg (List.cons_ne_nil _ _), e2]
      have : (if trR r = [] then ([] : List UInt8) else (if false = true then [32] else []) ++ sqR false (trR r)) = sqR false (trR r) := by
        by_cases ht : trR r = []
        · rw [if_pos ht, ht]; rfl
        · rw [if_neg ht, if_neg Bool.false_ne_true]; rfl
      rw [this]
      simp only [List.append_assoc, List.singleton_append]
theorem foldG_nil : ∀ r : List UInt8, foldG [] false r = sqR false (Lib.trimB r 32)
  | [] => rfl
  | c :: r => by
    unfold Lib.trimB
    rw [trR_eq]
    by_cases hc : c = 32
    · rw [foldG, if_pos hc, decide_eq_false (by simp), foldG_nil r]
      unfold Lib.trimB
      rw [trR_eq]
      by_cases ht : trR r = []
      · have e : trR (c :: r) = [] := by rw [trR, if_pos ⟨hc, ht⟩]
        rw [e, ht]
      · have e : trR (c :: r) = c :: trR r := by rw [trR, if_neg (fun x => ht x.2)]
        rw [e]
        unfold Lib.trimLeftB
        rw [List.dropWhile_cons, if_pos (by rw [hc]; rfl)]
    · have e : trR (c :: r) = c :: trR r := by rw [trR, if_neg (fun x => hc x.1)]
      have e2 : sqR false (c :: trR r) = c :: sqR false (trR r) := by rw [sqR, if_neg (fun x => hc x.1), decide_eq_false hc]
      rw [e, foldG, if_neg hc, foldG_acc r _ false (by simp)]
      unfold Lib.trimLeftB
      rw [List.dropWhile_cons, if_neg (show ¬ (c == 32) = true by rw [beq_iff_eq]; exact hc), e2]
      by_cases ht : trR r = []
      · rw [if_pos ht, ht]; rfl
      · rw [if_neg ht, if_neg Bool.false_ne_true]; rfl
theorem trR_low : ∀ l : List UInt8, trR (l.map lowB) = (trR l).map lowB
  | [] => rfl
  | c :: r => by
    rw [List.map_cons, trR, trR, trR_low r]
    by_cases h : c = 32 ∧ trR r = []
    · rw [if_pos h, if_pos ⟨(lowB_blank c).2 h.1, by rw [h.2]; rfl⟩]; rfl
    · rw [if_neg h, if_neg (fun x => h ⟨(lowB_blank c).1 x.1, List.map_eq_nil_iff.1 x.2⟩)]; rfl
theorem dropW_low : ∀ l : List UInt8, (l.map lowB).dropWhile (· == 32) = (l.dropWhile (· == 32)).map lowB
  | [] => rfl
  | c :: r => by
    rw [List.map_cons, List.dropWhile_cons, List.dropWhile_cons]
    by_cases h : c = 32
    · rw [if_pos (by rw [h]; rfl), if_pos (by rw [h]; rfl), dropW_low r]
    · rw [if_neg (by rw [beq_iff_eq]; exact fun e => h ((lowB_blank c).1 e)), if_neg (by rw [beq_iff_eq]; exact h)]; rfl
theorem trim_low (l : List UInt8) : Lib.trimB (l.map lowB) 32 = (Lib.trimB l 32).map lowB := by
  unfold Lib.trimB Lib.trimLeftB
  rw [trR_eq, trR_eq, trR_low, dropW_low]
theorem ref_fold (s : ByteArray) (hs : s.size ≤ 1073741824) : Ev (fun k => brookref1_Fold.f k s) (mk (foldL s.data.toList)) := by
  unfold brookref1_Fold.f
  rw [ref_lower s (by omega)]
  refine Ev.bs ?_
  have h := fold_loop (lowS s) (by rw [lowS_size]; exact hs) (lowS s).size 0 [] false (by omega) (by omega) (by simp)
  rw [List.drop_zero, lowS_data, foldG_nil, trim_low] at h
  rw [foldL_R]
  exact h
end Go.Proofs.YthfpaoacjpjnfaaGreatDoor.P


namespace Go.Proofs.YthfpaoacjpjnfaaGreatDoor.P
open Go.RowKit Go.Proofs.YthfpaoacjpjnfaaGreatDoorW.PrintWords Go.Proofs.YthfpaoacjpjnfaaGreatDoorW.PrintLast Go.Proofs.YthfpaoacjpjnfaaGreatDoorW.PrintMore
set_option linter.unusedVariables false
set_option linter.unusedSimpArgs false
end Go.Proofs.YthfpaoacjpjnfaaGreatDoor.P


namespace Go.Proofs.YthfpaoacjpjnfaaGreatDoor.P
open Go.RowKit Go.Proofs.YthfpaoacjpjnfaaGreatDoorW.PrintWords Go.Proofs.YthfpaoacjpjnfaaGreatDoorW.PrintLast Go.Proofs.YthfpaoacjpjnfaaGreatDoorW.PrintMore
set_option linter.unusedVariables false
set_option linter.unusedSimpArgs false
end Go.Proofs.YthfpaoacjpjnfaaGreatDoor.P


namespace Go.Proofs.YthfpaoacjpjnfaaGreatDoor.P
open Go.RowKit Go.Proofs.YthfpaoacjpjnfaaGreatDoorW.PrintWords Go.Proofs.YthfpaoacjpjnfaaGreatDoorW.PrintLast Go.Proofs.YthfpaoacjpjnfaaGreatDoorW.PrintMore
set_option linter.unusedVariables false
set_option linter.unusedSimpArgs false
end Go.Proofs.YthfpaoacjpjnfaaGreatDoor.P


namespace Go.Proofs.YthfpaoacjpjnfaaGreatDoor.P
open Go.RowKit Go.Proofs.YthfpaoacjpjnfaaGreatDoorW.PrintWords Go.Proofs.YthfpaoacjpjnfaaGreatDoorW.PrintLast Go.Proofs.YthfpaoacjpjnfaaGreatDoorW.PrintMore
set_option linter.unusedVariables false
set_option linter.unusedSimpArgs false
def valI (l : List UInt8) : Int := match Lib.atoiAll l with | .ok v => v | _ => 0
def lessP (r : Int) (x y : Option (List UInt8)) : Bool × Bool :=
  match x, y with
  | some a, some b => if r = 1 then (Op.bytesLess a b, true) else if r = 2 then (decide (valI a < valI b), true) else (false, false)
  | _, _ => (false, false)
theorem norm_num_is {t v x : List UInt8} (h : normL t v = some x) (hr : ruleL t = 2) : numberL x = true := by
  have h2 := norm_idem h
  have hs := normL_small h
  unfold normL normO at h2
  rw [if_neg (by rw [not_or]; exact ⟨hs.1, by omega⟩), hr, if_neg (by decide), if_pos rfl] at h2
  by_cases hn : numberL x = true
  · exact hn
  · rw [if_neg hn] at h2; cases h2
theorem less_all (t a b : ByteArray) (ht : t.size ≤ 9223372036854775807) : Ev (fun k => match_Less.f k t a b) (lessP (ruleL t.data.toList) (normL t.data.toList a.data.toList) (normL t.data.toList b.data.toList)) := by
  have ha := norm_all t a ht
  have hb := norm_all t b ht
  refine less_ev ht ha hb ?_
  cases hx : normL t.data.toList a.data.toList with
  | none => rfl
  | some x =>
    cases hy : normL t.data.toList b.data.toList with
    | none => rfl
    | some y =>
      have sx := normL_small hx
      have sy := normL_small hy
      show lessBy (ruleL t.data.toList) (mk x) (mk y) = some (if ruleL t.data.toList = 1 then (Op.bytesLess x y, true) else if ruleL t.data.toList = 2 then (decide (valI x < valI y), true) else (false, false))
      unfold lessBy
      by_cases r1 : ruleL t.data.toList = 1
      · rw [if_pos r1, if_pos r1, mk_toList, mk_toList]
      rw [if_neg r1, if_neg r1]
      by_cases r2 : ruleL t.data.toList = 2
      · rw [if_pos r2, if_pos r2, mk_size, mk_size, if_pos (by omega)]
        obtain ⟨vx, hvx, _, _⟩ := number_is (norm_num_is hx r2)
        obtain ⟨vy, hvy, _, _⟩ := number_is (norm_num_is hy r2)
        unfold lessNum valI
        rw [mk_data, mk_data, hvx, hvy]
      · rw [if_neg r2, if_neg r2]
end Go.Proofs.YthfpaoacjpjnfaaGreatDoor.P


namespace Go.Proofs.YthfpaoacjpjnfaaGreatDoor.P
open Go.RowKit Go.Proofs.YthfpaoacjpjnfaaGreatDoorW.PrintWords Go.Proofs.YthfpaoacjpjnfaaGreatDoorW.PrintLast Go.Proofs.YthfpaoacjpjnfaaGreatDoorW.PrintMore
set_option linter.unusedVariables false
set_option linter.unusedSimpArgs false
theorem norm_calls (t v : ByteArray) (w : World) (hG : Gl w) (ht : t.size ≤ 9223372036854775807) :
    Calls Tryz.prog 39 #[.string t, .string v] w fun e w' => e = .returned (.tuple #[.string (encO (normL t.data.toList v.data.toList)).1, .bool (encO (normL t.data.toList v.data.toList)).2]) ∧ Below w.heap.size w w' := by
  obtain ⟨k, hk⟩ := Ev.rounds (norm_all t v ht)
  exact match_Norm.calls k t v _ _ w hG hk
theorem same_calls (t a b : ByteArray) (w : World) (hG : Gl w) (ht : t.size ≤ 9223372036854775807) :
    Calls Tryz.prog 68 #[.string t, .string a, .string b] w fun e w' => e = .returned (.bool (sameO (normL t.data.toList a.data.toList) (normL t.data.toList b.data.toList))) ∧ Below w.heap.size w w' := by
  obtain ⟨k, hk⟩ := Ev.rounds (same_ev (norm_all t a ht) (norm_all t b ht))
  exact match_Same.calls k t a b _ w hG hk
def lessT (t a b : ByteArray) : Bool × Bool := lessP (ruleL t.data.toList) (normL t.data.toList a.data.toList) (normL t.data.toList b.data.toList)
theorem less_calls (t a b : ByteArray) (w : World) (hG : Gl w) (ht : t.size ≤ 9223372036854775807) :
    Calls Tryz.prog 69 #[.string t, .string a, .string b] w fun e w' => e = .returned (.tuple #[.bool (lessT t a b).1, .bool (lessT t a b).2]) ∧ Below w.heap.size w w' := by
  obtain ⟨k, hk⟩ := Ev.rounds (less_all t a b ht)
  exact match_Less.calls k t a b _ _ w hG hk
theorem rule_calls (t : ByteArray) (w : World) (ht : t.size ≤ 9223372036854775807) :
    Calls Tryz.prog 59 #[.string t] w fun e w' => e = .returned (.int .i64 (ruleL t.data.toList)) ∧ Below w.heap.size w w' := by
  refine (match_Rule.calls t _ w (rule_eq t ht)).mono ?_
  rintro e w' ⟨rfl, hb⟩
  exact ⟨rfl, hb⟩
end Go.Proofs.YthfpaoacjpjnfaaGreatDoor.P


namespace Go.Proofs.YthfpaoacjpjnfaaGreatDoor.P
open Go.RowKit Go.Proofs.YthfpaoacjpjnfaaGreatDoorW.PrintWords Go.Proofs.YthfpaoacjpjnfaaGreatDoorW.PrintLast Go.Proofs.YthfpaoacjpjnfaaGreatDoorW.PrintMore
set_option linter.unusedVariables false
set_option linter.unusedSimpArgs false
def sameT (t a b : ByteArray) : Bool := sameO (normL t.data.toList a.data.toList) (normL t.data.toList b.data.toList)
theorem has_pred (B C : Nat) (v typ val : ByteArray) (W : World) (hG : Gl W) (hc : W.cell? ⟨B, 0, none⟩ = some (.string typ)) (hd : W.cell? ⟨C, 0, none⟩ = some (.string val)) (h2 : typ.size ≤ 9223372036854775807) :
    Calls Tryz.prog 67 (#[.string v] ++ #[.pointer (some ⟨B, 0, none⟩), .pointer (some ⟨C, 0, none⟩)]) W fun e w' => e = .returned (.bool (sameT typ v val)) ∧ Below W.heap.size W w' := by
  have HG := Aside0.mk hG
  have H2 := Aside0.mk h2
  clear hG h2
  show Calls Tryz.prog 67 #[.string v, .pointer (some ⟨B, 0, none⟩), .pointer (some ⟨C, 0, none⟩)] W _
  go_enter Tryz.func67, Tryz.ntmps67
  go_wp2_with (go_at_call 68; refine (same_calls typ v val _ HG.out H2.out).mono ?_; rintro e w' ⟨rfl, hb⟩)
  go_ret
  exact ⟨rfl, hb⟩
def hasAt (vs : List ByteArray) (typ val : ByteArray) (i : Nat) : Bool := sameT typ (rdOf ByteArray.empty vs (i : Int)) val
def entry_Has.f (a0 : ByteArray) (l : List S45) (typ val : ByteArray) : Option Bool :=
  (entry_Vals.f a0 l typ).bind fun vs => if vs.length ≤ 1000000000 ∧ typ.size ≤ 9223372036854775807 then some (someI (hasAt vs typ val) vs.length) else none
set_option maxHeartbeats 2000000 in
set_option maxRecDepth 100000 in
theorem entry_Has.calls (a0 : ByteArray) (A1 : Option Addr) (c1 : Nat) (l1 : List S45) (typ val : ByteArray) (r : Bool) (w : World) (hr : Kd.C k45 w A1 l1.length l1) (hc : l1.length ≤ c1) (hG : Gl w) (h : entry_Has.f a0 l1 typ val = some r) :
    Calls Tryz.prog 40 #[.agg #[.string a0, .slice A1 l1.length c1], .string typ, .string val] w fun e w' => e = .returned (.bool r) ∧ Below w.heap.size w w' := by
  obtain ⟨vs, hv, h⟩ := Option.bind_eq_some_iff.1 h
  by_cases hs : vs.length ≤ 1000000000 ∧ typ.size ≤ 9223372036854775807
  · rw [if_pos hs] at h
    obtain rfl := Option.some.inj h
    have hu2 := Tryz.underlying28
    have eg : ∀ args w, (callFunc 67 args).run Tryz.prog w = .ok (.enter 67 args) w := enters_of Tryz.func67 (by kernel_rfl) rfl
    have HR := Aside0.mk hr
    have HC := Aside0.mk hc
    have HG := Aside0.mk hG
    have HV := Aside0.mk hv
    have HS := Aside0.mk hs
    clear hr hc hG hv hs h
    have ct : ∀ (W : World) (A : Option Addr) (c : Nat), Below w.heap.size w W → W.cell? ⟨w.heap.size + 1, 0, none⟩ = some (.string typ) → W.cell? ⟨w.heap.size + 2, 0, none⟩ = some (.string val) → Kd.string.C W A vs.length vs →
        Calls Tryz.prog 61 #[.slice A vs.length c, .func (.func 67) #[] #[.pointer (some ⟨w.heap.size + 1, 0, none⟩), .pointer (some ⟨w.heap.size + 2, 0, none⟩)]] W fun e w' => e = .returned (.bool (someI (hasAt vs typ val) vs.length)) ∧ Below W.heap.size W w' := by
      intro W A c hb hc1 hc2 hcs
      refine contains_string A c vs 67 _ (hasAt vs typ val) W eg hcs (fun i hi W' hb' => ?_)
      refine (has_pred (w.heap.size + 1) (w.heap.size + 2) _ typ val W' ((HG.out.below hb).below hb') (below_keep1 (W0 := w) hc1 hb') (below_keep1 (W0 := w) hc2 hb') HS.out.2).mono ?_
      rintro e w' ⟨rfl, hb2⟩
      exact ⟨rfl, below_step hb' hb2⟩
    have CT := Aside0.mk ct
    clear ct eg
    go_enter Tryz.func40, Tryz.ntmps40
    go_upto_region 1 with (fail)
    obtain ⟨w0, hw0⟩ : ∃ w0, ((w.alloc (.cells #[.string a0, .slice A1 l1.length c1] 28)).alloc (.cells #[.string typ] 9)).alloc (.cells #[.string val] 9) = w0 := ⟨_, rfl⟩
    have kD : w0.cell? ⟨w.heap.size, 0, none⟩ = some (.string a0) := by rw [← hw0]; simp [go_sem]
    have kE : w0.cell? ⟨w.heap.size, 1, none⟩ = some (.slice A1 l1.length c1) := by rw [← hw0]; simp [go_sem]
    have kT : w0.cell? ⟨w.heap.size + 1, 0, none⟩ = some (.string typ) := by rw [← hw0]; simp [go_sem]
    have kV : w0.cell? ⟨w.heap.size + 2, 0, none⟩ = some (.string val) := by rw [← hw0]; simp [go_sem]
    have kB : Below w.heap.size w w0 := by rw [← hw0]; exact below_alloc (below_alloc (below_alloc (Below.refl _ _) _) _) _
    rw [hw0]
    clear hw0
    have KB := Aside0.mk kB
    clear kB
    go_wp2_with (first | (go_at_call 37; refine (entry_Vals.calls a0 A1 c1 l1 typ vs w0 (Kd.C_below HR.out KB.out) HC.out HV.out).mono ?_; rintro e w1 ⟨v, rfl, ho, hb⟩; obtain ⟨Ao, co, eo⟩ := Kd.R_slice ho; subst eo; have kT1 := below_keep1 (W0 := w) kT hb; have kV1 := below_keep1 (W0 := w) kV hb; have KB1 := Aside0.mk (below_step KB.out hb); have HO := Aside0.mk ho; clear hb ho kT kV kD kE) | (go_at_call 61; refine (CT.out _ _ _ KB1.out kT1 kV1 (Kd.R_reads' HO.out).2.2).mono ?_; rintro e w2 ⟨rfl, hb2⟩))
    go_ret
    exact ⟨rfl, below_step KB1.out hb2⟩
  · rw [if_neg hs] at h
    cases h
end Go.Proofs.YthfpaoacjpjnfaaGreatDoor.P


namespace Go.Proofs.YthfpaoacjpjnfaaGreatDoor.P
open Go.RowKit Go.Proofs.YthfpaoacjpjnfaaGreatDoorW.PrintWords Go.Proofs.YthfpaoacjpjnfaaGreatDoorW.PrintLast Go.Proofs.YthfpaoacjpjnfaaGreatDoorW.PrintMore
set_option linter.unusedVariables false
set_option linter.unusedSimpArgs false
def ordT (kind : Int) (typ val v : ByteArray) : Bool := if kind = 7 then ((lessT typ val v).2 && !(lessT typ val v).1) else ((lessT typ v val).2 && !(lessT typ v val).1)
set_option maxHeartbeats 2000000 in
set_option maxRecDepth 100000 in
theorem ord_pred (B : Nat) (kind : Int) (v typ val : ByteArray) (W : World) (hG : Gl W) (hk : W.cell? ⟨B, 0, none⟩ = some (.int .i64 kind)) (hc : W.cell? ⟨B, 1, none⟩ = some (.string typ)) (hd : W.cell? ⟨B, 2, none⟩ = some (.string val)) (h2 : typ.size ≤ 9223372036854775807) :
    Calls Tryz.prog 70 (#[.string v] ++ #[.pointer (some ⟨B, 0, none⟩)]) W fun e w' => e = .returned (.bool (ordT kind typ val v)) ∧ Below W.heap.size W w' := by
  have HG := Aside0.mk hG
  have H2 := Aside0.mk h2
  have hu := Tryz.underlying25
  clear hG h2
  show Calls Tryz.prog 70 #[.string v, .pointer (some ⟨B, 0, none⟩)] W _
  unfold ordT
  by_cases h7 : kind = 7
  · rw [if_pos h7]
    have b7 : (kind == 7) = true := beq_iff_eq.2 h7
    clear h7
    obtain ⟨p, hp⟩ : ∃ p, lessT typ val v = p := ⟨_, rfl⟩
    rw [hp]
    obtain ⟨p1, p2⟩ := p
    have HL := Aside0.mk hp
    clear hp
    go_enter Tryz.func70, Tryz.ntmps70
    go_upto_region 1 with (fail)
    go_quiet (fail)
    go_wp2_with (go_at_call 69; refine (less_calls typ val v _ (Gl.drewN HG.out _) H2.out).mono ?_; rintro e w' ⟨rfl, hb⟩; rw [HL.out])
    all_goals (go_ret; exact ⟨by first | rfl | (simp [*]; done), below_then (pw_below_drewN (Below.refl _ _) _) (by simp) hb⟩)
  · rw [if_neg h7]
    have b7 : (kind == 7) = false := beq_eq_false_iff_ne.2 h7
    clear h7
    obtain ⟨p, hp⟩ : ∃ p, lessT typ v val = p := ⟨_, rfl⟩
    rw [hp]
    obtain ⟨p1, p2⟩ := p
    have HL := Aside0.mk hp
    clear hp
    go_enter Tryz.func70, Tryz.ntmps70
    go_upto_region 1 with (fail)
    go_quiet (fail)
    go_wp2_with (go_at_call 69; refine (less_calls typ v val _ (Gl.drewN HG.out _) H2.out).mono ?_; rintro e w' ⟨rfl, hb⟩; rw [HL.out])
    all_goals (go_ret; exact ⟨by first | rfl | (simp [*]; done), below_then (pw_below_drewN (Below.refl _ _) _) (by simp) hb⟩)
def ordAt (kind : Int) (vs : List ByteArray) (typ val : ByteArray) (i : Nat) : Bool := ordT kind typ val (rdOf ByteArray.empty vs (i : Int))
def eval_order.f (a0_0 : Int) (a0_1 a0_2 : ByteArray) (l0_3 : List ByteArray) (l0_4 : List S25) (a1_0 : ByteArray) (l1_1 : List S45) : Option Int :=
  if a0_1.size ≤ 9223372036854775807 then (if (lessT a0_1 a0_2 a0_2).2 = false then some 2 else
    (entry_Vals.f a1_0 l1_1 a0_1).bind fun vs => if vs.length ≤ 1000000000 then some (if someI (ordAt a0_0 vs a0_1 a0_2) vs.length = true then 1 else 0) else none) else none
theorem truth_eq (b : Bool) : eval_truth.f b = some (if b = true then 1 else 0) := by cases b <;> rfl
set_option maxHeartbeats 4000000 in
set_option maxRecDepth 100000 in
theorem eval_order.calls (a0_0 : Int) (a0_1 : ByteArray) (a0_2 : ByteArray) (A0_3 : Option Addr) (c0_3 : Nat) (l0_3 : List ByteArray) (A0_4 : Option Addr) (c0_4 : Nat) (l0_4 : List S25) (a1_0 : ByteArray) (A1_1 : Option Addr) (c1_1 : Nat) (l1_1 : List S45) (r : Int) (w : World) (hr0_3 : Kd.C Kd.string w A0_3 l0_3.length l0_3) (hc0_3 : l0_3.length ≤ c0_3) (hr0_4 : Kd.C k25 w A0_4 l0_4.length l0_4) (hc0_4 : l0_4.length ≤ c0_4) (hr1_1 : Kd.C k45 w A1_1 l1_1.length l1_1) (hc1_1 : l1_1.length ≤ c1_1) (hG : Gl w) (h : eval_order.f a0_0 a0_1 a0_2 l0_3 l0_4 a1_0 l1_1 = some r) :
    Calls Tryz.prog 41 #[.agg #[.int .i64 a0_0, .string a0_1, .string a0_2, .slice A0_3 l0_3.length c0_3, .slice A0_4 l0_4.length c0_4], .agg #[.string a1_0, .slice A1_1 l1_1.length c1_1]] w fun e w' => e = .returned (.int .i64 r) ∧ Below w.heap.size w w' := by
  unfold eval_order.f at h
  by_cases hs : a0_1.size ≤ 9223372036854775807
  · rw [if_pos hs] at h
    have hu1 := Tryz.underlying25
    have hu2 := Tryz.underlying28
    have eg : ∀ args w, (callFunc 70 args).run Tryz.prog w = .ok (.enter 70 args) w := enters_of Tryz.func70 (by kernel_rfl) rfl
    have HS := Aside0.mk hs
    have HR := Aside0.mk hr1_1
    have HC := Aside0.mk hc1_1
    have HG := Aside0.mk hG
    clear hr0_3 hc0_3 hr0_4 hc0_4 hr1_1 hc1_1 hG hs
    obtain ⟨p, hp⟩ : ∃ p, lessT a0_1 a0_2 a0_2 = p := ⟨_, rfl⟩
    rw [hp] at h
    obtain ⟨p1, p2⟩ := p
    have HL := Aside0.mk hp
    clear hp
    have HH := Aside0.mk h
    clear h
    have cells : ∀ W : World, Below (w.alloc (.cells #[.int .i64 a0_0, .string a0_1, .string a0_2, .slice A0_3 l0_3.length c0_3, .slice A0_4 l0_4.length c0_4] 25)).heap.size (w.alloc (.cells #[.int .i64 a0_0, .string a0_1, .string a0_2, .slice A0_3 l0_3.length c0_3, .slice A0_4 l0_4.length c0_4] 25)) W → W.cell? ⟨w.heap.size, 0, none⟩ = some (.int .i64 a0_0) ∧ W.cell? ⟨w.heap.size, 1, none⟩ = some (.string a0_1) ∧ W.cell? ⟨w.heap.size, 2, none⟩ = some (.string a0_2) := by
      intro W hb
      exact ⟨below_keep1 (W0 := w) (by simp [go_sem]) hb, below_keep1 (W0 := w) (by simp [go_sem]) hb, below_keep1 (W0 := w) (by simp [go_sem]) hb⟩
    have ct : ∀ (vs : List ByteArray) (W : World) (A : Option Addr) (c : Nat), Below w.heap.size w W → (W.cell? ⟨w.heap.size, 0, none⟩ = some (.int .i64 a0_0) ∧ W.cell? ⟨w.heap.size, 1, none⟩ = some (.string a0_1) ∧ W.cell? ⟨w.heap.size, 2, none⟩ = some (.string a0_2)) → Kd.string.C W A vs.length vs →
        Calls Tryz.prog 61 #[.slice A vs.length c, .func (.func 70) #[] #[.pointer (some ⟨w.heap.size, 0, none⟩)]] W fun e w' => e = .returned (.bool (someI (ordAt a0_0 vs a0_1 a0_2) vs.length)) ∧ Below W.heap.size W w' := by
      intro vs W A c hb hcs hv
      refine contains_string A c vs 70 _ (ordAt a0_0 vs a0_1 a0_2) W eg hv (fun i hi W' hb' => ?_)
      refine (ord_pred w.heap.size a0_0 _ a0_1 a0_2 W' ((HG.out.below hb).below hb') (below_keep1 (W0 := w) hcs.1 hb') (below_keep1 (W0 := w) hcs.2.1 hb') (below_keep1 (W0 := w) hcs.2.2 hb') HS.out).mono ?_
      rintro e w' ⟨rfl, hb2⟩
      exact ⟨rfl, below_step hb' hb2⟩
    have CT := Aside0.mk ct
    clear ct eg
    go_enter Tryz.func41, Tryz.ntmps41
    go_upto_region 1 with (fail)
    obtain ⟨w0, hw0⟩ : ∃ w0, (w.alloc (.cells #[.int .i64 a0_0, .string a0_1, .string a0_2, .slice A0_3 l0_3.length c0_3, .slice A0_4 l0_4.length c0_4] 25)).alloc (.cells #[.string a1_0, .slice A1_1 l1_1.length c1_1] 28) = w0 := ⟨_, rfl⟩
    have kq := cells w0 (by rw [← hw0]; exact below_alloc (Below.refl _ _) _)
    have k0 := kq.1
    have k1 := kq.2.1
    have k2 := kq.2.2
    have kD : w0.cell? ⟨w.heap.size + 1, 0, none⟩ = some (.string a1_0) := by rw [← hw0]; simp [go_sem]
    have kE : w0.cell? ⟨w.heap.size + 1, 1, none⟩ = some (.slice A1_1 l1_1.length c1_1) := by rw [← hw0]; simp [go_sem]
    have kB : Below w.heap.size w w0 := by rw [← hw0]; exact below_alloc (below_alloc (Below.refl _ _) _) _
    rw [hw0]
    clear hw0 kq cells
    have KB := Aside0.mk kB
    clear kB
    cases p2 with
    | false =>
      have hr2 : (2 : Int) = r := Option.some.inj HH.out
      subst hr2
      clear HH
      go_wp2_with (go_at_call 69; refine (less_calls a0_1 a0_2 a0_2 _ (HG.out.below KB.out) HS.out).mono ?_; rintro e w1 ⟨rfl, hb⟩; rw [HL.out])
      go_ret
      exact ⟨rfl, below_step KB.out hb⟩
    | true =>
      obtain ⟨vs, hv, h⟩ := Option.bind_eq_some_iff.1 HH.out
      by_cases hl : vs.length ≤ 1000000000
      · rw [if_pos hl] at h
        have hr2 := Option.some.inj h
        obtain ⟨b, hb0⟩ : ∃ b, someI (ordAt a0_0 vs a0_1 a0_2) vs.length = b := ⟨_, rfl⟩
        rw [hb0] at hr2
        have CT2 := Aside0.mk (CT.out vs)
        rw [hb0] at CT2
        have HV := Aside0.mk hv
        have HT := Aside0.mk (truth_eq b)
        subst hr2
        clear HH CT hv h hl hb0
        go_wp2_with (first | (go_at_call 69; refine (less_calls a0_1 a0_2 a0_2 _ (HG.out.below KB.out) HS.out).mono ?_; rintro e w1 ⟨rfl, hb⟩; rw [HL.out]; have j0 := below_keep1 (W0 := w) k0 hb; have j1 := below_keep1 (W0 := w) k1 hb; have j2 := below_keep1 (W0 := w) k2 hb; have jD := below_keep1 (W0 := w) kD hb; have jE := below_keep1 (W0 := w) kE hb; have KB1 := Aside0.mk (below_step KB.out hb); clear hb k0 k1 k2 kD kE) | (go_at_call 37; refine (entry_Vals.calls a1_0 A1_1 c1_1 l1_1 a0_1 vs _ (Kd.C_below HR.out KB1.out) HC.out HV.out).mono ?_; rintro e w2 ⟨v, rfl, ho, hb⟩; obtain ⟨Ao, co, eo⟩ := Kd.R_slice ho; subst eo; have KQ := Aside0.mk (And.intro (below_keep1 (W0 := w) j0 hb) (And.intro (below_keep1 (W0 := w) j1 hb) (below_keep1 (W0 := w) j2 hb))); have KB2 := Aside0.mk (below_step KB1.out hb); have HO := Aside0.mk ho; clear hb ho j0 j1 j2 jD jE) | (go_at_call 61; refine (CT2.out _ _ _ KB2.out KQ.out (Kd.R_reads' HO.out).2.2).mono ?_; rintro e w3 ⟨rfl, hb⟩; have KB3 := Aside0.mk (below_step KB2.out hb); clear hb) | (go_at_call 36; refine (eval_truth.calls _ _ _ HT.out).mono ?_; rintro e w4 ⟨rfl, ⟨nq, rfl⟩⟩))
        all_goals (go_ret; exact ⟨by first | rfl | (simp [*]; done), pw_below_drewN KB3.out _⟩)
      · rw [if_neg hl] at h
        cases h
  · rw [if_neg hs] at h
    cases h
end Go.Proofs.YthfpaoacjpjnfaaGreatDoor.P

namespace Go.Proofs.YthfpaoacjpjnfaaGreatDoor.P
open Go.RowKit Go.Proofs.YthfpaoacjpjnfaaGreatDoorW.PrintWords Go.Proofs.YthfpaoacjpjnfaaGreatDoorW.PrintLast Go.Proofs.YthfpaoacjpjnfaaGreatDoorW.PrintMore
set_option linter.unusedVariables false
set_option linter.unusedSimpArgs false
def strings_CutPrefix.f (a0 a1 : ByteArray) : Option (ByteArray × Bool) := some (mk (Lib.trimPrefix a0.data.toList a1.data.toList), Lib.hasPrefix a0.data.toList a1.data.toList)
theorem strings_CutPrefix.calls (a0 a1 : ByteArray) (r1 : ByteArray) (r2 : Bool) (w : World) (h : strings_CutPrefix.f a0 a1 = some (r1, r2)) :
    Calls Tryz.prog 82 #[.string a0, .string a1] w fun e w' => e = .returned (.tuple #[.string r1, .bool r2]) ∧ Drawn0 w w' := by
  obtain ⟨rfl, rfl⟩ := Prod.mk.inj (Option.some.inj h)
  refine (Tryz.strings_CutPrefix a0 a1 w).mono ?_
  rintro e w' ⟨rfl, rfl⟩
  exact ⟨rfl, Drawn0.refl _⟩
def strings_HasSuffix.f (a0 a1 : ByteArray) : Option Bool := if a0.size ≤ 9223372036854775807 then some (Lib.hasSuffix a0.data.toList a1.data.toList) else none
theorem strings_HasSuffix.calls (a0 a1 : ByteArray) (r : Bool) (w : World) (h : strings_HasSuffix.f a0 a1 = some r) :
    Calls Tryz.prog 84 #[.string a0, .string a1] w fun e w' => e = .returned (.bool r) ∧ Drawn0 w w' := by
  unfold strings_HasSuffix.f at h
  by_cases hs : a0.size ≤ 9223372036854775807
  · rw [if_pos hs] at h
    obtain rfl := Option.some.inj h
    refine (Tryz.strings_HasSuffix a0 a1 w hs).mono ?_
    rintro e w' ⟨rfl, rfl⟩
    exact ⟨rfl, Drawn0.refl _⟩
  · rw [if_neg hs] at h
    cases h
end Go.Proofs.YthfpaoacjpjnfaaGreatDoor.P

namespace Go.Proofs.YthfpaoacjpjnfaaGreatDoor.P
open Go.RowKit Go.Proofs.YthfpaoacjpjnfaaGreatDoorW.PrintWords Go.Proofs.YthfpaoacjpjnfaaGreatDoorW.PrintLast Go.Proofs.YthfpaoacjpjnfaaGreatDoorW.PrintMore
attribute [local go_sem] max2_int min2_int max_two min_two max_three min_three max_four min_four
set_option linter.unusedVariables false
set_option linter.unusedSimpArgs false
def eval_parted.l0 : Nat → List ByteArray → Int → ByteArray → Bool → List ByteArray → Int → Int → Option (Bool)
 | 0, _, _, _, _, _, _, _ => none
 | k + 1, x1, x5, x6, x7, x23, x24, x25 => if x25 < x24 then (if 0 ≤ x25 then (if x25 < (x23.length : Int) then (if x7 = true then ((strings_Cut.f x6 (rdOf ByteArray.empty x23 x25)).bind fun bt126 => (eval_parted.l0 k x1 x5 bt126.2.1 bt126.2.2 x23 x24 (wrap64 (x25 + 1)))) else (eval_parted.l0 k x1 x5 x6 x7 x23 x24 (wrap64 (x25 + 1)))) else (none)) else (none)) else (if x7 = true then (if 0 ≤ x5 then (if x5 < (x1.length : Int) then ((strings_HasSuffix.f x6 (rdOf ByteArray.empty x1 x5)).bind fun t130 => (some t130)) else (none)) else (none)) else (some false))
def eval_parted.f (k : Nat) (a0 : ByteArray) (l1 : List ByteArray) : Option (Bool) := if 0 < (l1.length : Int) then ((strings_CutPrefix.f a0 (rdOf ByteArray.empty l1 0)).bind fun bt122 => (if 1 ≤ (wrap64 ((l1.length : Int) - 1)) then (if (wrap64 ((l1.length : Int) - 1)) ≤ (l1.length : Int) then (eval_parted.l0 k l1 (wrap64 ((l1.length : Int) - 1)) bt122.1 bt122.2 ((l1.take ((wrap64 ((l1.length : Int) - 1)) : Int).toNat).drop 1) (((l1.take ((wrap64 ((l1.length : Int) - 1)) : Int).toNat).drop 1).length : Int) 0) else (none)) else (none))) else (none)
set_option maxHeartbeats 8000000 in
set_option maxRecDepth 100000 in
theorem eval_parted.calls (k : Nat) (a0 : ByteArray) (A1 : Option Addr) (c1 : Nat) (l1 : List ByteArray) (r : Bool) (w : World) (hr1 : Kd.C Kd.string w A1 l1.length l1) (hc1 : l1.length ≤ c1) (hG : Gl w) (h : eval_parted.f k a0 l1 = some r) :
  Calls Tryz.prog 63 #[.string a0, .slice A1 l1.length c1] w fun e w' => e = .returned (.bool r) ∧ Drawn0 w w' := by
 have HR1 := Aside0.mk hr1
 have HC1 := Aside0.mk hc1
 clear hr1 hc1
 have HG := Aside0.mk hG
 clear hG
 have H : (if 0 < (l1.length : Int) then ((strings_CutPrefix.f a0 (rdOf ByteArray.empty l1 0)).bind fun bt122 => (if 1 ≤ (wrap64 ((l1.length : Int) - 1)) then (if (wrap64 ((l1.length : Int) - 1)) ≤ (l1.length : Int) then (eval_parted.l0 k l1 (wrap64 ((l1.length : Int) - 1)) bt122.1 bt122.2 ((l1.take ((wrap64 ((l1.length : Int) - 1)) : Int).toNat).drop 1) (((l1.take ((wrap64 ((l1.length : Int) - 1)) : Int).toNat).drop 1).length : Int) 0) else (none)) else (none))) else (none)) = some r := h
 clear h
 by_cases c3 : 0 < (l1.length : Int)
 ·rw [if_pos c3] at H
  have c3b0 : decide (0 < (l1.length : Int)) = true := decide_eq_true c3
  have c3b1 : decide (0 < l1.length) = true := decide_eq_true (by omega)
  clear c3
  replace H := Option.bind_eq_some_iff.mp H
  obtain ⟨⟨t122, t123⟩, A40, H⟩ := H
  replace H : (if 1 ≤ (wrap64 ((l1.length : Int) - 1)) then (if (wrap64 ((l1.length : Int) - 1)) ≤ (l1.length : Int) then (eval_parted.l0 k l1 (wrap64 ((l1.length : Int) - 1)) t122 t123 ((l1.take ((wrap64 ((l1.length : Int) - 1)) : Int).toNat).drop 1) (((l1.take ((wrap64 ((l1.length : Int) - 1)) : Int).toNat).drop 1).length : Int) 0) else (none)) else (none)) = some r := H
  have A4 := Aside0.mk A40
  clear A40
  by_cases c5 : 1 ≤ (wrap64 ((l1.length : Int) - 1))
  ·rw [if_pos c5] at H
   have c5b0 := eq_true c5
   have c5b1 : decide (1 ≤ (wrap64 ((l1.length : Int) - 1))) = true := decide_eq_true c5
   clear c5
   by_cases c6 : (wrap64 ((l1.length : Int) - 1)) ≤ (l1.length : Int)
   ·rw [if_pos c6] at H
    have c6b0 := eq_true c6
    have HLE := Aside0.mk c6
    have c6b1 : decide ((wrap64 ((l1.length : Int) - 1)) ≤ (l1.length : Int)) = true := decide_eq_true c6
    clear c6
    have H' := Aside0.mk H
    clear H
    have p121 : 0 ≤ (0 : Int) := (by omega)
    have q121 : 0 < (l1.length : Int) := of_decide_eq_true (by first | (with_reducible assumption) | assumption)
    obtain ⟨ad121, e121, hx121_0⟩ := Kd.at_string HR1.out 0 p121 q121
    cases e121
    have qi121 : (0 < l1.length) = True := eq_true (by omega)
    (try rw [show ((0 : Int)).toNat = 0 from rfl] at hx121_0)
    (try rw [Addr.add_zero'] at hx121_0)
    replace p121 := eq_true p121
    replace q121 := eq_true q121
    go_enter Tryz.func63, Tryz.ntmps63
    go_wp2_with (first | ((with_reducible refine gate_callee (f := 82) rfl ?_); refine goesL_ (some 18) rfl rfl Tryz.func82 (by kernel_rfl) rfl #[.string a0, .string (rdOf ByteArray.empty l1 0)] rfl (by (try simp only [List.map_toArray, List.map_cons, List.map_nil]); first | done | rfl | (simp only [List.length_drop, List.length_take]; rfl)) ?_; (with_reducible refine (strings_CutPrefix.calls a0 (rdOf ByteArray.empty l1 0) t122 t123 _ A4.out).mono ?_); rintro e w' ⟨rfl, ⟨nd, rfl⟩⟩; refine ⟨_, rfl, ?_⟩; obtain ⟨i07, hi07, _, hsz7, _⟩ := info_parts info9; obtain ⟨A7, hcut7, hA7, hC7⟩ := print_mid_of (P := Tryz.prog) Value.string (⟨#[]⟩ : ByteArray) 22 9 .i64 .i64 Tryz.underlying22 hi07 hsz7 (some ad121) c1 l1 1 (wrap64 ((l1.length : Int) - 1)) (by omega) (by first | omega | exact of_decide_eq_true (by first | (with_reducible assumption) | assumption)) (of_decide_eq_true (by first | (with_reducible assumption) | assumption)) HC1.out; have HR124 := Aside0.mk (Kd.C_of_reads (h1 := fun _ => rfl) (hA7 _ (Kd.reads_of_C HR1.out))); have HC124 := Aside0.mk hC7; clear hA7 hC7 hi07 hsz7))
    go_loopg [6, 7, 25] k (fun kq v6 v7 v25 w' => ∃ (x6_1 : ByteArray) (x7_1 : Bool) (x25_1 : Int), v6 = .string x6_1 ∧ v7 = .bool x7_1 ∧ v25 = .int .i64 x25_1 ∧ Aside0 (eval_parted.l0 kq l1 (wrap64 ((l1.length : Int) - 1)) x6_1 x7_1 ((l1.take ((wrap64 ((l1.length : Int) - 1)) : Int).toNat).drop 1) (((l1.take ((wrap64 ((l1.length : Int) - 1)) : Int).toNat).drop 1).length : Int) x25_1 = some r) ∧ Aside0 (kq ≤ k) ∧ Drawn0 w w')
    case atStart => exact ⟨(t122), (t123), (0), (by first | rfl | (simp; done) | (simp [*]; done) | (simp [*, i64_w, i32_w, u8_w]; done) | (simp only [bneNil, beqNil]; done) | (simp only [bneNil, beqNil]; simp; done) | (simp only [bneNil, beqNil]; simp [*]; done)), (by first | rfl | (simp; done) | (simp [*]; done) | (simp [*, i64_w, i32_w, u8_w]; done) | (simp only [bneNil, beqNil]; done) | (simp only [bneNil, beqNil]; simp; done) | (simp only [bneNil, beqNil]; simp [*]; done)), (by first | rfl | (simp; done) | (simp [*]; done) | (simp [*, i64_w, i32_w, u8_w]; done) | (simp only [bneNil, beqNil]; done) | (simp only [bneNil, beqNil]; simp; done) | (simp only [bneNil, beqNil]; simp [*]; done)), H', ⟨Nat.le_refl _⟩, by repeat (first | exact Drawn0.refl _ | apply Drawn0.step)⟩
    case round =>
     clear H'
     try clear c1
     try clear p1
     try clear q1
     try clear hx1
     try clear qi1
     try clear p2
     try clear c3
     try clear c3b0
     try clear c3b1
     try clear c5
     try clear c5b0
     try clear c5b1
     try clear c6
     try clear c6b0
     try clear c6b1
     try clear p6
     try clear hx121_0
     try clear p121
     try clear q121
     obtain ⟨x6_1, x7_1, x25_1, rfl, rfl, rfl, HA, HK1, ⟨m1, rfl⟩⟩ := hrel
     cases gk with
     | zero => exact absurd HA.out (by simp [eval_parted.l0])
     | succ k1 =>
      have H := HA.out
      clear HA
      simp only [eval_parted.l0] at H
      by_cases c8 : x25_1 < (((l1.take ((wrap64 ((l1.length : Int) - 1)) : Int).toNat).drop 1).length : Int)
      ·rw [if_pos c8] at H
       have c8b0 : decide (x25_1 < (((l1.take ((wrap64 ((l1.length : Int) - 1)) : Int).toNat).drop 1).length : Int)) = true := decide_eq_true c8
       have c8e0 := c8b0
       rw [show ((l1.take ((wrap64 ((l1.length : Int) - 1)) : Int).toNat).drop 1).length = ((wrap64 ((l1.length : Int) - 1)) : Int).toNat - 1 by rw [List.length_drop, List.length_take]; have := HLE.out; omega] at c8e0
       clear c8
       by_cases c9 : 0 ≤ x25_1
       ·rw [if_pos c9] at H
        have c9b0 : decide (0 ≤ x25_1) = true := decide_eq_true c9
        clear c9
        by_cases c10 : x25_1 < (((l1.take ((wrap64 ((l1.length : Int) - 1)) : Int).toNat).drop 1).length : Int)
        ·rw [if_pos c10] at H
         have c10b0 : decide (x25_1 < (((l1.take ((wrap64 ((l1.length : Int) - 1)) : Int).toNat).drop 1).length : Int)) = true := decide_eq_true c10
         have c10e0 := c10b0
         rw [show ((l1.take ((wrap64 ((l1.length : Int) - 1)) : Int).toNat).drop 1).length = ((wrap64 ((l1.length : Int) - 1)) : Int).toNat - 1 by rw [List.length_drop, List.length_take]; have := HLE.out; omega] at c10e0
         clear c10
         by_cases c11 : x7_1 = true
         ·subst c11
          have H1 : ((strings_Cut.f x6_1 (rdOf ByteArray.empty ((l1.take ((wrap64 ((l1.length : Int) - 1)) : Int).toNat).drop 1) x25_1)).bind fun bt126 => (eval_parted.l0 k1 l1 (wrap64 ((l1.length : Int) - 1)) bt126.2.1 bt126.2.2 ((l1.take ((wrap64 ((l1.length : Int) - 1)) : Int).toNat).drop 1) (((l1.take ((wrap64 ((l1.length : Int) - 1)) : Int).toNat).drop 1).length : Int) (wrap64 (x25_1 + 1)))) = some r := by rw [if_pos rfl] at H; exact H
          clear H
          have H := H1
          clear H1
          replace H := Option.bind_eq_some_iff.mp H
          obtain ⟨⟨t126, t127, t128⟩, A120, H⟩ := H
          replace H : (eval_parted.l0 k1 l1 (wrap64 ((l1.length : Int) - 1)) t127 t128 ((l1.take ((wrap64 ((l1.length : Int) - 1)) : Int).toNat).drop 1) (((l1.take ((wrap64 ((l1.length : Int) - 1)) : Int).toNat).drop 1).length : Int) (wrap64 (x25_1 + 1))) = some r := H
          have A12 := Aside0.mk A120
          clear A120
          have H' := Aside0.mk H
          clear H
          have p125 : 0 ≤ (x25_1 : Int) := of_decide_eq_true (by first | (with_reducible assumption) | assumption)
          have q125 : x25_1 < (((l1.take ((wrap64 ((l1.length : Int) - 1)) : Int).toNat).drop 1).length : Int) := of_decide_eq_true (by first | (with_reducible assumption) | assumption)
          obtain ⟨ad125, e125, hx125_0⟩ := Kd.at_string HR124.out x25_1 p125 q125
          cases e125
          replace p125 := eq_true p125
          replace q125 := eq_true q125
          have q125e := q125
          rw [show ((l1.take ((wrap64 ((l1.length : Int) - 1)) : Int).toNat).drop 1).length = ((wrap64 ((l1.length : Int) - 1)) : Int).toNat - 1 by rw [List.length_drop, List.length_take]; have := HLE.out; omega] at q125e
          have A12t := A12
          rw [List.drop_one] at A12t
          go_wp2_with (first | ((with_reducible refine gate_callee (f := 83) rfl ?_); refine goesL_ (some 33) rfl rfl Tryz.func83 (by kernel_rfl) rfl #[.string x6_1, .string (rdOf ByteArray.empty ((l1.take ((wrap64 ((l1.length : Int) - 1)) : Int).toNat).tail) x25_1)] rfl (by (try simp only [List.map_toArray, List.map_cons, List.map_nil]); first | done | rfl | (simp only [List.length_drop, List.length_take]; rfl)) ?_; (with_reducible refine (strings_Cut.calls x6_1 (rdOf ByteArray.empty ((l1.take ((wrap64 ((l1.length : Int) - 1)) : Int).toNat).tail) x25_1) t126 t127 t128 _ ?side1 A12t.out).mono ?_); (case side1 => first | exact HG.out | exact Gl.drewN HG.out _); rintro e w' ⟨rfl, ⟨nd, rfl⟩⟩; refine ⟨_, rfl, ?_⟩))
          go_roundg k1
          case measure => have := HK1.out; omega
          case rel => exact ⟨(t127), (t128), (wrap64 (x25_1 + 1)), (by first | rfl | (simp; done) | (simp [*]; done) | (simp [*, i64_w, i32_w, u8_w]; done) | (simp only [bneNil, beqNil]; done) | (simp only [bneNil, beqNil]; simp; done) | (simp only [bneNil, beqNil]; simp [*]; done)), (by first | rfl | (simp; done) | (simp [*]; done) | (simp [*, i64_w, i32_w, u8_w]; done) | (simp only [bneNil, beqNil]; done) | (simp only [bneNil, beqNil]; simp; done) | (simp only [bneNil, beqNil]; simp [*]; done)), (by first | rfl | (simp; done) | (simp [*]; done) | (simp [*, i64_w, i32_w, u8_w]; done) | (simp only [bneNil, beqNil]; done) | (simp only [bneNil, beqNil]; simp; done) | (simp only [bneNil, beqNil]; simp [*]; done)), H', ⟨by have := HK1.out; omega⟩, by repeat (first | exact Drawn0.refl _ | apply Drawn0.step)⟩
         ·replace c11 := Bool.eq_false_iff.mpr c11
          subst c11
          have H1 : (eval_parted.l0 k1 l1 (wrap64 ((l1.length : Int) - 1)) x6_1 false ((l1.take ((wrap64 ((l1.length : Int) - 1)) : Int).toNat).drop 1) (((l1.take ((wrap64 ((l1.length : Int) - 1)) : Int).toNat).drop 1).length : Int) (wrap64 (x25_1 + 1))) = some r := by rw [if_neg (show ¬ (false = true) by decide)] at H; exact H
          clear H
          have H := H1
          clear H1
          have H' := Aside0.mk H
          clear H
          have p125 : 0 ≤ (x25_1 : Int) := of_decide_eq_true (by first | (with_reducible assumption) | assumption)
          have q125 : x25_1 < (((l1.take ((wrap64 ((l1.length : Int) - 1)) : Int).toNat).drop 1).length : Int) := of_decide_eq_true (by first | (with_reducible assumption) | assumption)
          obtain ⟨ad125, e125, hx125_0⟩ := Kd.at_string HR124.out x25_1 p125 q125
          cases e125
          replace p125 := eq_true p125
          replace q125 := eq_true q125
          have q125e := q125
          rw [show ((l1.take ((wrap64 ((l1.length : Int) - 1)) : Int).toNat).drop 1).length = ((wrap64 ((l1.length : Int) - 1)) : Int).toNat - 1 by rw [List.length_drop, List.length_take]; have := HLE.out; omega] at q125e
          go_wp2
          go_roundg k1
          case measure => have := HK1.out; omega
          case rel => exact ⟨(x6_1), (false), (wrap64 (x25_1 + 1)), (by first | rfl | (simp; done) | (simp [*]; done) | (simp [*, i64_w, i32_w, u8_w]; done) | (simp only [bneNil, beqNil]; done) | (simp only [bneNil, beqNil]; simp; done) | (simp only [bneNil, beqNil]; simp [*]; done)), (by first | rfl | (simp; done) | (simp [*]; done) | (simp [*, i64_w, i32_w, u8_w]; done) | (simp only [bneNil, beqNil]; done) | (simp only [bneNil, beqNil]; simp; done) | (simp only [bneNil, beqNil]; simp [*]; done)), (by first | rfl | (simp; done) | (simp [*]; done) | (simp [*, i64_w, i32_w, u8_w]; done) | (simp only [bneNil, beqNil]; done) | (simp only [bneNil, beqNil]; simp; done) | (simp only [bneNil, beqNil]; simp [*]; done)), H', ⟨by have := HK1.out; omega⟩, by repeat (first | exact Drawn0.refl _ | apply Drawn0.step)⟩
        ·rw [if_neg c10] at H
         exact absurd H (by simp)
       ·rw [if_neg c9] at H
        exact absurd H (by simp)
      ·rw [if_neg c8] at H
       have c8b0 : decide (x25_1 < (((l1.take ((wrap64 ((l1.length : Int) - 1)) : Int).toNat).drop 1).length : Int)) = false := decide_eq_false c8
       have c8e0 := c8b0
       rw [show ((l1.take ((wrap64 ((l1.length : Int) - 1)) : Int).toNat).drop 1).length = ((wrap64 ((l1.length : Int) - 1)) : Int).toNat - 1 by rw [List.length_drop, List.length_take]; have := HLE.out; omega] at c8e0
       clear c8
       by_cases c13 : x7_1 = true
       ·subst c13
        have H1 : (if 0 ≤ (wrap64 ((l1.length : Int) - 1)) then (if (wrap64 ((l1.length : Int) - 1)) < (l1.length : Int) then ((strings_HasSuffix.f x6_1 (rdOf ByteArray.empty l1 (wrap64 ((l1.length : Int) - 1)))).bind fun t130 => (some t130)) else (none)) else (none)) = some r := by rw [if_pos rfl] at H; exact H
        clear H
        have H := H1
        clear H1
        obtain ⟨ji14, hji14⟩ : ∃ j_ : Int, (wrap64 ((l1.length : Int) - 1)) = j_ := ⟨_, rfl⟩
        replace H : (if 0 ≤ (ji14) then (if (ji14) < (l1.length : Int) then ((strings_HasSuffix.f x6_1 (rdOf ByteArray.empty l1 (ji14))).bind fun t130 => (some t130)) else (none)) else (none)) = some r := by first | (rw [hji14] at H; exact H) | (simp only [hji14] at H ⊢; exact H)
        (try rw [hji14] at c5b0)
        (try rw [hji14] at c5b1)
        (try rw [hji14] at c6b0)
        (try rw [hji14] at c6b1)
        (try rw [hji14] at c8b0)
        (try rw [hji14] at c8e0)
        have hji14w : (IntKind.i64.wrap ((l1.length : Int) - 1)) = ji14 := (i64_w _).trans hji14
        by_cases c15 : 0 ≤ (ji14)
        ·rw [if_pos c15] at H
         have c15b0 : decide (0 ≤ (ji14)) = true := decide_eq_true c15
         clear c15
         by_cases c16 : (ji14) < (l1.length : Int)
         ·rw [if_pos c16] at H
          have c16b0 : decide ((ji14) < (l1.length : Int)) = true := decide_eq_true c16
          clear c16
          replace H := Option.bind_eq_some_iff.mp H
          obtain ⟨t130, A170, H⟩ := H
          replace H : (some t130) = some r := H
          have A17 := Aside0.mk A170
          clear A170
          obtain rfl := Option.some.inj H
          have p129 : 0 ≤ ((ji14) : Int) := of_decide_eq_true (by first | (with_reducible assumption) | assumption)
          have q129 : (ji14) < (l1.length : Int) := of_decide_eq_true (by first | (with_reducible assumption) | assumption)
          obtain ⟨ad129, e129, hx129_0⟩ := Kd.at_string HR1.out (ji14) p129 q129
          obtain rfl : ad121 = ad129 := (by injection e129)
          replace p129 := eq_true p129
          replace q129 := eq_true q129
          go_wp2_with (first | (go_at_call 84; (with_reducible refine (strings_HasSuffix.calls x6_1 (rdOf ByteArray.empty l1 (ji14)) t130 _ A17.out).mono ?_); rintro e w' ⟨rfl, ⟨nd, rfl⟩⟩))
          go_ret
          exact ⟨by first | rfl | (simp; done) | (simp only [← hji14] <;> (first | rfl | simp)) | (simp [*]; done), by repeat (first | exact Drawn0.refl _ | apply Drawn0.step)⟩
         ·rw [if_neg c16] at H
          exact absurd H (by simp)
        ·rw [if_neg c15] at H
         exact absurd H (by simp)
       ·replace c13 := Bool.eq_false_iff.mpr c13
        subst c13
        have H1 : (some false) = some r := by rw [if_neg (show ¬ (false = true) by decide)] at H; exact H
        clear H
        have H := H1
        clear H1
        obtain rfl := Option.some.inj H
        go_wp2
        go_ret
        exact ⟨by first | rfl | (simp; done) | (simp [*]; done) | (simp [*, i64_w, i32_w, u8_w]; done) | (simp only [bneNil, beqNil]; done) | (simp only [bneNil, beqNil]; simp; done) | (simp only [bneNil, beqNil]; simp [*]; done), by repeat (first | exact Drawn0.refl _ | apply Drawn0.step)⟩
   ·rw [if_neg c6] at H
    exact absurd H (by simp)
  ·rw [if_neg c5] at H
   exact absurd H (by simp)
 ·rw [if_neg c3] at H
  exact absurd H (by simp)
end Go.Proofs.YthfpaoacjpjnfaaGreatDoor.P


namespace Go.Proofs.YthfpaoacjpjnfaaGreatDoor.P
open Go.RowKit Go.Proofs.YthfpaoacjpjnfaaGreatDoorW.PrintWords Go.Proofs.YthfpaoacjpjnfaaGreatDoorW.PrintLast Go.Proofs.YthfpaoacjpjnfaaGreatDoorW.PrintMore
set_option linter.unusedVariables false
set_option linter.unusedSimpArgs false
def midGo : List ByteArray → ByteArray → Bool → ByteArray × Bool
  | [], s, b => (s, b)
  | p :: r, s, b => if b = true then midGo r ⟨(Lib.cut s.data.toList p.data.toList).2.1.toArray⟩ (Lib.cut s.data.toList p.data.toList).2.2 else midGo r s b
def endB (l : List ByteArray) (q : ByteArray × Bool) : Bool := q.2 && Lib.hasSuffix q.1.data.toList (rdOf ByteArray.empty l ((l.length - 1 : Nat) : Int)).data.toList
def partedB (s : ByteArray) (l : List ByteArray) : Bool :=
  endB l (midGo ((l.take (l.length - 1)).drop 1) ⟨(Lib.trimPrefix s.data.toList (rdOf ByteArray.empty l 0).data.toList).toArray⟩ (Lib.hasPrefix s.data.toList (rdOf ByteArray.empty l 0).data.toList))
theorem cut_size (s p : List UInt8) : (Lib.cut s p).2.1.length ≤ s.length := by
  unfold Lib.cut
  split
  · show (s.drop _).length ≤ _
    rw [List.length_drop]; omega
  · exact Nat.zero_le _
theorem trim_size (s p : List UInt8) : (Lib.trimPrefix s p).length ≤ s.length := by
  unfold Lib.trimPrefix
  split
  · rw [List.length_drop]; omega
  · exact Nat.le_refl _
theorem ba_size (l : List UInt8) : (⟨l.toArray⟩ : ByteArray).size = l.length := rfl
theorem ba_len (s : ByteArray) : s.data.toList.length = s.size := rfl
theorem rd_drop (m : List ByteArray) (i : Nat) (h : i < m.length) : m.drop i = rdOf ByteArray.empty m (i : Int) :: m.drop (i + 1) := by
  rw [List.drop_eq_getElem_cons h]
  congr 1
  unfold rdOf
  rw [Int.toNat_natCast, List.getD_eq_getElem?_getD, List.getElem?_eq_getElem h]
  rfl
theorem parted_loop (l m : List ByteArray) (h1 : 1 ≤ l.length) (hl : l.length ≤ 1000000000) (hm : m.length ≤ 1000000000) : ∀ (n i : Nat) (s : ByteArray) (b : Bool), m.length - i = n → i ≤ m.length → s.size < 4294967281 →
    Ev (fun k => eval_parted.l0 k l ((l.length - 1 : Nat) : Int) s b m (m.length : Int) (i : Int)) (endB l (midGo (m.drop i) s b)) := by
  intro n
  induction n with
  | zero =>
    intro i s b hn hi hs
    have hd : m.drop i = [] := List.drop_eq_nil_of_le (by omega)
    rw [hd]
    have c1 : ¬ ((i : Int) < (m.length : Int)) := by omega
    cases b with
    | false => exact Ev.step (fun k => by rw [eval_parted.l0]) (Ev.ifn (c := (i : Int) < (m.length : Int)) c1 (Ev.ifn (c := false = true) Bool.false_ne_true (Ev.now false)))
    | true =>
      have e : (strings_HasSuffix.f s (rdOf ByteArray.empty l ((l.length - 1 : Nat) : Int))) = some (endB l (midGo [] s true)) := by
        unfold strings_HasSuffix.f
        rw [if_pos (by omega)]
        rfl
      exact Ev.step (fun k => by rw [eval_parted.l0]) (Ev.ifn (c := (i : Int) < (m.length : Int)) c1 (Ev.ifp (c := true = true) rfl (Ev.ifp (c := 0 ≤ ((l.length - 1 : Nat) : Int)) (by omega) (Ev.ifp (c := ((l.length - 1 : Nat) : Int) < (l.length : Int)) (by omega) (Ev.congr (fun k => by rw [e]; rfl) (Ev.now _))))))
  | succ n ih =>
    intro i s b hn hi hs
    have c1 : (i : Int) < (m.length : Int) := by omega
    have hw : wrap64 ((i : Int) + 1) = ((i + 1 : Nat) : Int) := by unfold wrap64; omega
    rw [rd_drop m i (by omega)]
    cases b with
    | false =>
      have := ih (i + 1) s false (by omega) (by omega) hs
      rw [← hw] at this
      exact Ev.step (fun k => by rw [eval_parted.l0]) (Ev.ifp (c := (i : Int) < (m.length : Int)) c1 (Ev.ifp (c := 0 ≤ (i : Int)) (by omega) (Ev.ifp (c := (i : Int) < (m.length : Int)) c1 (Ev.ifn (c := false = true) Bool.false_ne_true this))))
    | true =>
      have := ih (i + 1) ⟨(Lib.cut s.data.toList (rdOf ByteArray.empty m (i : Int)).data.toList).2.1.toArray⟩ (Lib.cut s.data.toList (rdOf ByteArray.empty m (i : Int)).data.toList).2.2 (by omega) (by omega) (by
        have := cut_size s.data.toList (rdOf ByteArray.empty m (i : Int)).data.toList
        rw [ba_size]; rw [ba_len] at this; omega)
      rw [← hw] at this
      have e : strings_Cut.f s (rdOf ByteArray.empty m (i : Int)) = some (⟨(Lib.cut s.data.toList (rdOf ByteArray.empty m (i : Int)).data.toList).1.toArray⟩, ⟨(Lib.cut s.data.toList (rdOf ByteArray.empty m (i : Int)).data.toList).2.1.toArray⟩, (Lib.cut s.data.toList (rdOf ByteArray.empty m (i : Int)).data.toList).2.2) := by
        unfold strings_Cut.f
        rw [if_pos hs]
      exact Ev.step (fun k => by rw [eval_parted.l0]) (Ev.ifp (c := (i : Int) < (m.length : Int)) c1 (Ev.ifp (c := 0 ≤ (i : Int)) (by omega) (Ev.ifp (c := (i : Int) < (m.length : Int)) c1 (Ev.ifp (c := true = true) rfl (Ev.congr (fun k => by rw [e]; rfl) this)))))
theorem parted_ev (s : ByteArray) (l : List ByteArray) (h2 : 2 ≤ l.length) (hl : l.length ≤ 1000000000) (hs : s.size < 4294967281) : Ev (fun k => eval_parted.f k s l) (partedB s l) := by
  have hw : wrap64 ((l.length : Int) - 1) = ((l.length - 1 : Nat) : Int) := by unfold wrap64; omega
  have hm : ((l.take (l.length - 1)).drop 1).length ≤ 1000000000 := by rw [List.length_drop, List.length_take]; omega
  have := parted_loop l ((l.take (l.length - 1)).drop 1) (by omega) hl hm _ 0 ⟨(Lib.trimPrefix s.data.toList (rdOf ByteArray.empty l 0).data.toList).toArray⟩ (Lib.hasPrefix s.data.toList (rdOf ByteArray.empty l 0).data.toList) rfl (by omega) (by
    have := trim_size s.data.toList (rdOf ByteArray.empty l 0).data.toList
    rw [ba_size]; rw [ba_len] at this; omega)
  rw [List.drop_zero] at this
  unfold eval_parted.f partedB
  rw [hw, Int.toNat_natCast]
  exact Ev.ifp (c := 0 < (l.length : Int)) (by omega) (Ev.congr (fun k => rfl) (Ev.ifp (c := 1 ≤ ((l.length - 1 : Nat) : Int)) (by omega) (Ev.ifp (c := ((l.length - 1 : Nat) : Int) ≤ (l.length : Int)) (by omega) this)))
end Go.Proofs.YthfpaoacjpjnfaaGreatDoor.P

namespace Go.Proofs.YthfpaoacjpjnfaaGreatDoor.P
open Go.RowKit Go.Proofs.YthfpaoacjpjnfaaGreatDoorW.PrintWords Go.Proofs.YthfpaoacjpjnfaaGreatDoorW.PrintLast Go.Proofs.YthfpaoacjpjnfaaGreatDoorW.PrintMore
set_option linter.unusedVariables false
set_option linter.unusedSimpArgs false
theorem eval_lowered.any (a0 : ByteArray) (w : World) (hs : a0.size ≤ 9223372036854775807) :
    Calls Tryz.prog 60 #[.string a0] w fun e w' => e = .returned (.string (lowS a0)) ∧ Below w.heap.size w w' := by
  have hcv := fun W => Lib.run_convert_string_bytes (P := Tryz.prog) W 9 34 5 a0 (u := .string) Tryz.underlying9 Tryz.underlying34 Tryz.underlying5
  go_enter Tryz.func60, Tryz.ntmps60
  go_wp2
  go_loopw [10] (fun i wr => ∃ k : Nat, k ≤ a0.size ∧ i = .int .i64 k ∧ Aside0 (Below w.heap.size w wr) ∧ Aside0 (BRow wr w.heap.size a0.size (lowTo a0 k))) (fun i _ => a0.size - (intOf i).toNat)
  case atStart => exact ⟨0, Nat.zero_le _, rfl, ⟨Lib.bytesWorld_below _ _ _⟩, ⟨by rw [lowTo_zero]; exact brow_conv w a0⟩⟩
  case round =>
    obtain ⟨k, hk, rfl, HB, HR⟩ := hrel
    by_cases hlt : k < a0.size
    · have hc := HR.out.cell k hlt
      have hz := HR.out.free k hlt
      rw [lowTo_here] at hc
      obtain ⟨c, hcc⟩ : ∃ c : Int, ((a0.data.toList.getD k 0).toNat : Int) = c := ⟨_, rfl⟩
      rw [hcc] at hc
      have hcr : 0 ≤ c ∧ c ≤ 255 := by have := (a0.data.toList.getD k 0).toNat_lt; omega
      have hc0 : 0 ≤ c := hcr.1
      have hc1 : c ≤ 255 := hcr.2
      clear hcr
      have HC := Lib.hid hcc
      clear hcc
      by_cases h1 : 65 ≤ c
      · by_cases h2 : c ≤ 90
        · have HL := Lib.hid (lowI_in h1 h2)
          go_wp2
          refine ⟨⟨k + 1, by omega, by go_num, ⟨?_⟩, ⟨?_⟩⟩, by simp [intOf]; omega⟩
          · exact (HB.out).setCell (Nat.le_refl _) _
          · have := lowTo_set HR.out hlt HC.out
            rw [HL.out] at this
            first
            | exact this
            | (rw [show c + 97 - 65 = c + 32 from by omega]; exact this)
            | (rw [show ((c + 97) - 65) % 256 = c + 32 from by omega]; exact this)
            | (rw [show ((c + 97) % 256 - 65) % 256 = c + 32 from by omega]; exact this)
        · have HL := Lib.hid (lowI_out (c := c) (by omega))
          have d2 : decide (c ≤ 90) = false := by simpa using h2
          go_wp2
          refine ⟨⟨k + 1, by omega, by go_num, HB, ⟨lowTo_skip HR.out HC.out HL.out⟩⟩, by simp [intOf]; omega⟩
      · have HL := Lib.hid (lowI_out (c := c) (by omega))
        have d1 : decide (65 ≤ c) = false := by simpa using h1
        go_wp2
        refine ⟨⟨k + 1, by omega, by go_num, HB, ⟨lowTo_skip HR.out HC.out HL.out⟩⟩, by simp [intOf]; omega⟩
    · have hge : ¬ (k : Int) < (a0.size : Int) := by omega
      have hst := fun cap => brow_string (P := Tryz.prog) HR.out cap 34 5 9 Tryz.underlying34 Tryz.underlying5 Tryz.underlying9
      rw [lowTo_all a0 k hlt] at hst
      go_wp2
      go_ret
      exact ⟨rfl, HB.out⟩
end Go.Proofs.YthfpaoacjpjnfaaGreatDoor.P


namespace Go.Proofs.YthfpaoacjpjnfaaGreatDoor.P
open Go.RowKit Go.Proofs.YthfpaoacjpjnfaaGreatDoorW.PrintWords Go.Proofs.YthfpaoacjpjnfaaGreatDoorW.PrintLast Go.Proofs.YthfpaoacjpjnfaaGreatDoorW.PrintMore
set_option linter.unusedVariables false
set_option linter.unusedSimpArgs false
def subB (typ : ByteArray) (l : List ByteArray) (v : ByteArray) : Bool :=
  (encO (normL typ.data.toList v.data.toList)).2 && partedB (encO (normL typ.data.toList v.data.toList)).1 l
set_option maxHeartbeats 2000000 in
set_option maxRecDepth 100000 in
theorem sub_pred (B C : Nat) (v typ : ByteArray) (l : List ByteArray) (A : Option Addr) (c : Nat) (W : World) (hG : Gl W) (hc : W.cell? ⟨B, 1, none⟩ = some (.string typ)) (hd : W.cell? ⟨C, 0, none⟩ = some (.slice A l.length c)) (hv : Kd.C Kd.string W A l.length l) (hlc : l.length ≤ c)
    (h2 : typ.size ≤ 9223372036854775807) (h3 : 2 ≤ l.length) (h4 : l.length ≤ 1000000000) (h5 : (encO (normL typ.data.toList v.data.toList)).1.size < 4294967281) :
    Calls Tryz.prog 62 (#[.string v] ++ #[.pointer (some ⟨B, 0, none⟩), .pointer (some ⟨C, 0, none⟩)]) W fun e w' => e = .returned (.bool (subB typ l v)) ∧ Below W.heap.size W w' := by
  have hu := Tryz.underlying25
  have HG := Aside0.mk hG
  have H2 := Aside0.mk h2
  have HV := Aside0.mk hv
  have HC := Aside0.mk hlc
  obtain ⟨k, hk⟩ := Ev.rounds (parted_ev (encO (normL typ.data.toList v.data.toList)).1 l h3 h4 h5)
  have HK := Aside0.mk hk
  have HS := Aside0.mk (show subB typ l v = ((encO (normL typ.data.toList v.data.toList)).2 && partedB (encO (normL typ.data.toList v.data.toList)).1 l) from rfl)
  obtain ⟨q, hq⟩ : ∃ q, encO (normL typ.data.toList v.data.toList) = q := ⟨_, rfl⟩
  rw [hq] at HK HS
  have HQ := Aside0.mk hq
  clear hG h2 hv hlc hk hq h3 h4 h5
  obtain ⟨q1, q2⟩ := q
  show Calls Tryz.prog 62 #[.string v, .pointer (some ⟨B, 0, none⟩), .pointer (some ⟨C, 0, none⟩)] W _
  cases q2
  · go_enter Tryz.func62, Tryz.ntmps62
    go_wp2_with (go_at_call 39; refine (norm_calls typ v _ HG.out H2.out).mono ?_; rintro e w1 ⟨rfl, hb⟩; rw [HQ.out]; have HB := Aside0.mk hb; clear hb)
    go_ret
    exact ⟨congrArg (fun b => Ending.returned (.bool b)) (by rw [HS.out]; rfl), HB.out⟩
  · go_enter Tryz.func62, Tryz.ntmps62
    go_wp2_with (first | (go_at_call 39; refine (norm_calls typ v _ HG.out H2.out).mono ?_; rintro e w1 ⟨rfl, hb⟩; rw [HQ.out]; have HB := Aside0.mk hb; have hd1 := below_keep1 (W0 := W) hd hb; clear hb hc hd) | (go_at_call 63; refine (eval_parted.calls k q1 A c l (partedB q1 l) _ (Kd.C_below HV.out HB.out) HC.out (HG.out.below HB.out) HK.out).mono ?_; rintro e w2 ⟨rfl, ⟨nq, rfl⟩⟩))
    go_ret
    exact ⟨congrArg (fun b => Ending.returned (.bool b)) (by rw [HS.out]; rfl), pw_below_drewN HB.out nq⟩
structure SubInv (w W : World) (P : Nat) (o1 o2 : Array Value) (v : Value) (xs : List ByteArray) : Prop where
  b1 : W.heap[w.heap.size]? = some (.cells o1 25 (0, 0))
  b2 : W.heap[w.heap.size + 1]? = some (.cells o2 28 (0, 0))
  bp : W.heap[P]? = some (.cells #[v] 22 (0, 0))
  row : Kd.R Kd.string 9 W w.heap.size (fun _ => True) v xs
  bl : Below w.heap.size w W
section
variable {w W W' : World} {P : Nat} {o1 o2 : Array Value} {v : Value} {xs : List ByteArray}
theorem SubInv.below (h : SubInv w W P o1 o2 v xs) (hb : Below W.heap.size W W') : SubInv w W' P o1 o2 v xs :=
  ⟨blk_below h.b1 hb, blk_below h.b2 hb, blk_below h.bp hb, Kd.R_below h.row hb, below_step h.bl hb⟩
theorem SubInv.drew (h : SubInv w W P o1 o2 v xs) : SubInv w W.drew P o1 o2 v xs := h.below (below_drew1 (Below.refl _ _))
theorem SubInv.cellP (h : SubInv w W P o1 o2 v xs) : W.cell? ⟨P, 0, none⟩ = some v := (blk_cell h.bp 0).trans rfl
theorem SubInv.put {W1 : World} {v1 : Value} {p : ByteArray} (h : SubInv w W P o1 o2 v xs) (hr : Kd.R Kd.string 9 W1 w.heap.size (fun _ => True) v1 (xs ++ [p])) (hb : Below w.heap.size w W1) (hg : W.grownBy W1 v.ownBlock) (hP : w.heap.size + 1 < P) : SubInv w (W1.setCell ⟨P, 0, none⟩ v1) P o1 o2 v1 (xs ++ [p]) := by
  have g1 := blk_grown h.b1 hg (Kd.R_ne h.row h.b1 (by decide))
  have g2 := blk_grown h.b2 hg (Kd.R_ne h.row h.b2 (by decide))
  have g3 := blk_grown h.bp hg (Kd.R_ne h.row h.bp (by decide))
  refine ⟨blk_far g1 (by show w.heap.size ≠ P; omega) _, blk_far g2 (by show w.heap.size + 1 ≠ P; omega) _, blk_put g3 0 v1 rfl, Kd.R_set hr g3 (by decide) 0 v1, below_set hb (by omega)⟩
end
theorem vlow_inv {w : World} {P : Nat} {o1 o2 : Array Value} {v : Value} {xs : List ByteArray} (s : ByteArray) (W : World) (hs : s.size ≤ 9223372036854775807) (h : SubInv w W P o1 o2 v xs) :
    Calls Tryz.prog 60 #[.string s] W fun e w' => e = .returned (.string (lowS s)) ∧ w'.cell? ⟨P, 0, none⟩ = some v ∧ SubInv w w' P o1 o2 v xs := by
  refine (eval_lowered.any s W hs).mono ?_
  rintro e w' ⟨rfl, hb⟩
  exact ⟨rfl, (h.below hb).cellP, h.below hb⟩
def subAt (typ : ByteArray) (l vs : List ByteArray) (i : Nat) : Bool := subB typ l (rdOf ByteArray.empty vs (i : Int))
def subOk (typ : ByteArray) (l vs : List ByteArray) : Prop :=
  2 ≤ l.length ∧ l.length ≤ 1000000000 ∧ (∀ i : Nat, i < l.length → (rdOf ByteArray.empty l (i : Int)).size ≤ 9223372036854775807) ∧ vs.length ≤ 1000000000 ∧ ∀ i : Nat, i < vs.length → (encO (normL typ.data.toList (rdOf ByteArray.empty vs (i : Int)).data.toList)).1.size < 4294967281
instance subOk.dec (typ : ByteArray) (l vs : List ByteArray) : Decidable (subOk typ l vs) := by unfold subOk; infer_instance
def eval_sub.f (a0_0 : Int) (a0_1 a0_2 : ByteArray) (l0_3 : List ByteArray) (l0_4 : List S25) (a1_0 : ByteArray) (l1_1 : List S45) : Option Int :=
  if a0_1.size ≤ 9223372036854775807 then (if ruleL a0_1.data.toList ≠ 1 then some 2 else
    (entry_Vals.f a1_0 l1_1 a0_1).bind fun vs => if subOk a0_1 l0_3 vs then some (if someI (subAt a0_1 (l0_3.map lowS) vs) vs.length = true then 1 else 0) else none) else none
set_option maxHeartbeats 4000000 in
set_option maxRecDepth 100000 in
theorem eval_sub.calls (a0_0 : Int) (a0_1 : ByteArray) (a0_2 : ByteArray) (A0_3 : Option Addr) (c0_3 : Nat) (l0_3 : List ByteArray) (A0_4 : Option Addr) (c0_4 : Nat) (l0_4 : List S25) (a1_0 : ByteArray) (A1_1 : Option Addr) (c1_1 : Nat) (l1_1 : List S45) (r : Int) (w : World) (hr0_3 : Kd.C Kd.string w A0_3 l0_3.length l0_3) (hc0_3 : l0_3.length ≤ c0_3) (hr0_4 : Kd.C k25 w A0_4 l0_4.length l0_4) (hc0_4 : l0_4.length ≤ c0_4) (hr1_1 : Kd.C k45 w A1_1 l1_1.length l1_1) (hc1_1 : l1_1.length ≤ c1_1) (hG : Gl w) (h : eval_sub.f a0_0 a0_1 a0_2 l0_3 l0_4 a1_0 l1_1 = some r) :
    Calls Tryz.prog 38 #[.agg #[.int .i64 a0_0, .string a0_1, .string a0_2, .slice A0_3 l0_3.length c0_3, .slice A0_4 l0_4.length c0_4], .agg #[.string a1_0, .slice A1_1 l1_1.length c1_1]] w fun e w' => e = .returned (.int .i64 r) ∧ Below w.heap.size w w' := by
  unfold eval_sub.f at h
  by_cases hs : a0_1.size ≤ 9223372036854775807
  · rw [if_pos hs] at h
    have hu1 := Tryz.underlying25
    have hu2 := Tryz.underlying28
    have eg : ∀ args w, (callFunc 62 args).run Tryz.prog w = .ok (.enter 62 args) w := enters_of Tryz.func62 (by kernel_rfl) rfl
    obtain ⟨rl, hrl⟩ : ∃ x, ruleL a0_1.data.toList = x := ⟨_, rfl⟩
    rw [hrl] at h
    have HS := Aside0.mk hs
    have HR := Aside0.mk hr1_1
    have HC := Aside0.mk hc1_1
    have HP3 := Aside0.mk hr0_3
    have HG := Aside0.mk hG
    have HRL := Aside0.mk hrl
    have HH := Aside0.mk h
    clear hr0_3 hc0_3 hr0_4 hc0_4 hr1_1 hc1_1 hG hs hrl h
    obtain ⟨o1, ho1⟩ : ∃ o : Array Value, #[.int .i64 a0_0, .string a0_1, .string a0_2, .slice A0_3 l0_3.length c0_3, .slice A0_4 l0_4.length c0_4] = o := ⟨_, rfl⟩
    obtain ⟨o2, ho2⟩ : ∃ o : Array Value, #[.string a1_0, .slice A1_1 l1_1.length c1_1] = o := ⟨_, rfl⟩
    have HO1 := Aside0.mk ho1
    have HO2 := Aside0.mk ho2
    clear ho1 ho2
    go_enter Tryz.func38, Tryz.ntmps38
    go_upto_region 1 with (fail)
    obtain ⟨w0, hw0⟩ : ∃ w0, (w.alloc (.cells #[.int .i64 a0_0, .string a0_1, .string a0_2, .slice A0_3 l0_3.length c0_3, .slice A0_4 l0_4.length c0_4] 25)).alloc (.cells #[.string a1_0, .slice A1_1 l1_1.length c1_1] 28) = w0 := ⟨_, rfl⟩
    have k1 : w0.cell? ⟨w.heap.size, 1, none⟩ = some (.string a0_1) := by rw [← hw0]; simp [go_sem]
    have B1 := Aside0.mk (show w0.heap[w.heap.size]? = some (.cells o1 25 (0, 0)) by rw [← hw0, ← HO1.out]; exact blk_alloc (blk_new _ _) _)
    have B2 := Aside0.mk (show w0.heap[w.heap.size + 1]? = some (.cells o2 28 (0, 0)) by rw [← hw0, ← HO2.out]; exact (by have := blk_new (w.alloc (.cells #[.int .i64 a0_0, .string a0_1, .string a0_2, .slice A0_3 l0_3.length c0_3, .slice A0_4 l0_4.length c0_4] 25)) (.cells #[.string a1_0, .slice A1_1 l1_1.length c1_1] 28); simpa using this))
    have kB : Below w.heap.size w w0 := by rw [← hw0]; exact below_alloc (below_alloc (Below.refl _ _) _) _
    have klt : w.heap.size + 1 < w0.heap.size := by rw [← hw0]; simp
    rw [hw0]
    clear hw0
    have KB := Aside0.mk kB
    have KL := Aside0.mk klt
    clear kB klt
    by_cases h1 : rl = 1
    · subst h1
      obtain ⟨vs, hv, h⟩ := Option.bind_eq_some_iff.1 (show (entry_Vals.f a1_0 l1_1 a0_1).bind _ = some r by have := HH.out; rw [if_neg (fun hne => hne rfl)] at this; exact this)
      by_cases hok : subOk a0_1 l0_3 vs
      · rw [if_pos hok] at h
        have hrr := Option.some.inj h
        have HV := Aside0.mk hv
        have HK := Aside0.mk hok
        have HRR := Aside0.mk hrr
        clear HH hv h hok hrr
        go_upto_region 3 with (go_at_call 59; refine (rule_calls a0_1 _ HS.out).mono ?_; rintro e w1 ⟨rfl, hb⟩; rw [HRL.out]; have KB1 := Aside0.mk (below_step KB.out hb); have KL1 := Aside0.mk (Nat.lt_of_lt_of_le KL.out (below_size hb)); have B11 := Aside0.mk (blk_below B1.out hb); have B21 := Aside0.mk (blk_below B2.out hb); clear hb B1 B2 KB KL k1)
        go_upto_region 4 with (fail)
        obtain ⟨w2, hw2⟩ : ∃ w2, w1.alloc (.cells #[.slice none 0 0] 22) = w2 := ⟨_, rfl⟩
        have I2 := Aside0.mk (show SubInv w w2 w1.heap.size o1 o2 (.slice none 0 0) [] by
          rw [← hw2]
          exact ⟨blk_alloc B11.out _, blk_alloc B21.out _, blk_new _ _, Kd.R_nil _ _ _ _ _, below_alloc KB1.out _⟩)
        rw [hw2]
        clear hw2
        obtain ⟨P, hP⟩ : ∃ P, w1.heap.size = P := ⟨_, rfl⟩
        rw [hP] at I2 KL1
        rw [hP]
        clear hP B11 B21 KB1
        have k3 : w2.cell? ⟨w.heap.size, 3, none⟩ = some (.slice A0_3 l0_3.length c0_3) := (blk_cell I2.out.b1 3).trans (by rw [← HO1.out]; rfl)
        go_wp2_with (fail)
        clear k3
        go_loopg [7, 15] l0_3.length (fun gg s7 s15 wr => ∃ (kk : Nat) (v : Value), kk ≤ l0_3.length ∧ l0_3.length - kk ≤ gg ∧ s15 = .int .i64 kk ∧ Aside0 (SubInv w wr P o1 o2 v ((l0_3.take kk).map lowS)))
        case atStart => exact ⟨0, .slice none 0 0, Nat.zero_le _, by omega, rfl, I2⟩
        case round =>
          obtain ⟨kk, v, hkk, hg, rfl, IV⟩ := hrel
          clear I2
          by_cases hlt : kk < l0_3.length
          · have hltz : (kk : Int) < (l0_3.length : Int) := by omega
            obtain ⟨ad, ea, x0⟩ := Kd.at_string (Kd.C_below HP3.out IV.out.bl) (kk : Int) (by omega) (by omega)
            subst ea
            rw [Int.toNat_natCast] at x0
            have hsz := HK.out.2.2.1 kk hlt
            obtain ⟨xs, hxs⟩ : ∃ xs, (l0_3.take kk).map lowS = xs := ⟨_, rfl⟩
            rw [hxs] at IV
            have HXS := Aside0.mk hxs
            clear hxs
            obtain ⟨p, hp⟩ : ∃ p, rdOf ByteArray.empty l0_3 (kk : Int) = p := ⟨_, rfl⟩
            rw [hp] at x0 hsz
            have HPP := Aside0.mk hp
            clear hp
            go_upto_region 7 with (fail)
            have iv := IV.out
            have kP := iv.cellP
            clear IV
            have hPlt := KL1.out
            have hn1 : (xs.length + 1) * 16 ≤ 140737488355328 := by
              have := HK.out.2.1
              rw [← HXS.out, List.length_map, List.length_take]
              omega
            go_region_law (first | (refine Kd.R_append_step Kd.string (w0 := w) w.heap.size (by rfl) (.tmp 19) (.tmp 22) 22 9 (.string ⟨#[]⟩) 16 (by rfl) Tryz.underlying22 info9 rfl (by decide) (by omega) v xs (lowS p) [.string (lowS p)] (fun _ => True) (fun _ => False) (by rfl) (by rfl) (by rfl) (fun _ hk => hk.elim) (fun _ _ => trivial) q2.row q2.bl (below_size q2.bl) hn1 ?_; intro v1 w4 r1 b1 g1 t1; obtain ⟨A4, c4, e4⟩ := Kd.R_slice r1; subst e4; have kP4 : w4.cell? ⟨P, 0, none⟩ = some v := (blk_cell (blk_grown q2.bp g1 (Kd.R_ne q2.row q2.bp (by decide))) 0).trans rfl; have fP4 : w4.frozen? ⟨P, 0, none⟩ = false := blk_frozen (blk_grown q2.bp g1 (Kd.R_ne q2.row q2.bp (by decide))) 0) | (go_simp; go_at_call 60; refine (vlow_inv _ _ hsz (by first | assumption | exact SubInv.drew (by assumption))).mono ?_; rintro e w' ⟨rfl, q1, q2⟩; have kQ : (w'.alloc (.cells #[.string (lowS p)] 9)).cell? ⟨P, 0, none⟩ = some v := (blk_cell (blk_alloc q2.bp _) 0).trans rfl))
            all_goals
              have inv := q2.put r1 b1 g1 hPlt
              rw [show (xs ++ [lowS p]).length = xs.length + 1 by simp] at inv
              have INV := Aside0.mk inv
              clear inv iv kP q1 q2 r1 b1 g1 t1 kP4 fP4 kQ x0
              generalize hW5 : w4.setCell ⟨P, 0, none⟩ (.slice A4 (xs.length + 1) c4) = w5 at INV ⊢
              clear hW5
              go_wp2
              go_roundg (l0_3.length - (kk + 1))
              case measure => omega
              case rel =>
                have hbd := HK.out.2.1
                refine ⟨kk + 1, .slice A4 (xs.length + 1) c4, by omega, by omega, congrArg (Value.int IntKind.i64) (by unfold wrap64; omega), ⟨?_⟩⟩
                have e : (l0_3.take (kk + 1)).map lowS = xs ++ [lowS p] := by
                  rw [← HXS.out, ← HPP.out, List.take_add_one, List.map_append]
                  congr 1
                  unfold rdOf
                  rw [Int.toNat_natCast, List.getD_eq_getElem?_getD, List.getElem?_eq_getElem hlt]
                  rfl
                rw [e]
                exact INV.out
          · have hltz : ¬ (kk : Int) < (l0_3.length : Int) := by omega
            have hkn : kk = l0_3.length := by omega
            subst hkn
            rw [List.take_length] at IV
            clear hlt hkk hg
            obtain ⟨A5, c5, e5⟩ := Kd.R_slice IV.out.row
            subst e5
            obtain ⟨ls, hls⟩ : ∃ ls, l0_3.map lowS = ls := ⟨_, rfl⟩
            rw [hls] at IV
            have HRR2 := Aside0.mk (show (if someI (subAt a0_1 ls vs) vs.length = true then (1 : Int) else 0) = r by rw [← hls]; exact HRR.out)
            have hn3 : 2 ≤ ls.length := by rw [← hls, List.length_map]; exact HK.out.1
            have hn4 : ls.length ≤ 1000000000 := by rw [← hls, List.length_map]; exact HK.out.2.1
            have hlen : l0_3.length = ls.length := by rw [← hls, List.length_map]
            have HLN := Aside0.mk hlen
            clear hls hlen
            have ct : ∀ (W : World) (A : Option Addr) (c : Nat), SubInv w W P o1 o2 (.slice A5 ls.length c5) ls → Kd.string.C W A vs.length vs →
                Calls Tryz.prog 61 #[.slice A vs.length c, .func (.func 62) #[] #[.pointer (some ⟨w.heap.size, 0, none⟩), .pointer (some ⟨P, 0, none⟩)]] W fun e w' => e = .returned (.bool (someI (subAt a0_1 ls vs) vs.length)) ∧ Below W.heap.size W w' := by
              intro W A c hi hvc
              refine contains_string A c vs 62 _ (subAt a0_1 ls vs) W eg hvc (fun i hi2 W' hb' => ?_)
              have iv := hi.below hb'
              have hrd := Kd.R_reads' iv.row
              refine (sub_pred w.heap.size P _ a0_1 ls A5 c5 W' (HG.out.below iv.bl) ((blk_cell iv.b1 1).trans (by rw [← HO1.out]; rfl)) iv.cellP hrd.2.2 hrd.2.1 HS.out hn3 hn4 (HK.out.2.2.2.2 i hi2)).mono ?_
              rintro e w' ⟨rfl, hb2⟩
              exact ⟨rfl, below_step hb' hb2⟩
            obtain ⟨b, hb0⟩ : ∃ b, someI (subAt a0_1 ls vs) vs.length = b := ⟨_, rfl⟩
            rw [hb0] at HRR2
            have CT := Aside0.mk ct
            rw [hb0] at CT
            have HT := Aside0.mk (truth_eq b)
            have hrr := HRR2.out
            subst hrr
            have j1 : wr.cell? ⟨w.heap.size, 1, none⟩ = some (.string a0_1) := (blk_cell IV.out.b1 1).trans (by rw [← HO1.out]; rfl)
            have jD : wr.cell? ⟨w.heap.size + 1, 0, none⟩ = some (.string a1_0) := (blk_cell IV.out.b2 0).trans (by rw [← HO2.out]; rfl)
            have jE : wr.cell? ⟨w.heap.size + 1, 1, none⟩ = some (.slice A1_1 l1_1.length c1_1) := (blk_cell IV.out.b2 1).trans (by rw [← HO2.out]; rfl)
            clear ct eg hb0 hn3 hn4 HRR HRR2
            go_wp2_with (first | (go_at_call 37; refine (entry_Vals.calls a1_0 A1_1 c1_1 l1_1 a0_1 vs _ (Kd.C_below HR.out IV.out.bl) HC.out HV.out).mono ?_; rintro e w2 ⟨v, rfl, ho, hb⟩; obtain ⟨Ao, co, eo⟩ := Kd.R_slice ho; subst eo; have IV2 := Aside0.mk (IV.out.below hb); have HO := Aside0.mk ho; clear hb ho j1 jD jE) | (go_at_call 61; refine (CT.out _ _ _ IV2.out (Kd.R_reads' HO.out).2.2).mono ?_; rintro e w3 ⟨rfl, hb⟩; have KB3 := Aside0.mk (below_step IV2.out.bl hb); clear hb) | (go_at_call 36; refine (eval_truth.calls _ _ _ HT.out).mono ?_; rintro e w4 ⟨rfl, ⟨nq, rfl⟩⟩))
            all_goals (go_ret; exact ⟨by first | rfl | (simp [*]; done), pw_below_drewN KB3.out _⟩)
      · rw [if_neg hok] at h
        cases h
    · have hr2 : (2 : Int) = r := by
        have := HH.out
        rw [if_pos h1] at this
        exact Option.some.inj this
      subst hr2
      have e1 : (rl == 1) = false := beq_eq_false_iff_ne.2 h1
      clear HH h1
      go_wp2_with (go_at_call 59; refine (rule_calls a0_1 _ HS.out).mono ?_; rintro e w1 ⟨rfl, hb⟩; rw [HRL.out]; have KB1 := Aside0.mk (below_step KB.out hb); clear hb)
      go_ret
      exact ⟨rfl, KB1.out⟩
  · rw [if_neg hs] at h
    cases h
end Go.Proofs.YthfpaoacjpjnfaaGreatDoor.P
