/- Part 5 of 6 of the proof. See the last part. -/
import Derived.Test.YtpcjjpkmebgjjaaGreatDoorMMDns2
import Derived.Test.YtpcjjpkmebgjjaaGreatDoorMMDns4
import Derived.Lib.ItoaNum
namespace Go.Proofs.YtpcjjpkmebgjjaaGreatDoor.P
open Go.RowKit Go.Proofs.YtpcjjpkmebgjjaaGreatDoorW.PrintWords Go.Proofs.YtpcjjpkmebgjjaaGreatDoorW.PrintLast Go.Proofs.YtpcjjpkmebgjjaaGreatDoorW.PrintMore
attribute [local go_sem] max2_int min2_int max_two min_two max_three min_three max_four min_four
set_option linter.unusedVariables false
set_option linter.unusedSimpArgs false
def brookref1_MayDn.l0 : Nat → List (S41) → Int → Option (Bool)
 | 0, _, _ => none
 | k + 1, x0, x3 => if x3 < (x0.length : Int) then (if 0 ≤ x3 then ((brookref1_MayType.f k ((rd_T41 x0 x3).f0)).bind fun t213 => (if t213 = true then (if ((rd_T41 x0 x3).f1).toList = ([] : List UInt8) then (some false) else (if (((rd_T41 x0 x3).f1).size : Int) > 100 then (some false) else (brookref1_MayDn.l0 k x0 (wrap64 (x3 + 1))))) else (some false))) else (none)) else (some (decide ((x0.length : Int) ≤ 8)))
def brookref1_MayDn.f (k : Nat) (l0 : List (S41)) : Option (Bool) := brookref1_MayDn.l0 k l0 0
set_option maxHeartbeats 8000000 in
set_option maxRecDepth 100000 in
theorem brookref1_MayDn.calls (k : Nat) (A0 : Option Addr) (c0 : Nat) (l0 : List (S41)) (r : Bool) (w : World) (hr0 : Kd.C k41 w A0 l0.length l0) (hc0 : l0.length ≤ c0) (h : brookref1_MayDn.f k l0 = some r) :
  Calls Tryz.prog 44 #[.slice A0 l0.length c0] w fun e w' => e = .returned (.bool r) ∧ Drawn0 w w' := by
 have HR0 := Aside0.mk hr0
 have HC0 := Aside0.mk hc0
 clear hr0 hc0
 have H : (brookref1_MayDn.l0 k l0 0) = some r := h
 clear h
 have H' := Aside0.mk H
 clear H
 go_enter Tryz.func44, Tryz.ntmps44
 go_wp2
 go_loopg [3] k (fun kq v3 w' => ∃ (x3_1 : Int), v3 = .int .i64 x3_1 ∧ Aside0 (brookref1_MayDn.l0 kq l0 x3_1 = some r) ∧ Aside0 (kq ≤ k) ∧ Drawn0 w w')
 case atStart => exact ⟨(0), (by first | rfl | (simp; done) | (simp [*]; done) | (simp [*, i64_w, i32_w, u8_w]; done) | (simp only [bneNil, beqNil]; done) | (simp only [bneNil, beqNil]; simp; done) | (simp only [bneNil, beqNil]; simp [*]; done)), H', ⟨Nat.le_refl _⟩, by repeat (first | exact Drawn0.refl _ | apply Drawn0.step)⟩
 case round =>
  clear H'
  obtain ⟨x3_1, rfl, HA, HK1, ⟨m1, rfl⟩⟩ := hrel
  cases gk with
  | zero => exact absurd HA.out (by simp [brookref1_MayDn.l0])
  | succ k1 =>
   have H := HA.out
   clear HA
   simp only [brookref1_MayDn.l0] at H
   by_cases c2 : x3_1 < (l0.length : Int)
   ·rw [if_pos c2] at H
    have c2b0 : decide (x3_1 < (l0.length : Int)) = true := decide_eq_true c2
    clear c2
    by_cases c3 : 0 ≤ x3_1
    ·rw [if_pos c3] at H
     have c3b0 : decide (0 ≤ x3_1) = true := decide_eq_true c3
     clear c3
     replace H := Option.bind_eq_some_iff.mp H
     obtain ⟨t213, A40, H⟩ := H
     replace H : (if t213 = true then (if ((rd_T41 l0 x3_1).f1).toList = ([] : List UInt8) then (some false) else (if (((rd_T41 l0 x3_1).f1).size : Int) > 100 then (some false) else (brookref1_MayDn.l0 k1 l0 (wrap64 (x3_1 + 1))))) else (some false)) = some r := H
     have A4 := Aside0.mk A40
     clear A40
     by_cases c5 : t213 = true
     ·subst c5
      have H1 : (if ((rd_T41 l0 x3_1).f1).toList = ([] : List UInt8) then (some false) else (if (((rd_T41 l0 x3_1).f1).size : Int) > 100 then (some false) else (brookref1_MayDn.l0 k1 l0 (wrap64 (x3_1 + 1))))) = some r := by rw [if_pos rfl] at H; exact H
      clear H
      have H := H1
      clear H1
      by_cases c6 : ((rd_T41 l0 x3_1).f1).toList = ([] : List UInt8)
      ·rw [if_pos c6] at H
       have c6b0 : (((rd_T41 l0 x3_1).f1).toList == ([] : List UInt8)) = true := beq_iff_eq.mpr c6
       have c6b1 : (((rd_T41 l0 x3_1).f1).toList != ([] : List UInt8)) = false := bne_eq_false_iff_eq.mpr c6
       clear c6
       obtain rfl := Option.some.inj H
       have p212 : 0 ≤ (x3_1 : Int) := of_decide_eq_true (by first | (with_reducible assumption) | assumption)
       have q212 : x3_1 < (l0.length : Int) := of_decide_eq_true (by first | (with_reducible assumption) | assumption)
       obtain ⟨ad212, e212, hx212_0, hx212_1⟩ := at_T41 HR0.out x3_1 p212 q212
       cases e212
       replace p212 := eq_true p212
       replace q212 := eq_true q212
       go_wp2_with (first | ((with_reducible refine gate_callee (f := 70) rfl ?_); refine goesL_ (some 15) rfl rfl Tryz.func70 (by kernel_rfl) rfl #[.string ((rd_T41 l0 x3_1).f0)] rfl (by (try simp only [List.map_toArray, List.map_cons, List.map_nil]); first | done | rfl | (simp only [List.length_drop, List.length_take]; rfl)) ?_; (with_reducible refine (brookref1_MayType.calls k1 ((rd_T41 l0 x3_1).f0) true _ A4.out).mono ?_); rintro e w' ⟨rfl, ⟨nd, rfl⟩⟩; refine ⟨_, rfl, ?_⟩; have p214 : 0 ≤ (x3_1 : Int) := of_decide_eq_true (by first | (with_reducible assumption) | assumption); have q214 : x3_1 < (l0.length : Int) := of_decide_eq_true (by first | (with_reducible assumption) | assumption); obtain ⟨ad214, e214, hx214_0, hx214_1⟩ := at_T41 HR0.out x3_1 p214 q214; obtain rfl : ad212 = ad214 := (by injection e214); replace p214 := eq_true p214; replace q214 := eq_true q214))
       go_ret
       exact ⟨by first | rfl | (simp; done) | (simp [*]; done) | (simp [*, i64_w, i32_w, u8_w]; done) | (simp only [bneNil, beqNil]; done) | (simp only [bneNil, beqNil]; simp; done) | (simp only [bneNil, beqNil]; simp [*]; done), by repeat (first | exact Drawn0.refl _ | apply Drawn0.step)⟩
      ·rw [if_neg c6] at H
       have c6b0 : (((rd_T41 l0 x3_1).f1).toList == ([] : List UInt8)) = false := beq_eq_false_iff_ne.mpr c6
       have c6b1 : (((rd_T41 l0 x3_1).f1).toList != ([] : List UInt8)) = true := bne_iff_ne.mpr c6
       by_cases c7 : (((rd_T41 l0 x3_1).f1).size : Int) > 100
       ·rw [if_pos c7] at H
        have c7b0 : decide (100 < (((rd_T41 l0 x3_1).f1).size : Int)) = true := decide_eq_true c7
        have c7b1 : decide (100 < ((rd_T41 l0 x3_1).f1).size) = true := decide_eq_true (by omega)
        clear c7
        obtain rfl := Option.some.inj H
        have p212 : 0 ≤ (x3_1 : Int) := of_decide_eq_true (by first | (with_reducible assumption) | assumption)
        have q212 : x3_1 < (l0.length : Int) := of_decide_eq_true (by first | (with_reducible assumption) | assumption)
        obtain ⟨ad212, e212, hx212_0, hx212_1⟩ := at_T41 HR0.out x3_1 p212 q212
        cases e212
        replace p212 := eq_true p212
        replace q212 := eq_true q212
        go_wp2_with (first | ((with_reducible refine gate_callee (f := 70) rfl ?_); refine goesL_ (some 15) rfl rfl Tryz.func70 (by kernel_rfl) rfl #[.string ((rd_T41 l0 x3_1).f0)] rfl (by (try simp only [List.map_toArray, List.map_cons, List.map_nil]); first | done | rfl | (simp only [List.length_drop, List.length_take]; rfl)) ?_; (with_reducible refine (brookref1_MayType.calls k1 ((rd_T41 l0 x3_1).f0) true _ A4.out).mono ?_); rintro e w' ⟨rfl, ⟨nd, rfl⟩⟩; refine ⟨_, rfl, ?_⟩; have p214 : 0 ≤ (x3_1 : Int) := of_decide_eq_true (by first | (with_reducible assumption) | assumption); have q214 : x3_1 < (l0.length : Int) := of_decide_eq_true (by first | (with_reducible assumption) | assumption); obtain ⟨ad214, e214, hx214_0, hx214_1⟩ := at_T41 HR0.out x3_1 p214 q214; obtain rfl : ad212 = ad214 := (by injection e214); replace p214 := eq_true p214; replace q214 := eq_true q214; have p215 : 0 ≤ (x3_1 : Int) := of_decide_eq_true (by first | (with_reducible assumption) | assumption); have q215 : x3_1 < (l0.length : Int) := of_decide_eq_true (by first | (with_reducible assumption) | assumption); obtain ⟨ad215, e215, hx215_0, hx215_1⟩ := at_T41 HR0.out x3_1 p215 q215; obtain rfl : ad212 = ad215 := (by injection e215); replace p215 := eq_true p215; replace q215 := eq_true q215))
        go_ret
        exact ⟨by first | rfl | (simp; done) | (simp [*]; done) | (simp [*, i64_w, i32_w, u8_w]; done) | (simp only [bneNil, beqNil]; done) | (simp only [bneNil, beqNil]; simp; done) | (simp only [bneNil, beqNil]; simp [*]; done), by repeat (first | exact Drawn0.refl _ | apply Drawn0.step)⟩
       ·rw [if_neg c7] at H
        have c7b0 : decide (100 < (((rd_T41 l0 x3_1).f1).size : Int)) = false := decide_eq_false c7
        have c7b1 : decide (100 < ((rd_T41 l0 x3_1).f1).size) = false := decide_eq_false (by omega)
        clear c7
        have H' := Aside0.mk H
        clear H
        have p212 : 0 ≤ (x3_1 : Int) := of_decide_eq_true (by first | (with_reducible assumption) | assumption)
        have q212 : x3_1 < (l0.length : Int) := of_decide_eq_true (by first | (with_reducible assumption) | assumption)
        obtain ⟨ad212, e212, hx212_0, hx212_1⟩ := at_T41 HR0.out x3_1 p212 q212
        cases e212
        replace p212 := eq_true p212
        replace q212 := eq_true q212
        go_wp2_with (first | ((with_reducible refine gate_callee (f := 70) rfl ?_); refine goesL_ (some 15) rfl rfl Tryz.func70 (by kernel_rfl) rfl #[.string ((rd_T41 l0 x3_1).f0)] rfl (by (try simp only [List.map_toArray, List.map_cons, List.map_nil]); first | done | rfl | (simp only [List.length_drop, List.length_take]; rfl)) ?_; (with_reducible refine (brookref1_MayType.calls k1 ((rd_T41 l0 x3_1).f0) true _ A4.out).mono ?_); rintro e w' ⟨rfl, ⟨nd, rfl⟩⟩; refine ⟨_, rfl, ?_⟩; have p214 : 0 ≤ (x3_1 : Int) := of_decide_eq_true (by first | (with_reducible assumption) | assumption); have q214 : x3_1 < (l0.length : Int) := of_decide_eq_true (by first | (with_reducible assumption) | assumption); obtain ⟨ad214, e214, hx214_0, hx214_1⟩ := at_T41 HR0.out x3_1 p214 q214; obtain rfl : ad212 = ad214 := (by injection e214); replace p214 := eq_true p214; replace q214 := eq_true q214; have p215 : 0 ≤ (x3_1 : Int) := of_decide_eq_true (by first | (with_reducible assumption) | assumption); have q215 : x3_1 < (l0.length : Int) := of_decide_eq_true (by first | (with_reducible assumption) | assumption); obtain ⟨ad215, e215, hx215_0, hx215_1⟩ := at_T41 HR0.out x3_1 p215 q215; obtain rfl : ad212 = ad215 := (by injection e215); replace p215 := eq_true p215; replace q215 := eq_true q215))
        go_roundg k1
        case measure => have := HK1.out; omega
        case rel => exact ⟨(wrap64 (x3_1 + 1)), (by first | rfl | (simp; done) | (simp [*]; done) | (simp [*, i64_w, i32_w, u8_w]; done) | (simp only [bneNil, beqNil]; done) | (simp only [bneNil, beqNil]; simp; done) | (simp only [bneNil, beqNil]; simp [*]; done)), H', ⟨by have := HK1.out; omega⟩, by repeat (first | exact Drawn0.refl _ | apply Drawn0.step)⟩
     ·replace c5 := Bool.eq_false_iff.mpr c5
      subst c5
      have H1 : (some false) = some r := by rw [if_neg (show ¬ (false = true) by decide)] at H; exact H
      clear H
      have H := H1
      clear H1
      obtain rfl := Option.some.inj H
      have p212 : 0 ≤ (x3_1 : Int) := of_decide_eq_true (by first | (with_reducible assumption) | assumption)
      have q212 : x3_1 < (l0.length : Int) := of_decide_eq_true (by first | (with_reducible assumption) | assumption)
      obtain ⟨ad212, e212, hx212_0, hx212_1⟩ := at_T41 HR0.out x3_1 p212 q212
      cases e212
      replace p212 := eq_true p212
      replace q212 := eq_true q212
      go_wp2_with (first | ((with_reducible refine gate_callee (f := 70) rfl ?_); refine goesL_ (some 15) rfl rfl Tryz.func70 (by kernel_rfl) rfl #[.string ((rd_T41 l0 x3_1).f0)] rfl (by (try simp only [List.map_toArray, List.map_cons, List.map_nil]); first | done | rfl | (simp only [List.length_drop, List.length_take]; rfl)) ?_; (with_reducible refine (brookref1_MayType.calls k1 ((rd_T41 l0 x3_1).f0) false _ A4.out).mono ?_); rintro e w' ⟨rfl, ⟨nd, rfl⟩⟩; refine ⟨_, rfl, ?_⟩))
      go_ret
      exact ⟨by first | rfl | (simp; done) | (simp [*]; done) | (simp [*, i64_w, i32_w, u8_w]; done) | (simp only [bneNil, beqNil]; done) | (simp only [bneNil, beqNil]; simp; done) | (simp only [bneNil, beqNil]; simp [*]; done), by repeat (first | exact Drawn0.refl _ | apply Drawn0.step)⟩
    ·rw [if_neg c3] at H
     exact absurd H (by simp)
   ·rw [if_neg c2] at H
    have c2b0 : decide (x3_1 < (l0.length : Int)) = false := decide_eq_false c2
    clear c2
    obtain rfl := Option.some.inj H
    go_wp2
    go_ret
    exact ⟨by first | rfl | (simp; done) | (simp [*]; done) | (simp [*, i64_w, i32_w, u8_w]; done) | (simp only [bneNil, beqNil]; done) | (simp only [bneNil, beqNil]; simp; done) | (simp only [bneNil, beqNil]; simp [*]; done), by repeat (first | exact Drawn0.refl _ | apply Drawn0.step)⟩
end Go.Proofs.YtpcjjpkmebgjjaaGreatDoor.P

namespace Go.Proofs.YtpcjjpkmebgjjaaGreatDoor.P
open Go.RowKit Go.Proofs.YtpcjjpkmebgjjaaGreatDoorW.PrintWords Go.Proofs.YtpcjjpkmebgjjaaGreatDoorW.PrintLast Go.Proofs.YtpcjjpkmebgjjaaGreatDoorW.PrintMore
attribute [local go_sem] max2_int min2_int max_two min_two max_three min_three max_four min_four
set_option linter.unusedVariables false
set_option linter.unusedSimpArgs false
mutual
def brookref1_ParseDn.l0 : Nat → List (S41) → List ByteArray → Int → Option ((List (S41)) × Bool)
 | 0, _, _, _ => none
 | k + 1, x3, x4, x5 => if x5 < (x4.length : Int) then (brookref1_ParseDn.l1 k x3 x4 x5 0) else ((brookref1_MayDn.f k x3).bind fun t220 => (if t220 = true then (some (x3, true)) else (some (([] : List (S41)), false))))
def brookref1_ParseDn.j2 : Nat → List (S41) → List ByteArray → Int → Int → Option ((List (S41)) × Bool)
 | 0, _, _, _, _ => none
 | k + 1, x3, x4, x5, x6 => if 0 ≤ x5 then (if x5 < (x4.length : Int) then (if x6 = ((rdOf ByteArray.empty x4 x5).size : Int) then (some (([] : List (S41)), false)) else (if 0 ≤ (wrap64 (x6 + 1)) then (if (wrap64 (x6 + 1)) ≤ ((rdOf ByteArray.empty x4 x5).size : Int) then ((brookref1_value.f k ((rdOf ByteArray.empty x4 x5).extract ((wrap64 (x6 + 1)) : Int).toNat (rdOf ByteArray.empty x4 x5).size)).bind fun bt225 => (if bt225.2 = true then (if 0 ≤ x6 then (if x6 ≤ ((rdOf ByteArray.empty x4 x5).size : Int) then (if x3.length < 4398046511104 then (brookref1_ParseDn.l0 k (x3 ++ [(⟨(rdOf ByteArray.empty x4 x5).extract 0 (x6 : Int).toNat, bt225.1⟩ : S41)]) x4 (wrap64 (x5 + 1))) else (none)) else (none)) else (none)) else (some (([] : List (S41)), false)))) else (none)) else (none))) else (none)) else (none)
def brookref1_ParseDn.l1 : Nat → List (S41) → List ByteArray → Int → Int → Option ((List (S41)) × Bool)
 | 0, _, _, _, _ => none
 | k + 1, x3, x4, x5, x6 => if 0 ≤ x5 then (if x5 < (x4.length : Int) then (if x6 < ((rdOf ByteArray.empty x4 x5).size : Int) then (if 0 ≤ x6 then (if (bt (rdOf ByteArray.empty x4 x5) x6) = 61 then (brookref1_ParseDn.j2 k x3 x4 x5 x6) else (brookref1_ParseDn.l1 k x3 x4 x5 (wrap64 (x6 + 1)))) else (none)) else (brookref1_ParseDn.j2 k x3 x4 x5 x6)) else (none)) else (none)
end
def brookref1_ParseDn.f (k : Nat) (a0 : ByteArray) : Option ((List (S41)) × Bool) := if a0.toList = ([] : List UInt8) then (some (([] : List (S41)), true)) else ((brookref1_cut.f k a0).bind fun t217 => (brookref1_ParseDn.l0 k ([] : List (S41)) t217 0))
set_option maxHeartbeats 8000000 in
set_option maxRecDepth 100000 in
theorem brookref1_ParseDn.calls (k : Nat) (a0 : ByteArray) (r1 : List (S41)) (r2 : Bool) (w : World) (h : brookref1_ParseDn.f k a0 = some (r1, r2)) :
  Calls Tryz.prog 30 #[.string a0] w fun e w' => ∃ v0_ : Value, e = .returned (.agg #[v0_, .bool r2]) ∧ Kd.R k41 41 w' w.heap.size (fun _ => True) v0_ r1 ∧ Below w.heap.size w w' := by
 have hu56 := Tryz.underlying56
 have hu41 := Tryz.underlying41
 have HB := Aside0.mk (Below.refl w.heap.size w)
 have H : (if a0.toList = ([] : List UInt8) then (some (([] : List (S41)), true)) else ((brookref1_cut.f k a0).bind fun t217 => (brookref1_ParseDn.l0 k ([] : List (S41)) t217 0))) = some (r1, r2) := h
 clear h
 by_cases c2 : a0.toList = ([] : List UInt8)
 ·rw [if_pos c2] at H
  have c2b0 : (a0.toList == ([] : List UInt8)) = true := beq_iff_eq.mpr c2
  have c2b1 : (a0.toList != ([] : List UInt8)) = false := bne_eq_false_iff_eq.mpr c2
  clear c2
  simp only [Option.some.injEq, Prod.mk.injEq] at H
  obtain ⟨rfl, rfl⟩ := H
  go_enter Tryz.func30, Tryz.ntmps30
  go_wp2_with (first | ((with_reducible refine gate_dst (N := 2) rfl ?_); refine box_event ?hg (N := 2) ?hd (cs := #[.slice none 0 0, .bool false]) (t := 56) ?hr ?_; (case hd => rfl); (case hg => rfl); (case hr => first | (go_simp; done) | (go_simp; rfl)); intro gb216 hg w3 hbox hb; have n0_ := Aside0.mk (below_step (by repeat (first | (with_reducible first | exact HB.out | apply below_alloc | apply pw_below_drewN | apply below_drew1) | exact HB.out)) hb); have n1_ := Aside0.mk (hbox); have n2_ := Aside0.mk ((by rw [hg]; exact (below_size (by repeat (first | (with_reducible first | exact HB.out | apply below_alloc | apply pw_below_drewN | apply below_drew1) | exact HB.out))) : w.heap.size ≤ gb216)); have n3_ := Aside0.mk ((by rw [hg]; exact (below_size (by repeat (first | (with_reducible first | exact HB.out | apply below_alloc | apply pw_below_drewN | apply below_drew1) | exact HB.out))) : w.heap.size ≤ gb216)); clear HB; have HB := n0_; have BK216 := n1_; have GW216 := n2_; have GE216 := n3_; clear n0_ n1_ n2_ n3_; clear hb hbox hg; have hcz4_0 : w3.cell? ⟨gb216, 0, none⟩ = some (.slice none 0 0) := (blk_cell BK216.out 0).trans rfl; have hcz4_1 : w3.cell? ⟨gb216, 1, none⟩ = some (.bool false) := (blk_cell BK216.out 1).trans rfl; have hfz4_0 := blk_frozen BK216.out 0; have hfz4_1 := blk_frozen BK216.out 1))
  refine bodyPost_ret (results_cell_row rfl _ _ gb216 56 #[.slice none 0 0, .bool true] (0, 0) _ rfl (by (with_reducible repeat (first | refine blk_drewN ?_ _ | refine blk_drew ?_ | refine blk_alloc ?_ _)); refine blk_put (cs := #[.slice none 0 0, .bool false]) ?_ 1 _ (by first | rfl | (simp only [bneNil, beqNil]; rfl) | simp [bneNil, beqNil]); (with_reducible repeat (first | refine blk_drewN ?_ _ | refine blk_drew ?_ | refine blk_alloc ?_ _)); refine blk_put (cs := #[.slice none 0 0, .bool false]) ?_ 0 _ (by first | rfl | (simp only [bneNil, beqNil]; rfl) | simp [bneNil, beqNil]); (with_reducible repeat (first | refine blk_drewN ?_ _ | refine blk_drew ?_ | refine blk_alloc ?_ _)); exact BK216.out) Tryz.underlying56 rfl (by kernel_rfl)) rfl ?_
  exact ⟨_, by first | rfl | (simp [errW_none, errW_some] <;> rfl) | (simp [*, errW_none, errW_some] <;> rfl), by first | exact Kd.R_nil _ _ _ _ _ | exact Kd.N_nil _ _ _ _ _ | exact Kd.V_nil _ _ _ _ _ | exact Kd.Q_nil _ _ _ _ _ | exact Kd.S_nil _ _ _ _ _, by repeat (first | (with_reducible first | exact HB.out | apply below_alloc | apply pw_below_drewN | apply below_drew1 | refine below_set ?_ GE216.out) | exact HB.out)⟩
 ·rw [if_neg c2] at H
  have c2b0 : (a0.toList == ([] : List UInt8)) = false := beq_eq_false_iff_ne.mpr c2
  have c2b1 : (a0.toList != ([] : List UInt8)) = true := bne_iff_ne.mpr c2
  replace H := Option.bind_eq_some_iff.mp H
  obtain ⟨t217, A50, H⟩ := H
  replace H : (brookref1_ParseDn.l0 k ([] : List (S41)) t217 0) = some (r1, r2) := H
  have A5 := Aside0.mk A50
  clear A50
  have H' := Aside0.mk H
  clear H
  go_enter Tryz.func30, Tryz.ntmps30
  go_wp2_with (first | ((with_reducible refine gate_dst (N := 2) rfl ?_); refine box_event ?hg (N := 2) ?hd (cs := #[.slice none 0 0, .bool false]) (t := 56) ?hr ?_; (case hd => rfl); (case hg => rfl); (case hr => first | (go_simp; done) | (go_simp; rfl)); intro gb216 hg w6 hbox hb; have n0_ := Aside0.mk (below_step (by repeat (first | (with_reducible first | exact HB.out | apply below_alloc | apply pw_below_drewN | apply below_drew1) | exact HB.out)) hb); have n1_ := Aside0.mk (hbox); have n2_ := Aside0.mk ((by rw [hg]; exact (below_size (by repeat (first | (with_reducible first | exact HB.out | apply below_alloc | apply pw_below_drewN | apply below_drew1) | exact HB.out))) : w.heap.size ≤ gb216)); have n3_ := Aside0.mk ((by rw [hg]; exact (below_size (by repeat (first | (with_reducible first | exact HB.out | apply below_alloc | apply pw_below_drewN | apply below_drew1) | exact HB.out))) : w.heap.size ≤ gb216)); clear HB; have HB := n0_; have BK216 := n1_; have GW216 := n2_; have GE216 := n3_; clear n0_ n1_ n2_ n3_; clear hb hbox hg) | ((with_reducible refine gate_callee (f := 42) rfl ?_); refine goesL_ (some 13) rfl rfl Tryz.func42 (by kernel_rfl) rfl #[.string a0] rfl (by (try simp only [List.map_toArray, List.map_cons, List.map_nil]); first | done | rfl | (simp only [List.length_drop, List.length_take]; rfl)) ?_; (with_reducible refine (brookref1_cut.calls k a0 t217 _ A5.out).mono ?_); rintro e w7 ⟨v218, rfl, ho0, hb⟩; refine ⟨_, rfl, ?_⟩; have n0_ := Aside0.mk (Kd.R_lower ho0 (below_size (by repeat (first | (with_reducible first | exact HB.out | apply below_alloc | apply pw_below_drewN | apply below_drew1 | refine below_set ?_ GE216.out) | exact HB.out)))); have n1_ := Aside0.mk (blk_below (g := gb216) (o := .cells #[.slice none 0 0, .bool false] 56 (0, 0)) (by (with_reducible repeat (first | refine blk_drewN ?_ _ | refine blk_drew ?_ | refine blk_alloc ?_ _)); exact BK216.out) hb); have n2_ := Aside0.mk (below_step (by repeat (first | (with_reducible first | exact HB.out | apply below_alloc | apply pw_below_drewN | apply below_drew1 | refine below_set ?_ GE216.out) | exact HB.out)) hb); clear BK216; clear HB; have HO219 := n0_; have BK216 := n1_; have HB := n2_; clear n0_ n1_ n2_; (try clear hb); (try clear hb2); (try clear hk); (try clear hi); (try clear ho0)))
  go_loopg [3, 5] k (fun kq v3 v5 w' => ∃ (x3_1 : List (S41)) (x5_1 : Int) (x217001_1 : Bool), v5 = .int .i64 x5_1 ∧ Aside0 (brookref1_ParseDn.l0 kq x3_1 t217 x5_1 = some (r1, r2)) ∧ Aside0 (kq ≤ k) ∧ Aside0 (Kd.R k41 41 w' w.heap.size (fun _ => True) v3 x3_1) ∧ Aside0 (Kd.R Kd.string 9 w' w.heap.size (fun _ => True) v218 t217) ∧ Aside0 (w'.heap[gb216]? = some (.cells #[(.slice none 0 0), .bool x217001_1] 56 (0, 0))) ∧ Aside0 (Below w.heap.size w w'))
  case atStart => exact ⟨(([] : List (S41))), (0), (false), (by first | rfl | (simp; done) | (simp [*]; done) | (simp [*, i64_w, i32_w, u8_w]; done) | (simp only [bneNil, beqNil]; done) | (simp only [bneNil, beqNil]; simp; done) | (simp only [bneNil, beqNil]; simp [*]; done)), H', ⟨Nat.le_refl _⟩, ⟨by first | exact Kd.R_nil _ _ _ _ _ | exact Kd.N_nil _ _ _ _ _ | exact Kd.V_nil _ _ _ _ _ | exact Kd.Q_nil _ _ _ _ _ | exact Kd.S_nil _ _ _ _ _⟩, ⟨by (with_reducible repeat (first | apply Kd.R_alloc | apply Kd.R_drewN | apply Kd.R_drew)); exact HO219.out⟩, ⟨by (with_reducible repeat (first | refine blk_drewN ?_ _ | refine blk_drew ?_ | refine blk_alloc ?_ _)); exact BK216.out⟩, ⟨by repeat (first | (with_reducible first | exact HB.out | apply below_alloc | apply pw_below_drewN | apply below_drew1 | refine below_set ?_ GE216.out) | exact HB.out)⟩⟩
  case round =>
   clear H'
   try clear c2
   try clear c2b0
   try clear c2b1
   try clear p2
   try clear c3
   try clear c4
   try clear hcz4_0
   try clear hcz4_1
   try clear hfz4_0
   try clear hfz4_1
   obtain ⟨x3_1, x5_1, x217001_1, rfl, HA, HK1, HO_3, HO_4, BK216, HB⟩ := hrel
   cases gk with
   | zero => exact absurd HA.out (by simp [brookref1_ParseDn.l0])
   | succ k1 =>
    have H := HA.out
    clear HA
    simp only [brookref1_ParseDn.l0] at H
    by_cases c8 : x5_1 < (t217.length : Int)
    ·rw [if_pos c8] at H
     have c8b0 : decide (x5_1 < (t217.length : Int)) = true := decide_eq_true c8
     clear c8
     have HC9 := Aside0.mk H
     clear H
     obtain ⟨Ao10, co10, eo10⟩ := Kd.R_slice HO_4.out
     subst eo10
     go_upto_block 2 with (fail)
     go_cut [6] (fun v6 wc => ∃ (kq : Nat) (x6_8 : Int), v6 = .int .i64 x6_8 ∧ Aside0 (brookref1_ParseDn.j2 kq x3_1 t217 x5_1 x6_8 = some (r1, r2)) ∧ Aside0 (kq ≤ k1) ∧ Aside0 (Kd.R k41 41 wc w.heap.size (fun _ => True) u3 x3_1) ∧ Aside0 (Kd.R Kd.string 9 wc w.heap.size (fun _ => True) (.slice Ao10 t217.length co10) t217) ∧ Aside0 (wc.heap[gb216]? = some (.cells #[(.slice none 0 0), .bool x217001_1] 56 (0, 0))) ∧ Aside0 (Below w.heap.size w wc))
     case first =>
      have H := HC9.out
      clear HC9
      have H' := Aside0.mk H
      clear H
      go_wp2
      go_loopg [6] k1 (fun kq v6 w' => ∃ (x6_2 : Int), v6 = .int .i64 x6_2 ∧ Aside0 (brookref1_ParseDn.l1 kq x3_1 t217 x5_1 x6_2 = some (r1, r2)) ∧ Aside0 (kq ≤ k1) ∧ Aside0 (Kd.R k41 41 w' w.heap.size (fun _ => True) u3 x3_1) ∧ Aside0 (Kd.R Kd.string 9 w' w.heap.size (fun _ => True) (.slice Ao10 t217.length co10) t217) ∧ Aside0 (w'.heap[gb216]? = some (.cells #[(.slice none 0 0), .bool x217001_1] 56 (0, 0))) ∧ Aside0 (Below w.heap.size w w'))
      case atStart => exact ⟨(0), (by first | rfl | (simp; done) | (simp [*]; done) | (simp [*, i64_w, i32_w, u8_w]; done) | (simp only [bneNil, beqNil]; done) | (simp only [bneNil, beqNil]; simp; done) | (simp only [bneNil, beqNil]; simp [*]; done)), H', ⟨Nat.le_refl _⟩, ⟨by (with_reducible repeat (first | apply Kd.R_alloc | apply Kd.R_drewN | apply Kd.R_drew)); exact HO_3.out⟩, ⟨by (with_reducible repeat (first | apply Kd.R_alloc | apply Kd.R_drewN | apply Kd.R_drew)); exact HO_4.out⟩, ⟨by (with_reducible repeat (first | refine blk_drewN ?_ _ | refine blk_drew ?_ | refine blk_alloc ?_ _)); exact BK216.out⟩, ⟨by repeat (first | (with_reducible first | exact HB.out | apply below_alloc | apply pw_below_drewN | apply below_drew1 | refine below_set ?_ GE216.out) | exact HB.out)⟩⟩
      case round =>
       clear H'
       try clear c2
       try clear c2b0
       try clear c2b1
       try clear p2
       try clear c3
       try clear c4
       try clear c8
       try clear c8b0
       try clear hcz4_0
       try clear hcz4_1
       try clear hfz4_0
       try clear hfz4_1
       try clear p2
       obtain ⟨x6_2, rfl, HA, HK2, HO_3, HO_4, BK216, HB⟩ := hrel
       cases gk with
       | zero => exact absurd HA.out (by simp [brookref1_ParseDn.l1])
       | succ k2 =>
        have H := HA.out
        clear HA
        simp only [brookref1_ParseDn.l1] at H
        by_cases c11 : 0 ≤ x5_1
        ·rw [if_pos c11] at H
         have c11b0 : decide (0 ≤ x5_1) = true := decide_eq_true c11
         clear c11
         (first | rw [c11b0] | (simp only [i64_w, i32_w]; rw [c11b0]) | skip)
         by_cases c12 : x5_1 < (t217.length : Int)
         ·rw [if_pos c12] at H
          have c12b0 : decide (x5_1 < (t217.length : Int)) = true := decide_eq_true c12
          clear c12
          by_cases c13 : x6_2 < ((rdOf ByteArray.empty t217 x5_1).size : Int)
          ·rw [if_pos c13] at H
           have c13b0 : decide (x6_2 < ((rdOf ByteArray.empty t217 x5_1).size : Int)) = true := decide_eq_true c13
           clear c13
           by_cases c14 : 0 ≤ x6_2
           ·rw [if_pos c14] at H
            have c14b0 : decide (0 ≤ x6_2) = true := decide_eq_true c14
            clear c14
            by_cases c16 : (bt (rdOf ByteArray.empty t217 x5_1) x6_2) = 61
            ·rw [if_pos c16] at H
             have c16b0 : ((bt (rdOf ByteArray.empty t217 x5_1) x6_2) == 61) = true := beq_iff_eq.mpr c16
             have c16b1 : ((bt (rdOf ByteArray.empty t217 x5_1) x6_2) != 61) = false := bne_eq_false_iff_eq.mpr c16
             clear c16
             have H' := Aside0.mk H
             clear H
             have p221 : 0 ≤ (x5_1 : Int) := of_decide_eq_true (by first | (with_reducible assumption) | assumption)
             have q221 : x5_1 < (t217.length : Int) := of_decide_eq_true (by first | (with_reducible assumption) | assumption)
             obtain ⟨ad221, e221, hx221_0⟩ := Kd.at_string (Kd.R_reads' HO_4.out).2.2 x5_1 p221 q221
             cases e221
             replace p221 := eq_true p221
             replace q221 := eq_true q221
             have p222 : 0 ≤ (x5_1 : Int) := of_decide_eq_true (by first | (with_reducible assumption) | assumption)
             have q222 : x5_1 < (t217.length : Int) := of_decide_eq_true (by first | (with_reducible assumption) | assumption)
             obtain ⟨ad222, e222, hx222_0⟩ := Kd.at_string (Kd.R_reads' HO_4.out).2.2 x5_1 p222 q222
             obtain rfl : ad221 = ad222 := (by injection e222)
             replace p222 := eq_true p222
             replace q222 := eq_true q222
             have p15 : 0 ≤ (x6_2 : Int) := of_decide_eq_true (by first | (with_reducible assumption) | assumption)
             have q15 : x6_2 < ((rdOf ByteArray.empty t217 x5_1).size : Int) := of_decide_eq_true (by first | (with_reducible assumption) | assumption)
             have hx15 := bt_at (rdOf ByteArray.empty t217 x5_1) x6_2
             replace p15 := eq_true p15
             replace q15 := eq_true q15
             go_wp2
             go_meet
             case rel => exact ⟨_, (x6_2), (by first | rfl | (simp; done) | (simp [*]; done) | (simp [*, i64_w, i32_w, u8_w]; done) | (simp only [bneNil, beqNil]; done) | (simp only [bneNil, beqNil]; simp; done) | (simp only [bneNil, beqNil]; simp [*]; done)), H', ⟨by have := HK1.out; have := HK2.out; first | omega | exact Nat.le_refl _⟩, ⟨by (with_reducible repeat (first | apply Kd.R_alloc | apply Kd.R_drewN | apply Kd.R_drew)); exact HO_3.out⟩, ⟨by (with_reducible repeat (first | apply Kd.R_alloc | apply Kd.R_drewN | apply Kd.R_drew)); exact HO_4.out⟩, ⟨by (with_reducible repeat (first | refine blk_drewN ?_ _ | refine blk_drew ?_ | refine blk_alloc ?_ _)); exact BK216.out⟩, ⟨by repeat (first | (with_reducible first | exact HB.out | apply below_alloc | apply pw_below_drewN | apply below_drew1 | refine below_set ?_ GE216.out) | exact HB.out)⟩⟩
            ·rw [if_neg c16] at H
             have c16b0 : ((bt (rdOf ByteArray.empty t217 x5_1) x6_2) == 61) = false := beq_eq_false_iff_ne.mpr c16
             have c16b1 : ((bt (rdOf ByteArray.empty t217 x5_1) x6_2) != 61) = true := bne_iff_ne.mpr c16
             have H' := Aside0.mk H
             clear H
             have p221 : 0 ≤ (x5_1 : Int) := of_decide_eq_true (by first | (with_reducible assumption) | assumption)
             have q221 : x5_1 < (t217.length : Int) := of_decide_eq_true (by first | (with_reducible assumption) | assumption)
             obtain ⟨ad221, e221, hx221_0⟩ := Kd.at_string (Kd.R_reads' HO_4.out).2.2 x5_1 p221 q221
             cases e221
             replace p221 := eq_true p221
             replace q221 := eq_true q221
             have p222 : 0 ≤ (x5_1 : Int) := of_decide_eq_true (by first | (with_reducible assumption) | assumption)
             have q222 : x5_1 < (t217.length : Int) := of_decide_eq_true (by first | (with_reducible assumption) | assumption)
             obtain ⟨ad222, e222, hx222_0⟩ := Kd.at_string (Kd.R_reads' HO_4.out).2.2 x5_1 p222 q222
             obtain rfl : ad221 = ad222 := (by injection e222)
             replace p222 := eq_true p222
             replace q222 := eq_true q222
             have p15 : 0 ≤ (x6_2 : Int) := of_decide_eq_true (by first | (with_reducible assumption) | assumption)
             have q15 : x6_2 < ((rdOf ByteArray.empty t217 x5_1).size : Int) := of_decide_eq_true (by first | (with_reducible assumption) | assumption)
             have hx15 := bt_at (rdOf ByteArray.empty t217 x5_1) x6_2
             replace p15 := eq_true p15
             replace q15 := eq_true q15
             go_wp2
             go_roundg k2
             case measure => have := HK1.out; have := HK2.out; omega
             case rel => exact ⟨(wrap64 (x6_2 + 1)), (by first | rfl | (simp; done) | (simp [*]; done) | (simp [*, i64_w, i32_w, u8_w]; done) | (simp only [bneNil, beqNil]; done) | (simp only [bneNil, beqNil]; simp; done) | (simp only [bneNil, beqNil]; simp [*]; done)), H', ⟨by have := HK1.out; have := HK2.out; omega⟩, ⟨by (with_reducible repeat (first | apply Kd.R_alloc | apply Kd.R_drewN | apply Kd.R_drew)); exact HO_3.out⟩, ⟨by (with_reducible repeat (first | apply Kd.R_alloc | apply Kd.R_drewN | apply Kd.R_drew)); exact HO_4.out⟩, ⟨by (with_reducible repeat (first | refine blk_drewN ?_ _ | refine blk_drew ?_ | refine blk_alloc ?_ _)); exact BK216.out⟩, ⟨by repeat (first | (with_reducible first | exact HB.out | apply below_alloc | apply pw_below_drewN | apply below_drew1 | refine below_set ?_ GE216.out) | exact HB.out)⟩⟩
           ·rw [if_neg c14] at H
            exact absurd H (by simp)
          ·rw [if_neg c13] at H
           have c13b0 : decide (x6_2 < ((rdOf ByteArray.empty t217 x5_1).size : Int)) = false := decide_eq_false c13
           clear c13
           have H' := Aside0.mk H
           clear H
           have p221 : 0 ≤ (x5_1 : Int) := of_decide_eq_true (by first | (with_reducible assumption) | assumption)
           have q221 : x5_1 < (t217.length : Int) := of_decide_eq_true (by first | (with_reducible assumption) | assumption)
           obtain ⟨ad221, e221, hx221_0⟩ := Kd.at_string (Kd.R_reads' HO_4.out).2.2 x5_1 p221 q221
           cases e221
           replace p221 := eq_true p221
           replace q221 := eq_true q221
           go_wp2
           go_meet
           case rel => exact ⟨_, (x6_2), (by first | rfl | (simp; done) | (simp [*]; done) | (simp [*, i64_w, i32_w, u8_w]; done) | (simp only [bneNil, beqNil]; done) | (simp only [bneNil, beqNil]; simp; done) | (simp only [bneNil, beqNil]; simp [*]; done)), H', ⟨by have := HK1.out; have := HK2.out; first | omega | exact Nat.le_refl _⟩, ⟨by (with_reducible repeat (first | apply Kd.R_alloc | apply Kd.R_drewN | apply Kd.R_drew)); exact HO_3.out⟩, ⟨by (with_reducible repeat (first | apply Kd.R_alloc | apply Kd.R_drewN | apply Kd.R_drew)); exact HO_4.out⟩, ⟨by (with_reducible repeat (first | refine blk_drewN ?_ _ | refine blk_drew ?_ | refine blk_alloc ?_ _)); exact BK216.out⟩, ⟨by repeat (first | (with_reducible first | exact HB.out | apply below_alloc | apply pw_below_drewN | apply below_drew1 | refine below_set ?_ GE216.out) | exact HB.out)⟩⟩
         ·rw [if_neg c12] at H
          exact absurd H (by simp)
        ·rw [if_neg c11] at H
         exact absurd H (by simp)
     case rest =>
      clear HC9
      try clear c1
      try clear p1
      try clear q1
      try clear hx1
      try clear c2
      try clear c2b0
      try clear c2b1
      try clear p2
      try clear q2
      try clear hx2
      try clear c3
      try clear c4
      try clear p6
      try clear c8
      try clear c8b0
      try clear c11
      try clear c11b0
      try clear c12
      try clear c12b0
      try clear c13
      try clear c13b0
      try clear c14
      try clear c14b0
      try clear p15
      try clear q15
      try clear hx15
      try clear c16
      try clear c16b0
      try clear c16b1
      try clear hcz4_0
      try clear hcz4_1
      try clear hfz4_0
      try clear hfz4_1
      try clear hx221_0
      try clear hx222_0
      try clear p15
      try clear p2
      try clear p221
      try clear p222
      try clear q15
      try clear q221
      try clear q222
      obtain ⟨kq, x6_8, rfl, HA, HJ8, HO_3, HO_4, BK216, HB⟩ := hcut
      cases kq with
      | zero => exact absurd HA.out (by simp [brookref1_ParseDn.j2])
      | succ kj8 =>
       have H := HA.out
       clear HA
       simp only [brookref1_ParseDn.j2] at H
       by_cases c17 : 0 ≤ x5_1
       ·rw [if_pos c17] at H
        have c17b0 : decide (0 ≤ x5_1) = true := decide_eq_true c17
        clear c17
        by_cases c18 : x5_1 < (t217.length : Int)
        ·rw [if_pos c18] at H
         have c18b0 : decide (x5_1 < (t217.length : Int)) = true := decide_eq_true c18
         clear c18
         by_cases c19 : x6_8 = ((rdOf ByteArray.empty t217 x5_1).size : Int)
         ·rw [if_pos c19] at H
          have c19b0 : (x6_8 == ((rdOf ByteArray.empty t217 x5_1).size : Int)) = true := beq_iff_eq.mpr c19
          have c19b1 : (x6_8 != ((rdOf ByteArray.empty t217 x5_1).size : Int)) = false := bne_eq_false_iff_eq.mpr c19
          clear c19
          simp only [Option.some.injEq, Prod.mk.injEq] at H
          obtain ⟨rfl, rfl⟩ := H
          have p223 : 0 ≤ (x5_1 : Int) := of_decide_eq_true (by first | (with_reducible assumption) | assumption)
          have q223 : x5_1 < (t217.length : Int) := of_decide_eq_true (by first | (with_reducible assumption) | assumption)
          obtain ⟨ad223, e223, hx223_0⟩ := Kd.at_string (Kd.R_reads' HO_4.out).2.2 x5_1 p223 q223
          cases e223
          replace p223 := eq_true p223
          replace q223 := eq_true q223
          have hcz20_0 : wc.cell? ⟨gb216, 0, none⟩ = some (.slice none 0 0) := (blk_cell BK216.out 0).trans rfl
          have hcz20_1 : wc.cell? ⟨gb216, 1, none⟩ = some (.bool x217001_1) := (blk_cell BK216.out 1).trans rfl
          have hfz20_0 := blk_frozen BK216.out 0
          have hfz20_1 := blk_frozen BK216.out 1
          go_wp2
          refine bodyPost_ret (results_cell_row rfl _ _ gb216 56 #[.slice none 0 0, .bool false] (0, 0) _ rfl (by (with_reducible repeat (first | refine blk_drewN ?_ _ | refine blk_drew ?_ | refine blk_alloc ?_ _)); refine blk_put (cs := #[.slice none 0 0, .bool x217001_1]) ?_ 1 _ (by first | rfl | (simp only [bneNil, beqNil]; rfl) | simp [bneNil, beqNil]); (with_reducible repeat (first | refine blk_drewN ?_ _ | refine blk_drew ?_ | refine blk_alloc ?_ _)); refine blk_put (cs := #[.slice none 0 0, .bool x217001_1]) ?_ 0 _ (by first | rfl | (simp only [bneNil, beqNil]; rfl) | simp [bneNil, beqNil]); (with_reducible repeat (first | refine blk_drewN ?_ _ | refine blk_drew ?_ | refine blk_alloc ?_ _)); exact BK216.out) Tryz.underlying56 rfl (by kernel_rfl)) rfl ?_
          exact ⟨_, by first | rfl | (simp [errW_none, errW_some] <;> rfl) | (simp [*, errW_none, errW_some] <;> rfl), by first | exact Kd.R_nil _ _ _ _ _ | exact Kd.N_nil _ _ _ _ _ | exact Kd.V_nil _ _ _ _ _ | exact Kd.Q_nil _ _ _ _ _ | exact Kd.S_nil _ _ _ _ _, by repeat (first | (with_reducible first | exact HB.out | apply below_alloc | apply pw_below_drewN | apply below_drew1 | refine below_set ?_ GE216.out) | exact HB.out)⟩
         ·rw [if_neg c19] at H
          have c19b0 : (x6_8 == ((rdOf ByteArray.empty t217 x5_1).size : Int)) = false := beq_eq_false_iff_ne.mpr c19
          have c19b1 : (x6_8 != ((rdOf ByteArray.empty t217 x5_1).size : Int)) = true := bne_iff_ne.mpr c19
          obtain ⟨ji21, hji21⟩ : ∃ j_ : Int, (wrap64 (x6_8 + 1)) = j_ := ⟨_, rfl⟩
          replace H : (if 0 ≤ (ji21) then (if (ji21) ≤ ((rdOf ByteArray.empty t217 x5_1).size : Int) then ((brookref1_value.f kj8 ((rdOf ByteArray.empty t217 x5_1).extract ((ji21) : Int).toNat (rdOf ByteArray.empty t217 x5_1).size)).bind fun bt225 => (if bt225.2 = true then (if 0 ≤ x6_8 then (if x6_8 ≤ ((rdOf ByteArray.empty t217 x5_1).size : Int) then (if x3_1.length < 4398046511104 then (brookref1_ParseDn.l0 kj8 (x3_1 ++ [(⟨(rdOf ByteArray.empty t217 x5_1).extract 0 (x6_8 : Int).toNat, bt225.1⟩ : S41)]) t217 (wrap64 (x5_1 + 1))) else (none)) else (none)) else (none)) else (some (([] : List (S41)), false)))) else (none)) else (none)) = some (r1, r2) := by first | (rw [hji21] at H; exact H) | (simp only [hji21] at H ⊢; exact H)
          have hji21w : (IntKind.i64.wrap (x6_8 + 1)) = ji21 := (i64_w _).trans hji21
          by_cases c22 : 0 ≤ (ji21)
          ·rw [if_pos c22] at H
           have c22b0 := eq_true c22
           have c22b1 : decide (0 ≤ (ji21)) = true := decide_eq_true c22
           clear c22
           by_cases c23 : (ji21) ≤ ((rdOf ByteArray.empty t217 x5_1).size : Int)
           ·rw [if_pos c23] at H
            have c23b0 := eq_true c23
            have c23b1 : decide ((ji21) ≤ ((rdOf ByteArray.empty t217 x5_1).size : Int)) = true := decide_eq_true c23
            clear c23
            replace H := Option.bind_eq_some_iff.mp H
            obtain ⟨⟨t225, t226⟩, A240, H⟩ := H
            replace H : (if t226 = true then (if 0 ≤ x6_8 then (if x6_8 ≤ ((rdOf ByteArray.empty t217 x5_1).size : Int) then (if x3_1.length < 4398046511104 then (brookref1_ParseDn.l0 kj8 (x3_1 ++ [(⟨(rdOf ByteArray.empty t217 x5_1).extract 0 (x6_8 : Int).toNat, t225⟩ : S41)]) t217 (wrap64 (x5_1 + 1))) else (none)) else (none)) else (none)) else (some (([] : List (S41)), false))) = some (r1, r2) := H
            have A24 := Aside0.mk A240
            clear A240
            by_cases c25 : t226 = true
            ·subst c25
             have H1 : (if 0 ≤ x6_8 then (if x6_8 ≤ ((rdOf ByteArray.empty t217 x5_1).size : Int) then (if x3_1.length < 4398046511104 then (brookref1_ParseDn.l0 kj8 (x3_1 ++ [(⟨(rdOf ByteArray.empty t217 x5_1).extract 0 (x6_8 : Int).toNat, t225⟩ : S41)]) t217 (wrap64 (x5_1 + 1))) else (none)) else (none)) else (none)) = some (r1, r2) := by rw [if_pos rfl] at H; exact H
             clear H
             have H := H1
             clear H1
             by_cases c26 : 0 ≤ x6_8
             ·rw [if_pos c26] at H
              have c26b0 := eq_true c26
              have c26b1 : decide (0 ≤ x6_8) = true := decide_eq_true c26
              clear c26
              by_cases c27 : x6_8 ≤ ((rdOf ByteArray.empty t217 x5_1).size : Int)
              ·rw [if_pos c27] at H
               have c27b0 := eq_true c27
               have c27b1 : decide (x6_8 ≤ ((rdOf ByteArray.empty t217 x5_1).size : Int)) = true := decide_eq_true c27
               clear c27
               by_cases c28 : x3_1.length < 4398046511104
               ·rw [if_pos c28] at H
                have LMc28 := Aside0.mk c28
                clear c28
                obtain ⟨y228, hy228⟩ : ∃ y_ : List (S41), y_ = (x3_1 ++ [(⟨(rdOf ByteArray.empty t217 x5_1).extract 0 (x6_8 : Int).toNat, t225⟩ : S41)]) := ⟨_, rfl⟩
                replace H : (brookref1_ParseDn.l0 kj8 y228 t217 (wrap64 (x5_1 + 1))) = some (r1, r2) := by first | (rw [hy228]; with_reducible exact H) | (have H2_ := (Option.bind_some _ _).symm.trans H; rw [hy228]; with_reducible exact H2_) | (have H2_ := (Option.bind_some _ _).symm.trans H; with_reducible exact H2_) | with_reducible exact H | (rw [hy228]; exact H) | exact H
                have Ny228 := Aside0.mk hy228
                clear hy228
                have H' := Aside0.mk H
                clear H
                have p223 : 0 ≤ (x5_1 : Int) := of_decide_eq_true (by first | (with_reducible assumption) | assumption)
                have q223 : x5_1 < (t217.length : Int) := of_decide_eq_true (by first | (with_reducible assumption) | assumption)
                obtain ⟨ad223, e223, hx223_0⟩ := Kd.at_string (Kd.R_reads' HO_4.out).2.2 x5_1 p223 q223
                cases e223
                replace p223 := eq_true p223
                replace q223 := eq_true q223
                have p224 : 0 ≤ (x5_1 : Int) := of_decide_eq_true (by first | (with_reducible assumption) | assumption)
                have q224 : x5_1 < (t217.length : Int) := of_decide_eq_true (by first | (with_reducible assumption) | assumption)
                obtain ⟨ad224, e224, hx224_0⟩ := Kd.at_string (Kd.R_reads' HO_4.out).2.2 x5_1 p224 q224
                obtain rfl : ad223 = ad224 := (by injection e224)
                replace p224 := eq_true p224
                replace q224 := eq_true q224
                go_wp2_with (first | ((with_reducible refine gate_callee (f := 43) rfl ?_); refine goesL_ (some 54) rfl rfl Tryz.func43 (by kernel_rfl) rfl #[.string ((rdOf ByteArray.empty t217 x5_1).extract ((ji21) : Int).toNat (rdOf ByteArray.empty t217 x5_1).size)] rfl (by (try simp only [List.map_toArray, List.map_cons, List.map_nil]); first | done | (simp only [hji21]; rfl) | rfl | (simp only [List.length_drop, List.length_take]; rfl)) ?_; (with_reducible refine (brookref1_value.calls kj8 ((rdOf ByteArray.empty t217 x5_1).extract ((ji21) : Int).toNat (rdOf ByteArray.empty t217 x5_1).size) t225 true _ A24.out).mono ?_); rintro e w29 ⟨rfl, hb⟩; refine ⟨_, rfl, ?_⟩; have n0_ := Aside0.mk (Kd.R_below (by (with_reducible repeat (first | apply Kd.R_alloc | apply Kd.R_drewN | apply Kd.R_drew)); exact HO_3.out) hb); have n1_ := Aside0.mk (Kd.R_below (by (with_reducible repeat (first | apply Kd.R_alloc | apply Kd.R_drewN | apply Kd.R_drew)); exact HO_4.out) hb); have n2_ := Aside0.mk (blk_below (g := gb216) (o := .cells #[.slice none 0 0, .bool x217001_1] 56 (0, 0)) (by (with_reducible repeat (first | refine blk_drewN ?_ _ | refine blk_drew ?_ | refine blk_alloc ?_ _)); exact BK216.out) hb); have n3_ := Aside0.mk (below_step (by repeat (first | (with_reducible first | exact HB.out | apply below_alloc | apply pw_below_drewN | apply below_drew1 | refine below_set ?_ GE216.out) | exact HB.out)) hb); clear HO_3; clear HO_4; clear BK216; clear HB; have HO_3 := n0_; have HO_4 := n1_; have BK216 := n2_; have HB := n3_; clear n0_ n1_ n2_ n3_; (try clear hb); (try clear hb2); (try clear hk); (try clear hi); have p227 : 0 ≤ (x5_1 : Int) := of_decide_eq_true (by first | (with_reducible assumption) | assumption); have q227 : x5_1 < (t217.length : Int) := of_decide_eq_true (by first | (with_reducible assumption) | assumption); obtain ⟨ad227, e227, hx227_0⟩ := Kd.at_string (Kd.R_reads' HO_4.out).2.2 x5_1 p227 q227; obtain rfl : ad223 = ad227 := (by injection e227); replace p227 := eq_true p227; replace q227 := eq_true q227) | ((with_reducible refine gate_builtin (b := .append) (xs := #[.tmp 60, .tmp 69]) rfl ?_); at_builtin; refine Kd.R_append k41 (w0 := w) w.heap.size rfl (.tmp 60) (.tmp 69) 42 41 (.agg #[(.string ⟨#[]⟩), (.string ⟨#[]⟩)]) 32 rfl Tryz.underlying42 info41 rfl (by decide) (by omega) u3 x3_1 (⟨(rdOf ByteArray.empty t217 x5_1).extract 0 (x6_8 : Int).toNat, t225⟩ : S41) [.string ((rdOf ByteArray.empty t217 x5_1).extract 0 (x6_8 : Int).toNat), .string t225] (fun _ => True) (fun _ => False) rfl rfl ?aP (fun _ hk => hk.elim) ?aF ?aO ?aB ?aS ?aL ?_; (case aP => exact k41_mkM _ _ _ (⟨(rdOf ByteArray.empty t217 x5_1).extract 0 (x6_8 : Int).toNat, t225⟩ : S41)); (case aB => exact (by repeat (first | (with_reducible first | exact HB.out | apply below_alloc | apply pw_below_drewN | apply below_drew1 | refine below_set ?_ GE216.out) | exact HB.out))); (case aF => exact (fun _ _ => trivial)); (case aO => exact (by (with_reducible repeat (first | apply Kd.R_alloc | apply Kd.R_drewN | apply Kd.R_drew)); exact HO_3.out)); (case aS => exact (below_size (by repeat (first | (with_reducible first | exact HB.out | apply below_alloc | apply pw_below_drewN | apply below_drew1 | refine below_set ?_ GE216.out) | exact HB.out)))); (case aL => have := LMc28.out; omega); intro v229 w30 ho hb hg hat; rw [← Ny228.out] at ho; have n0_ := Aside0.mk (Kd.R_over' (by (with_reducible repeat (first | apply Kd.R_alloc | apply Kd.R_drewN | apply Kd.R_drew)); exact HO_4.out) (Kd.R_typed (by (with_reducible repeat (first | apply Kd.R_alloc | apply Kd.R_drewN | apply Kd.R_drew)); exact HO_3.out)) (by decide) hg); have n1_ := Aside0.mk (blk_grown (g := gb216) (o := .cells #[.slice none 0 0, .bool x217001_1] 56 (0, 0)) (by (with_reducible repeat (first | refine blk_drewN ?_ _ | refine blk_drew ?_ | refine blk_alloc ?_ _)); exact BK216.out) hg (Kd.R_ne HO_3.out BK216.out (by decide))); have n2_ := Aside0.mk (hb); have n3_ := Aside0.mk (ho); clear HO_4; clear BK216; clear HB; clear HO_3; have HO_4 := n0_; have BK216 := n1_; have HB := n2_; have HO230 := n3_; clear n0_ n1_ n2_ n3_; clear ho hb hg hat))
                go_roundg kj8
                case measure => have := HK1.out; have := HJ8.out; omega
                case rel => exact ⟨(y228), (wrap64 (x5_1 + 1)), (x217001_1), (by first | rfl | (simp; done) | (simp [*]; done) | (simp [*, i64_w, i32_w, u8_w]; done) | (simp only [bneNil, beqNil]; done) | (simp only [bneNil, beqNil]; simp; done) | (simp only [bneNil, beqNil]; simp [*]; done)), H', ⟨by have := HK1.out; have := HJ8.out; omega⟩, ⟨by (with_reducible repeat (first | apply Kd.R_alloc | apply Kd.R_drewN | apply Kd.R_drew)); exact HO230.out⟩, ⟨by (with_reducible repeat (first | apply Kd.R_alloc | apply Kd.R_drewN | apply Kd.R_drew)); exact HO_4.out⟩, ⟨by (with_reducible repeat (first | refine blk_drewN ?_ _ | refine blk_drew ?_ | refine blk_alloc ?_ _)); exact BK216.out⟩, ⟨by repeat (first | (with_reducible first | exact HB.out | apply below_alloc | apply pw_below_drewN | apply below_drew1 | refine below_set ?_ GE216.out) | exact HB.out)⟩⟩
               ·rw [if_neg c28] at H
                exact absurd H (by simp)
              ·rw [if_neg c27] at H
               exact absurd H (by simp)
             ·rw [if_neg c26] at H
              exact absurd H (by simp)
            ·replace c25 := Bool.eq_false_iff.mpr c25
             subst c25
             have H1 : (some (([] : List (S41)), false)) = some (r1, r2) := by rw [if_neg (show ¬ (false = true) by decide)] at H; exact H
             clear H
             have H := H1
             clear H1
             simp only [Option.some.injEq, Prod.mk.injEq] at H
             obtain ⟨rfl, rfl⟩ := H
             have p223 : 0 ≤ (x5_1 : Int) := of_decide_eq_true (by first | (with_reducible assumption) | assumption)
             have q223 : x5_1 < (t217.length : Int) := of_decide_eq_true (by first | (with_reducible assumption) | assumption)
             obtain ⟨ad223, e223, hx223_0⟩ := Kd.at_string (Kd.R_reads' HO_4.out).2.2 x5_1 p223 q223
             cases e223
             replace p223 := eq_true p223
             replace q223 := eq_true q223
             have p224 : 0 ≤ (x5_1 : Int) := of_decide_eq_true (by first | (with_reducible assumption) | assumption)
             have q224 : x5_1 < (t217.length : Int) := of_decide_eq_true (by first | (with_reducible assumption) | assumption)
             obtain ⟨ad224, e224, hx224_0⟩ := Kd.at_string (Kd.R_reads' HO_4.out).2.2 x5_1 p224 q224
             obtain rfl : ad223 = ad224 := (by injection e224)
             replace p224 := eq_true p224
             replace q224 := eq_true q224
             go_wp2_with (first | ((with_reducible refine gate_callee (f := 43) rfl ?_); refine goesL_ (some 54) rfl rfl Tryz.func43 (by kernel_rfl) rfl #[.string ((rdOf ByteArray.empty t217 x5_1).extract ((ji21) : Int).toNat (rdOf ByteArray.empty t217 x5_1).size)] rfl (by (try simp only [List.map_toArray, List.map_cons, List.map_nil]); first | done | (simp only [hji21]; rfl) | rfl | (simp only [List.length_drop, List.length_take]; rfl)) ?_; (with_reducible refine (brookref1_value.calls kj8 ((rdOf ByteArray.empty t217 x5_1).extract ((ji21) : Int).toNat (rdOf ByteArray.empty t217 x5_1).size) t225 false _ A24.out).mono ?_); rintro e w31 ⟨rfl, hb⟩; refine ⟨_, rfl, ?_⟩; have n0_ := Aside0.mk (Kd.R_below (by (with_reducible repeat (first | apply Kd.R_alloc | apply Kd.R_drewN | apply Kd.R_drew)); exact HO_3.out) hb); have n1_ := Aside0.mk (Kd.R_below (by (with_reducible repeat (first | apply Kd.R_alloc | apply Kd.R_drewN | apply Kd.R_drew)); exact HO_4.out) hb); have n2_ := Aside0.mk (blk_below (g := gb216) (o := .cells #[.slice none 0 0, .bool x217001_1] 56 (0, 0)) (by (with_reducible repeat (first | refine blk_drewN ?_ _ | refine blk_drew ?_ | refine blk_alloc ?_ _)); exact BK216.out) hb); have n3_ := Aside0.mk (below_step (by repeat (first | (with_reducible first | exact HB.out | apply below_alloc | apply pw_below_drewN | apply below_drew1 | refine below_set ?_ GE216.out) | exact HB.out)) hb); clear HO_3; clear HO_4; clear BK216; clear HB; have HO_3 := n0_; have HO_4 := n1_; have BK216 := n2_; have HB := n3_; clear n0_ n1_ n2_ n3_; (try clear hb); (try clear hb2); (try clear hk); (try clear hi); have hcz32_0 : w31.cell? ⟨gb216, 0, none⟩ = some (.slice none 0 0) := (blk_cell BK216.out 0).trans rfl; have hcz32_1 : w31.cell? ⟨gb216, 1, none⟩ = some (.bool x217001_1) := (blk_cell BK216.out 1).trans rfl; have hfz32_0 := blk_frozen BK216.out 0; have hfz32_1 := blk_frozen BK216.out 1))
             refine bodyPost_ret (results_cell_row rfl _ _ gb216 56 #[.slice none 0 0, .bool false] (0, 0) _ rfl (by (with_reducible repeat (first | refine blk_drewN ?_ _ | refine blk_drew ?_ | refine blk_alloc ?_ _)); refine blk_put (cs := #[.slice none 0 0, .bool x217001_1]) ?_ 1 _ (by first | rfl | (simp only [bneNil, beqNil]; rfl) | simp [bneNil, beqNil]); (with_reducible repeat (first | refine blk_drewN ?_ _ | refine blk_drew ?_ | refine blk_alloc ?_ _)); refine blk_put (cs := #[.slice none 0 0, .bool x217001_1]) ?_ 0 _ (by first | rfl | (simp only [bneNil, beqNil]; rfl) | simp [bneNil, beqNil]); (with_reducible repeat (first | refine blk_drewN ?_ _ | refine blk_drew ?_ | refine blk_alloc ?_ _)); exact BK216.out) Tryz.underlying56 rfl (by kernel_rfl)) rfl ?_
             exact ⟨_, by first | rfl | (simp [errW_none, errW_some] <;> rfl) | (simp only [← hji21]; first | rfl | (simp [errW_none, errW_some] <;> rfl)) | (simp [*, errW_none, errW_some] <;> rfl), by first | exact Kd.R_nil _ _ _ _ _ | exact Kd.N_nil _ _ _ _ _ | exact Kd.V_nil _ _ _ _ _ | exact Kd.Q_nil _ _ _ _ _ | exact Kd.S_nil _ _ _ _ _, by repeat (first | (with_reducible first | exact HB.out | apply below_alloc | apply pw_below_drewN | apply below_drew1 | refine below_set ?_ GE216.out) | exact HB.out)⟩
           ·rw [if_neg c23] at H
            exact absurd H (by simp)
          ·rw [if_neg c22] at H
           exact absurd H (by simp)
        ·rw [if_neg c18] at H
         exact absurd H (by simp)
       ·rw [if_neg c17] at H
        exact absurd H (by simp)
    ·rw [if_neg c8] at H
     have c8b0 : decide (x5_1 < (t217.length : Int)) = false := decide_eq_false c8
     clear c8
     replace H := Option.bind_eq_some_iff.mp H
     obtain ⟨t220, A330, H⟩ := H
     replace H : (if t220 = true then (some (x3_1, true)) else (some (([] : List (S41)), false))) = some (r1, r2) := H
     have A33 := Aside0.mk A330
     clear A330
     by_cases c34 : t220 = true
     ·subst c34
      have H1 : (some (x3_1, true)) = some (r1, r2) := by rw [if_pos rfl] at H; exact H
      clear H
      have H := H1
      clear H1
      simp only [Option.some.injEq, Prod.mk.injEq] at H
      obtain ⟨rfl, rfl⟩ := H
      obtain ⟨Ao35, co35, eo35⟩ := Kd.R_slice HO_4.out
      subst eo35
      obtain ⟨Ao36, co36, eo36⟩ := Kd.R_slice HO_3.out
      subst eo36
      go_wp2_with (first | ((with_reducible refine gate_callee (f := 44) rfl ?_); refine goesL_ (some 72) rfl rfl Tryz.func44 (by kernel_rfl) rfl #[.slice Ao36 x3_1.length co36] rfl (by (try simp only [List.map_toArray, List.map_cons, List.map_nil]); first | done | rfl | (simp only [List.length_drop, List.length_take]; rfl)) ?_; (with_reducible refine (brookref1_MayDn.calls k1 _ _ x3_1 true _ ?side1 ?side2 A33.out).mono ?_); (case side1 => repeat (first | exact (Kd.R_reads' HO_3.out).2.2 | (with_reducible refine Kd.C_alloc ?_ _) | (with_reducible refine Kd.C_drewN ?_ _) | (with_reducible refine Kd.C_drew ?_))); (case side2 => exact (Kd.R_reads' HO_3.out).2.1); rintro e w' ⟨rfl, ⟨nd, rfl⟩⟩; refine ⟨_, rfl, ?_⟩; (try (rw [drewN_self wr]; generalize hq_ : World.drewN wr _ = wr; have n0_ : Aside0 (Kd.R k41 41 wr w.heap.size (fun _ => True) (.slice Ao36 x3_1.length co36) x3_1) := ⟨by rw [← hq_]; exact (by (with_reducible repeat (first | apply Kd.R_alloc | apply Kd.R_drewN | apply Kd.R_drew)); exact HO_3.out)⟩; have n1_ : Aside0 (Kd.R Kd.string 9 wr w.heap.size (fun _ => True) (.slice Ao35 t217.length co35) t217) := ⟨by rw [← hq_]; exact (by (with_reducible repeat (first | apply Kd.R_alloc | apply Kd.R_drewN | apply Kd.R_drew)); exact HO_4.out)⟩; have n2_ : Aside0 (wr.heap[gb216]? = some (.cells #[.slice none 0 0, .bool x217001_1] 56 (0, 0))) := ⟨by rw [← hq_]; exact (by (with_reducible repeat (first | refine blk_drewN ?_ _ | refine blk_drew ?_ | refine blk_alloc ?_ _)); exact BK216.out)⟩; have n3_ : Aside0 (Below w.heap.size w wr) := ⟨by rw [← hq_]; exact (by repeat (first | (with_reducible first | exact HB.out | apply below_alloc | apply pw_below_drewN | apply below_drew1 | refine below_set ?_ GE216.out) | exact HB.out))⟩; clear HO_3 HO_4 BK216 HB hq_; have HO_3 := n0_; have HO_4 := n1_; have BK216 := n2_; have HB := n3_; clear n0_ n1_ n2_ n3_)); have hcz37_0 : wr.cell? ⟨gb216, 0, none⟩ = some (.slice none 0 0) := (blk_cell BK216.out 0).trans rfl; have hcz37_1 : wr.cell? ⟨gb216, 1, none⟩ = some (.bool x217001_1) := (blk_cell BK216.out 1).trans rfl; have hfz37_0 := blk_frozen BK216.out 0; have hfz37_1 := blk_frozen BK216.out 1))
      refine bodyPost_ret (results_cell_row rfl _ _ gb216 56 #[.slice Ao36 x3_1.length co36, .bool true] (0, 0) _ rfl (by (with_reducible repeat (first | refine blk_drewN ?_ _ | refine blk_drew ?_ | refine blk_alloc ?_ _)); refine blk_put (cs := #[.slice Ao36 x3_1.length co36, .bool x217001_1]) ?_ 1 _ (by first | rfl | (simp only [bneNil, beqNil]; rfl) | simp [bneNil, beqNil]); (with_reducible repeat (first | refine blk_drewN ?_ _ | refine blk_drew ?_ | refine blk_alloc ?_ _)); refine blk_put (cs := #[.slice none 0 0, .bool x217001_1]) ?_ 0 _ (by first | rfl | (simp only [bneNil, beqNil]; rfl) | simp [bneNil, beqNil]); (with_reducible repeat (first | refine blk_drewN ?_ _ | refine blk_drew ?_ | refine blk_alloc ?_ _)); exact BK216.out) Tryz.underlying56 rfl (by kernel_rfl)) rfl ?_
      exact ⟨_, by first | rfl | (simp [errW_none, errW_some] <;> rfl) | (simp [*, errW_none, errW_some] <;> rfl), by (with_reducible repeat (first | apply Kd.R_alloc | apply Kd.R_drewN | apply Kd.R_drew)); exact Kd.R_mono (Kd.R_far (p := ⟨gb216, 1, none⟩) (Kd.R_far (p := ⟨gb216, 0, none⟩) (Kd.R_types HO_3.out BK216.out (by decide)) (fun _ hk => hk.2) (.slice Ao36 x3_1.length co36)) (fun _ hk => hk.2) (.bool true)) (fun _ hk => trivial), by repeat (first | (with_reducible first | exact HB.out | apply below_alloc | apply pw_below_drewN | apply below_drew1 | refine below_set ?_ GE216.out) | exact HB.out)⟩
     ·replace c34 := Bool.eq_false_iff.mpr c34
      subst c34
      have H1 : (some (([] : List (S41)), false)) = some (r1, r2) := by rw [if_neg (show ¬ (false = true) by decide)] at H; exact H
      clear H
      have H := H1
      clear H1
      simp only [Option.some.injEq, Prod.mk.injEq] at H
      obtain ⟨rfl, rfl⟩ := H
      obtain ⟨Ao38, co38, eo38⟩ := Kd.R_slice HO_4.out
      subst eo38
      obtain ⟨Ao39, co39, eo39⟩ := Kd.R_slice HO_3.out
      subst eo39
      go_wp2_with (first | ((with_reducible refine gate_callee (f := 44) rfl ?_); refine goesL_ (some 72) rfl rfl Tryz.func44 (by kernel_rfl) rfl #[.slice Ao39 x3_1.length co39] rfl (by (try simp only [List.map_toArray, List.map_cons, List.map_nil]); first | done | rfl | (simp only [List.length_drop, List.length_take]; rfl)) ?_; (with_reducible refine (brookref1_MayDn.calls k1 _ _ x3_1 false _ ?side1 ?side2 A33.out).mono ?_); (case side1 => repeat (first | exact (Kd.R_reads' HO_3.out).2.2 | (with_reducible refine Kd.C_alloc ?_ _) | (with_reducible refine Kd.C_drewN ?_ _) | (with_reducible refine Kd.C_drew ?_))); (case side2 => exact (Kd.R_reads' HO_3.out).2.1); rintro e w' ⟨rfl, ⟨nd, rfl⟩⟩; refine ⟨_, rfl, ?_⟩; (try (rw [drewN_self wr]; generalize hq_ : World.drewN wr _ = wr; have n0_ : Aside0 (Kd.R k41 41 wr w.heap.size (fun _ => True) (.slice Ao39 x3_1.length co39) x3_1) := ⟨by rw [← hq_]; exact (by (with_reducible repeat (first | apply Kd.R_alloc | apply Kd.R_drewN | apply Kd.R_drew)); exact HO_3.out)⟩; have n1_ : Aside0 (Kd.R Kd.string 9 wr w.heap.size (fun _ => True) (.slice Ao38 t217.length co38) t217) := ⟨by rw [← hq_]; exact (by (with_reducible repeat (first | apply Kd.R_alloc | apply Kd.R_drewN | apply Kd.R_drew)); exact HO_4.out)⟩; have n2_ : Aside0 (wr.heap[gb216]? = some (.cells #[.slice none 0 0, .bool x217001_1] 56 (0, 0))) := ⟨by rw [← hq_]; exact (by (with_reducible repeat (first | refine blk_drewN ?_ _ | refine blk_drew ?_ | refine blk_alloc ?_ _)); exact BK216.out)⟩; have n3_ : Aside0 (Below w.heap.size w wr) := ⟨by rw [← hq_]; exact (by repeat (first | (with_reducible first | exact HB.out | apply below_alloc | apply pw_below_drewN | apply below_drew1 | refine below_set ?_ GE216.out) | exact HB.out))⟩; clear HO_3 HO_4 BK216 HB hq_; have HO_3 := n0_; have HO_4 := n1_; have BK216 := n2_; have HB := n3_; clear n0_ n1_ n2_ n3_)); have hcz40_0 : wr.cell? ⟨gb216, 0, none⟩ = some (.slice none 0 0) := (blk_cell BK216.out 0).trans rfl; have hcz40_1 : wr.cell? ⟨gb216, 1, none⟩ = some (.bool x217001_1) := (blk_cell BK216.out 1).trans rfl; have hfz40_0 := blk_frozen BK216.out 0; have hfz40_1 := blk_frozen BK216.out 1))
      refine bodyPost_ret (results_cell_row rfl _ _ gb216 56 #[.slice none 0 0, .bool false] (0, 0) _ rfl (by (with_reducible repeat (first | refine blk_drewN ?_ _ | refine blk_drew ?_ | refine blk_alloc ?_ _)); refine blk_put (cs := #[.slice none 0 0, .bool x217001_1]) ?_ 1 _ (by first | rfl | (simp only [bneNil, beqNil]; rfl) | simp [bneNil, beqNil]); (with_reducible repeat (first | refine blk_drewN ?_ _ | refine blk_drew ?_ | refine blk_alloc ?_ _)); refine blk_put (cs := #[.slice none 0 0, .bool x217001_1]) ?_ 0 _ (by first | rfl | (simp only [bneNil, beqNil]; rfl) | simp [bneNil, beqNil]); (with_reducible repeat (first | refine blk_drewN ?_ _ | refine blk_drew ?_ | refine blk_alloc ?_ _)); exact BK216.out) Tryz.underlying56 rfl (by kernel_rfl)) rfl ?_
      exact ⟨_, by first | rfl | (simp [errW_none, errW_some] <;> rfl) | (simp [*, errW_none, errW_some] <;> rfl), by first | exact Kd.R_nil _ _ _ _ _ | exact Kd.N_nil _ _ _ _ _ | exact Kd.V_nil _ _ _ _ _ | exact Kd.Q_nil _ _ _ _ _ | exact Kd.S_nil _ _ _ _ _, by repeat (first | (with_reducible first | exact HB.out | apply below_alloc | apply pw_below_drewN | apply below_drew1 | refine below_set ?_ GE216.out) | exact HB.out)⟩
end Go.Proofs.YtpcjjpkmebgjjaaGreatDoor.P

namespace Go.Proofs.YtpcjjpkmebgjjaaGreatDoor.P
open Go.RowKit Go.Proofs.YtpcjjpkmebgjjaaGreatDoorW.PrintWords Go.Proofs.YtpcjjpkmebgjjaaGreatDoorW.PrintLast Go.Proofs.YtpcjjpkmebgjjaaGreatDoorW.PrintMore
attribute [local go_sem] max2_int min2_int max_two min_two max_three min_three max_four min_four
set_option linter.unusedVariables false
set_option linter.unusedSimpArgs false
def brookref1_Key.l0 : Nat → List (S41) → Int → List (S41) → Bool → Option (ByteArray × Bool)
 | 0, _, _, _, _ => none
 | k + 1, x4, x5, x237000, x237001 => if x5 < (x237000.length : Int) then (if 0 ≤ x5 then ((brookref1_Lower.f ((rd_T41 x237000 x5).f0)).bind fun t239 => ((brookref1_Fold.f k ((rd_T41 x237000 x5).f1)).bind fun t241 => (if t241.toList = ([] : List UInt8) then (some ((⟨#[]⟩ : ByteArray), false)) else (if x4.length < 4398046511104 then (brookref1_Key.l0 k (x4 ++ [(⟨t239, t241⟩ : S41)]) (wrap64 (x5 + 1)) x237000 x237001) else (none))))) else (none)) else ((brookref1_TextDn.f k x4).bind fun t237 => (some (t237, true)))
def brookref1_Key.f (k : Nat) (a0 : ByteArray) : Option (ByteArray × Bool) := (brookref1_ParseDn.f k a0).bind fun bt232 => (if bt232.2 = true then (brookref1_Key.l0 k ([] : List (S41)) 0 bt232.1 bt232.2) else (some ((⟨#[]⟩ : ByteArray), false)))
def brookref1_Key.T8 : Bool × List (List Nat × List Nat) := (true, [([], []), ([0], [0]), ([], []), ([1, 2], [1, 2]), ([3], [3]), ([4], [4]), ([5], [5]), ([], []), ([7], [7]), ([], []), ([8, 9], [8, 9]), ([10], [10]), ([11], [11]), ([12, 6], [12]), ([6, 13], [6, 13]), ([], []), ([15, 14, 13, 0, 1, 2, 3, 4, 5, 6, 7, 8, 9, 10, 11, 12, 13, 14, 15], [14, 15])])
def brookref1_Key.B8 : List Nat := [0, 1, 0, 7, 15, 31, 63, 0, 128, 0, 896, 1920, 3968, 8191, 16383, 0, 65535]
theorem brookref1_Key.tab8 : rtab .any (opsOf Tryz.f20 8) = brookref1_Key.T8 := by kernel_rfl
theorem brookref1_Key.bits8 : waitsOk brookref1_Key.T8.2 brookref1_Key.B8 = true := by kernel_rfl
set_option maxHeartbeats 8000000 in
set_option maxRecDepth 100000 in
theorem brookref1_Key.calls (k : Nat) (a0 : ByteArray) (r1 : ByteArray) (r2 : Bool) (w : World) (h : brookref1_Key.f k a0 = some (r1, r2)) :
  Calls Tryz.prog 20 #[.string a0] w fun e w' => e = .returned (.agg #[.string r1, .bool r2]) ∧ Below w.heap.size w w' := by
 have hu26 := Tryz.underlying26
 have hu56 := Tryz.underlying56
 have hu41 := Tryz.underlying41
 have HB := Aside0.mk (Below.refl w.heap.size w)
 have H : ((brookref1_ParseDn.f k a0).bind fun bt232 => (if bt232.2 = true then (brookref1_Key.l0 k ([] : List (S41)) 0 bt232.1 bt232.2) else (some ((⟨#[]⟩ : ByteArray), false)))) = some (r1, r2) := h
 clear h
 replace H := Option.bind_eq_some_iff.mp H
 obtain ⟨⟨t232, t235⟩, A20, H⟩ := H
 replace H : (if t235 = true then (brookref1_Key.l0 k ([] : List (S41)) 0 t232 t235) else (some ((⟨#[]⟩ : ByteArray), false))) = some (r1, r2) := H
 have A2 := Aside0.mk A20
 clear A20
 by_cases c3 : t235 = true
 ·subst c3
  have H1 : (brookref1_Key.l0 k ([] : List (S41)) 0 t232 true) = some (r1, r2) := by rw [if_pos rfl] at H; exact H
  clear H
  have H := H1
  clear H1
  have H' := Aside0.mk H
  clear H
  go_enter Tryz.func20, Tryz.ntmps20
  go_wp2_with (first | ((with_reducible refine gate_dst (N := 2) rfl ?_); refine box_event ?hg (N := 2) ?hd (cs := #[.string (⟨#[]⟩ : ByteArray), .bool false]) (t := 26) ?hr ?_; (case hd => rfl); (case hg => rfl); (case hr => first | (go_simp; done) | (go_simp; rfl)); intro gb231 hg w4 hbox hb; have n0_ := Aside0.mk (below_step (by repeat (first | (with_reducible first | exact HB.out | apply below_alloc | apply pw_below_drewN | apply below_drew1) | exact HB.out)) hb); have n1_ := Aside0.mk (hbox); have n2_ := Aside0.mk ((by rw [hg]; exact (below_size (by repeat (first | (with_reducible first | exact HB.out | apply below_alloc | apply pw_below_drewN | apply below_drew1) | exact HB.out))) : w.heap.size ≤ gb231)); have n3_ := Aside0.mk ((by rw [hg]; exact (below_size (by repeat (first | (with_reducible first | exact HB.out | apply below_alloc | apply pw_below_drewN | apply below_drew1) | exact HB.out))) : w.heap.size ≤ gb231)); clear HB; have HB := n0_; have BK231 := n1_; have GW231 := n2_; have GE231 := n3_; clear n0_ n1_ n2_ n3_; clear hb hbox hg) | ((with_reducible refine gate_callee (f := 30) rfl ?_); refine goesL_ (some 8) rfl rfl Tryz.func30 (by kernel_rfl) rfl #[.string a0] rfl (by (try simp only [List.map_toArray, List.map_cons, List.map_nil]); first | done | rfl | (simp only [List.length_drop, List.length_take]; rfl)) ?_; (with_reducible refine (brookref1_ParseDn.calls k a0 t232 true _ A2.out).mono ?_); rintro e w5 ⟨v233, rfl, ho0, hb⟩; refine ⟨_, rfl, ?_⟩; have n0_ := Aside0.mk (Kd.R_lower ho0 (below_size (by repeat (first | (with_reducible first | exact HB.out | apply below_alloc | apply pw_below_drewN | apply below_drew1 | refine below_set ?_ GE231.out) | exact HB.out)))); have n1_ := Aside0.mk (blk_below (g := gb231) (o := .cells #[.string (⟨#[]⟩ : ByteArray), .bool false] 26 (0, 0)) (by (with_reducible repeat (first | refine blk_drewN ?_ _ | refine blk_drew ?_ | refine blk_alloc ?_ _)); exact BK231.out) hb); have n2_ := Aside0.mk (below_step (by repeat (first | (with_reducible first | exact HB.out | apply below_alloc | apply pw_below_drewN | apply below_drew1 | refine below_set ?_ GE231.out) | exact HB.out)) hb); clear BK231; clear HB; have HO234 := n0_; have BK231 := n1_; have HB := n2_; clear n0_ n1_ n2_; (try clear hb); (try clear hb2); (try clear hk); (try clear hi); (try clear ho0)) | ((with_reducible refine gate_dst (N := 3) rfl ?_); refine box_event ?hg (N := 3) ?hd (cs := #[.slice none 0 0, .bool false]) (t := 56) ?hr ?_; (case hd => rfl); (case hg => rfl); (case hr => first | (go_simp; done) | (go_simp; rfl)); intro gb236 hg w6 hbox hb; have n0_ := Aside0.mk (Kd.R_below (by (with_reducible repeat (first | apply Kd.R_alloc | apply Kd.R_drewN | apply Kd.R_drew)); exact HO234.out) hb); have n1_ := Aside0.mk (blk_below (g := gb231) (o := .cells #[.string (⟨#[]⟩ : ByteArray), .bool false] 26 (0, 0)) (by (with_reducible repeat (first | refine blk_drewN ?_ _ | refine blk_drew ?_ | refine blk_alloc ?_ _)); exact BK231.out) hb); have n2_ := Aside0.mk (below_step (by repeat (first | (with_reducible first | exact HB.out | apply below_alloc | apply pw_below_drewN | apply below_drew1 | refine below_set ?_ GE231.out) | exact HB.out)) hb); have n3_ := Aside0.mk (hbox); have n4_ := Aside0.mk ((by rw [hg]; exact (below_size (by repeat (first | (with_reducible first | exact HB.out | apply below_alloc | apply pw_below_drewN | apply below_drew1 | refine below_set ?_ GE231.out) | exact HB.out))) : w.heap.size ≤ gb236)); have n5_ := Aside0.mk ((by rw [hg]; exact (below_size (by repeat (first | (with_reducible first | exact HB.out | apply below_alloc | apply pw_below_drewN | apply below_drew1 | refine below_set ?_ GE231.out) | exact HB.out))) : w.heap.size ≤ gb236)); have n6_ := Aside0.mk ((by rw [hg]; exact Nat.ne_of_lt (blk_lt (g := gb231) (o := .cells #[.string (⟨#[]⟩ : ByteArray), .bool false] 26 (0, 0)) (by (with_reducible repeat (first | refine blk_drewN ?_ _ | refine blk_drew ?_ | refine blk_alloc ?_ _)); exact BK231.out)) : gb231 ≠ gb236)); have n7_ := Aside0.mk ((by rw [hg]; exact Nat.ne_of_gt (blk_lt (g := gb231) (o := .cells #[.string (⟨#[]⟩ : ByteArray), .bool false] 26 (0, 0)) (by (with_reducible repeat (first | refine blk_drewN ?_ _ | refine blk_drew ?_ | refine blk_alloc ?_ _)); exact BK231.out)) : gb236 ≠ gb231)); clear HO234; clear BK231; clear HB; have HO234 := n0_; have BK231 := n1_; have HB := n2_; have BK236 := n3_; have GW236 := n4_; have GE236 := n5_; have NB231_236 := n6_; have NB236_231 := n7_; clear n0_ n1_ n2_ n3_ n4_ n5_ n6_ n7_; clear hb hbox hg; obtain ⟨Ao7, co7, eo7⟩ := Kd.R_slice HO234.out; subst eo7; have hnb8 := NB236_231.out; have hnc8 := NB231_236.out; have hcz9_0 : w6.cell? ⟨gb236, 0, none⟩ = some (.slice none 0 0) := (blk_cell BK236.out 0).trans rfl; have hcz9_1 : w6.cell? ⟨gb236, 1, none⟩ = some (.bool false) := (blk_cell BK236.out 1).trans rfl; have hfz9_0 := blk_frozen BK236.out 0; have hfz9_1 := blk_frozen BK236.out 1))
  go_loopg [4, 5] k (fun kq v4 v5 w' => ∃ (x4_1 : List (S41)) (x5_1 : Int) (x232000_1 : ByteArray) (x232001_1 : Bool), v5 = .int .i64 x5_1 ∧ Aside0 (brookref1_Key.l0 kq x4_1 x5_1 t232 true = some (r1, r2)) ∧ Aside0 (kq ≤ k) ∧ Aside0 (Kd.R k41 41 w' w.heap.size (fun k_ => some k_ ≠ ((.slice Ao7 t232.length co7) : Value).ownBlock) v4 x4_1) ∧ Aside0 (Kd.R k41 41 w' w.heap.size (fun k_ => some k_ ≠ (v4 : Value).ownBlock) (.slice Ao7 t232.length co7) t232) ∧ Aside0 (w'.heap[gb231]? = some (.cells #[.string x232000_1, .bool x232001_1] 26 (0, 0))) ∧ Aside0 (w'.heap[gb236]? = some (.cells #[(.slice Ao7 t232.length co7), .bool true] 56 (0, 0))) ∧ Aside0 (Below w.heap.size w w'))
  case atStart => exact ⟨(([] : List (S41))), (0), ((⟨#[]⟩ : ByteArray)), (false), (by first | rfl | (simp; done) | (simp [*]; done) | (simp [*, i64_w, i32_w, u8_w]; done) | (simp only [bneNil, beqNil]; done) | (simp only [bneNil, beqNil]; simp; done) | (simp only [bneNil, beqNil]; simp [*]; done)), H', ⟨Nat.le_refl _⟩, ⟨by first | exact Kd.R_nil _ _ _ _ _ | exact Kd.N_nil _ _ _ _ _ | exact Kd.V_nil _ _ _ _ _ | exact Kd.Q_nil _ _ _ _ _ | exact Kd.S_nil _ _ _ _ _⟩, ⟨by (with_reducible repeat (first | apply Kd.R_alloc | apply Kd.R_drewN | apply Kd.R_drew)); exact Kd.R_mono (Kd.R_far (p := ⟨gb236, 1, none⟩) (Kd.R_far (p := ⟨gb236, 0, none⟩) (Kd.R_types HO234.out BK236.out (by decide)) (fun _ hk => hk.2) (.slice Ao7 t232.length co7)) (fun _ hk => hk.2) (.bool true)) (fun _ hk => (by simp [Value.ownBlock]))⟩, ⟨by (with_reducible repeat (first | refine blk_drewN ?_ _ | refine blk_drew ?_ | refine blk_alloc ?_ _)); refine blk_far ?_ NB231_236.out _; (with_reducible repeat (first | refine blk_drewN ?_ _ | refine blk_drew ?_ | refine blk_alloc ?_ _)); refine blk_far ?_ NB231_236.out _; (with_reducible repeat (first | refine blk_drewN ?_ _ | refine blk_drew ?_ | refine blk_alloc ?_ _)); exact BK231.out⟩, ⟨by (with_reducible repeat (first | refine blk_drewN ?_ _ | refine blk_drew ?_ | refine blk_alloc ?_ _)); refine blk_put (cs := #[.slice Ao7 t232.length co7, .bool false]) ?_ 1 _ (by first | rfl | (simp only [bneNil, beqNil]; rfl) | simp [bneNil, beqNil]); (with_reducible repeat (first | refine blk_drewN ?_ _ | refine blk_drew ?_ | refine blk_alloc ?_ _)); refine blk_put (cs := #[.slice none 0 0, .bool false]) ?_ 0 _ (by first | rfl | (simp only [bneNil, beqNil]; rfl) | simp [bneNil, beqNil]); (with_reducible repeat (first | refine blk_drewN ?_ _ | refine blk_drew ?_ | refine blk_alloc ?_ _)); exact BK236.out⟩, ⟨by repeat (first | (with_reducible first | exact HB.out | apply below_alloc | apply pw_below_drewN | apply below_drew1 | refine below_set ?_ GE231.out | refine below_set ?_ GE236.out) | exact HB.out)⟩⟩
  case round =>
   clear H'
   try clear c2
   try clear p2
   try clear c3
   try clear c8
   try clear hcz9_0
   try clear hcz9_1
   try clear hfz9_0
   try clear hfz9_1
   obtain ⟨x4_1, x5_1, x232000_1, x232001_1, rfl, HA, HK1, HO_4, HO_237000, BK231, BK236, HB⟩ := hrel
   cases gk with
   | zero => exact absurd HA.out (by simp [brookref1_Key.l0])
   | succ k1 =>
    have H := HA.out
    clear HA
    simp only [brookref1_Key.l0] at H
    by_cases c10 : x5_1 < (t232.length : Int)
    ·rw [if_pos c10] at H
     have c10b0 : decide (x5_1 < (t232.length : Int)) = true := decide_eq_true c10
     clear c10
     by_cases c11 : 0 ≤ x5_1
     ·rw [if_pos c11] at H
      have c11b0 : decide (0 ≤ x5_1) = true := decide_eq_true c11
      clear c11
      replace H := Option.bind_eq_some_iff.mp H
      obtain ⟨t239, A120, H⟩ := H
      replace H : ((brookref1_Fold.f k1 ((rd_T41 t232 x5_1).f1)).bind fun t241 => (if t241.toList = ([] : List UInt8) then (some ((⟨#[]⟩ : ByteArray), false)) else (if x4_1.length < 4398046511104 then (brookref1_Key.l0 k1 (x4_1 ++ [(⟨t239, t241⟩ : S41)]) (wrap64 (x5_1 + 1)) t232 true) else (none)))) = some (r1, r2) := H
      have A12 := Aside0.mk A120
      clear A120
      replace H := Option.bind_eq_some_iff.mp H
      obtain ⟨t241, A130, H⟩ := H
      replace H : (if t241.toList = ([] : List UInt8) then (some ((⟨#[]⟩ : ByteArray), false)) else (if x4_1.length < 4398046511104 then (brookref1_Key.l0 k1 (x4_1 ++ [(⟨t239, t241⟩ : S41)]) (wrap64 (x5_1 + 1)) t232 true) else (none))) = some (r1, r2) := H
      have A13 := Aside0.mk A130
      clear A130
      by_cases c14 : t241.toList = ([] : List UInt8)
      ·rw [if_pos c14] at H
       have c14b0 : (t241.toList == ([] : List UInt8)) = true := beq_iff_eq.mpr c14
       have c14b1 : (t241.toList != ([] : List UInt8)) = false := bne_eq_false_iff_eq.mpr c14
       clear c14
       simp only [Option.some.injEq, Prod.mk.injEq] at H
       obtain ⟨rfl, rfl⟩ := H
       have hnb15 := NB236_231.out
       have hnc15 := NB231_236.out
       have hcz16_0 : wr.cell? ⟨gb236, 0, none⟩ = some (.slice Ao7 t232.length co7) := (blk_cell BK236.out 0).trans rfl
       have hcz16_1 : wr.cell? ⟨gb236, 1, none⟩ = some (.bool true) := (blk_cell BK236.out 1).trans rfl
       have hfz16_0 := blk_frozen BK236.out 0
       have hfz16_1 := blk_frozen BK236.out 1
       try go_wp2
       have n0_ := Aside0.mk (Kd.R_drew HO_4.out)
       have n1_ := Aside0.mk (Kd.R_drew HO_237000.out)
       have n2_ := Aside0.mk (blk_drew BK231.out)
       have n3_ := Aside0.mk (blk_drew BK236.out)
       have n4_ := Aside0.mk (below_drew1 HB.out)
       clear HO_4
       clear HO_237000
       clear BK231
       clear BK236
       clear HB
       have HO_4 := n0_
       have HO_237000 := n1_
       have BK231 := n2_
       have BK236 := n3_
       have HB := n4_
       clear n0_ n1_ n2_ n3_ n4_
       have p238 : 0 ≤ (x5_1 : Int) := of_decide_eq_true (by first | (with_reducible assumption) | assumption)
       have q238 : x5_1 < (t232.length : Int) := of_decide_eq_true (by first | (with_reducible assumption) | assumption)
       obtain ⟨ad238, e238, hx238_0, hx238_1⟩ := at_T41 (Kd.R_reads' HO_237000.out).2.2 x5_1 p238 q238
       cases e238
       replace p238 := eq_true p238
       replace q238 := eq_true q238
       have p240 : 0 ≤ (x5_1 : Int) := of_decide_eq_true (by first | (with_reducible assumption) | assumption)
       have q240 : x5_1 < (t232.length : Int) := of_decide_eq_true (by first | (with_reducible assumption) | assumption)
       obtain ⟨ad240, e240, hx240_0, hx240_1⟩ := at_T41 (Kd.R_reads' HO_237000.out).2.2 x5_1 p240 q240
       obtain rfl : ad238 = ad240 := (by injection e240)
       replace p240 := eq_true p240
       replace q240 := eq_true q240
       refine start_ (n := 17) (S := fun w' => w'.cell? ⟨gb236, 0, none⟩ = some (.slice (some ad238) t232.length co7) ∧ w'.cell? ⟨gb236, 1, none⟩ = some (.bool true) ∧ w'.cell? (ad238.add ((x5_1).toNat * 2)) = some (.string ((rd_T41 t232 x5_1).f0)) ∧ w'.cell? ⟨(ad238.add ((x5_1).toNat * 2)).block, (ad238.add ((x5_1).toNat * 2)).off + 1, none⟩ = some (.string ((rd_T41 t232 x5_1).f1)) ∧ w'.cell? (ad238.add ((x5_1).toNat * 2)) = some (.string ((rd_T41 t232 x5_1).f0)) ∧ w'.cell? ⟨(ad238.add ((x5_1).toNat * 2)).block, (ad238.add ((x5_1).toNat * 2)).off + 1, none⟩ = some (.string ((rd_T41 t232 x5_1).f1))) (ds := []) #[false, false, false, false, false, false, false, false, false, false, false, false, false, false, false, false, false] (by kernel_rfl) rfl rfl ⟨(blk_cell BK236.out 0).trans rfl, (blk_cell BK236.out 1).trans rfl, hx238_0, hx238_1, hx240_0, hx240_1⟩ (fun hHeld => ?_); refine with_tabW brookref1_Key.tab8 brookref1_Key.bits8 (fun HT_ HW_ => ?_)
       generalize wr.drew = w17 at HO_4 HO_237000 BK231 BK236 HB hx238_0 hx238_1 hx240_0 hx240_1 hHeld ⊢
       refine pure_ (i := 0) (N := some 20) (v := ?_) (a' := ?_) #[true, false, false, false, false, false, false, false, false, false, false, false, false, false, false, false, false] rfl rfl (any_of HT_.out (by kernel_rfl)) (fun _ _ _ h => h) (Or.inl ⟨by rfl, ?_⟩) ?_ ?_
       rotate_left
       ·intro w'
        go_simp
        with_reducible rfl
       rotate_left
       ·simp only [Act.put, List.setIfInBounds_toArray, List.set_cons_zero, List.set_cons_succ, i64_w, i32_w]
        rfl
       refine pure_ (i := 2) (N := some 22) (v := ?_) (a' := ?_) #[true, false, true, false, false, false, false, false, false, false, false, false, false, false, false, false, false] rfl rfl (any_of HT_.out (by kernel_rfl)) (fun _ _ _ h => h) (Or.inl ⟨by rfl, ?_⟩) ?_ ?_
       rotate_left
       ·intro w'
        go_simp
        with_reducible rfl
       rotate_left
       ·simp only [Act.put, List.setIfInBounds_toArray, List.set_cons_zero, List.set_cons_succ, i64_w, i32_w]
        rfl
       refine pure_ (i := 7) (N := some 27) (v := ?_) (a' := ?_) #[true, false, true, false, false, false, false, true, false, false, false, false, false, false, false, false, false] rfl rfl (any_of HT_.out (by kernel_rfl)) (fun _ _ _ h => h) (Or.inl ⟨by rfl, ?_⟩) ?_ ?_
       rotate_left
       ·intro w'
        go_simp
        with_reducible rfl
       rotate_left
       ·simp only [Act.put, List.setIfInBounds_toArray, List.set_cons_zero, List.set_cons_succ, i64_w, i32_w]
        rfl
       refine pure_ (i := 9) (N := some 29) (v := ?_) (a' := ?_) #[true, false, true, false, false, false, false, true, false, true, false, false, false, false, false, false, false] rfl rfl (any_of HT_.out (by kernel_rfl)) (fun _ _ _ h => h) (Or.inl ⟨by rfl, ?_⟩) ?_ ?_
       rotate_left
       ·intro w'
        go_simp
        with_reducible rfl
       rotate_left
       ·simp only [Act.put, List.setIfInBounds_toArray, List.set_cons_zero, List.set_cons_succ, i64_w, i32_w]
        rfl
       refine take_ (i := 1) (N := some 21) (v := ?_) (a' := ?_) #[true, true, true, false, false, false, false, true, false, true, false, false, false, false, false, false, false] rfl rfl (take_ofW HT_.out HW_.out (by kernel_rfl)) (fun _ _ _ h => h) (Or.inl ⟨by rfl, ?_⟩) hHeld ?_ ?_
       rotate_left
       ·rintro w' ⟨s0, s1, s2, s3, s4, s5⟩
        go_simp
        with_reducible rfl
       rotate_left
       ·simp only [Act.put, List.setIfInBounds_toArray, List.set_cons_zero, List.set_cons_succ, i64_w, i32_w]
        rfl
       refine pure_ (i := 3) (N := some 23) (v := ?_) (a' := ?_) #[true, true, true, true, false, false, false, true, false, true, false, false, false, false, false, false, false] rfl rfl (any_of HT_.out (by kernel_rfl)) (fun _ _ _ h => h) (Or.inl ⟨by rfl, ?_⟩) ?_ ?_
       rotate_left
       ·intro w'
        go_simp
        with_reducible rfl
       rotate_left
       ·simp only [Act.put, List.setIfInBounds_toArray, List.set_cons_zero, List.set_cons_succ, i64_w, i32_w]
        rfl
       refine pure_ (i := 4) (N := some 24) (v := ?_) (a' := ?_) #[true, true, true, true, true, false, false, true, false, true, false, false, false, false, false, false, false] rfl rfl (any_of HT_.out (by kernel_rfl)) (fun _ _ _ h => h) (Or.inl ⟨by rfl, ?_⟩) ?_ ?_
       rotate_left
       ·intro w'
        go_simp
        with_reducible rfl
       rotate_left
       ·simp only [Act.put, List.setIfInBounds_toArray, List.set_cons_zero, List.set_cons_succ, i64_w, i32_w]
        rfl
       refine take_ (i := 5) (N := some 25) (v := ?_) (a' := ?_) #[true, true, true, true, true, true, false, true, false, true, false, false, false, false, false, false, false] rfl rfl (take_ofW HT_.out HW_.out (by kernel_rfl)) (fun _ _ _ h => h) (Or.inl ⟨by rfl, ?_⟩) hHeld ?_ ?_
       rotate_left
       ·rintro w' ⟨s0, s1, s2, s3, s4, s5⟩
        go_simp
        with_reducible rfl
       rotate_left
       ·simp only [Act.put, List.setIfInBounds_toArray, List.set_cons_zero, List.set_cons_succ, i64_w, i32_w]
        rfl
       refine take_ (i := 8) (N := some 28) (v := ?_) (a' := ?_) #[true, true, true, true, true, true, false, true, true, true, false, false, false, false, false, false, false] rfl rfl (take_ofW HT_.out HW_.out (by kernel_rfl)) (fun _ _ _ h => h) (Or.inl ⟨by rfl, ?_⟩) hHeld ?_ ?_
       rotate_left
       ·rintro w' ⟨s0, s1, s2, s3, s4, s5⟩
        go_simp
        with_reducible rfl
       rotate_left
       ·simp only [Act.put, List.setIfInBounds_toArray, List.set_cons_zero, List.set_cons_succ, i64_w, i32_w]
        rfl
       refine pure_ (i := 10) (N := some 30) (v := ?_) (a' := ?_) #[true, true, true, true, true, true, false, true, true, true, true, false, false, false, false, false, false] rfl rfl (any_of HT_.out (by kernel_rfl)) (fun _ _ _ h => h) (Or.inl ⟨by rfl, ?_⟩) ?_ ?_
       rotate_left
       ·intro w'
        go_simp
        with_reducible rfl
       rotate_left
       ·simp only [Act.put, List.setIfInBounds_toArray, List.set_cons_zero, List.set_cons_succ, i64_w, i32_w]
        rfl
       refine pure_ (i := 11) (N := some 31) (v := ?_) (a' := ?_) #[true, true, true, true, true, true, false, true, true, true, true, true, false, false, false, false, false] rfl rfl (any_of HT_.out (by kernel_rfl)) (fun _ _ _ h => h) (Or.inl ⟨by rfl, ?_⟩) ?_ ?_
       rotate_left
       ·intro w'
        go_simp
        with_reducible rfl
       rotate_left
       ·simp only [Act.put, List.setIfInBounds_toArray, List.set_cons_zero, List.set_cons_succ, i64_w, i32_w]
        rfl
       refine take_ (i := 12) (N := some 32) (v := ?_) (a' := ?_) #[true, true, true, true, true, true, false, true, true, true, true, true, true, false, false, false, false] rfl rfl (take_ofW HT_.out HW_.out (by kernel_rfl)) (fun _ _ _ h => h) (Or.inl ⟨by rfl, ?_⟩) hHeld ?_ ?_
       rotate_left
       ·rintro w' ⟨s0, s1, s2, s3, s4, s5⟩
        go_simp
        with_reducible rfl
       rotate_left
       ·simp only [Act.put, List.setIfInBounds_toArray, List.set_cons_zero, List.set_cons_succ, i64_w, i32_w]
        rfl
       refine join_ (σ := Nat) 1 #[true, true, true, true, true, true, true, true, true, true, true, true, true, true, true, true, false] (fun s_ => [(26, .string t239), (33, .string t241), (6, .pointer (some ⟨s_, 0, none⟩)), (34, .agg #[.string t239, .string t241])]) (fun s_ w' => (w'.cell? ⟨gb236, 0, none⟩ = some (.slice (some ad238) t232.length co7) ∧ w'.cell? ⟨gb236, 1, none⟩ = some (.bool true) ∧ w'.cell? (ad238.add ((x5_1).toNat * 2)) = some (.string ((rd_T41 t232 x5_1).f0)) ∧ w'.cell? ⟨(ad238.add ((x5_1).toNat * 2)).block, (ad238.add ((x5_1).toNat * 2)).off + 1, none⟩ = some (.string ((rd_T41 t232 x5_1).f1)) ∧ w'.cell? (ad238.add ((x5_1).toNat * 2)) = some (.string ((rd_T41 t232 x5_1).f0)) ∧ w'.cell? ⟨(ad238.add ((x5_1).toNat * 2)).block, (ad238.add ((x5_1).toNat * 2)).off + 1, none⟩ = some (.string ((rd_T41 t232 x5_1).f1))) ∧ (Kd.R k41 41 w' w.heap.size (fun k_ => some k_ ≠ (u4 : Value).ownBlock ∧ k_ ≠ s_) (.slice (some ad238) t232.length co7) t232) ∧ (Kd.R k41 41 w' w.heap.size (fun k_ => some k_ ≠ (.slice (some ad238) t232.length co7 : Value).ownBlock ∧ k_ ≠ s_) u4 x4_1) ∧ (w'.heap[gb231]? = some (.cells #[.string x232000_1, .bool x232001_1] 26 (0, 0))) ∧ (w'.heap[gb236]? = some (.cells #[.slice (some ad238) t232.length co7, .bool true] 56 (0, 0))) ∧ (w'.heap[s_]? = some (.cells #[.string (⟨#[]⟩ : ByteArray), .string (⟨#[]⟩ : ByteArray)] 41 (0, 0))) ∧ (w.heap.size ≤ s_) ∧ (w.heap.size ≤ s_) ∧ (gb231 ≠ s_) ∧ (s_ ≠ gb231) ∧ (gb236 ≠ s_) ∧ (s_ ≠ gb236) ∧ (Below w.heap.size w w')) ?_ ?_
       rotate_left
       ·intro hCont
        refine two_ (i := 6) (j := 15) (Ni := some 26) (Nj := some 6) #[true, true, true, true, true, true, true, true, true, true, true, true, true, false, false, false, false] #[true, true, true, true, true, true, false, true, true, true, true, true, true, false, false, true, false] rfl rfl rfl rfl (two_of HT_.out (by kernel_rfl)) (by decide) (by decide) (fun K hK => ?_) (fun K hK => ?_)
        ·skip
         refine goes_ Tryz.func19 (by kernel_rfl) rfl #[.string ((rd_T41 t232 x5_1).f0)] (by rfl) rfl rfl (by (try simp only [List.map_toArray, List.map_cons, List.map_nil]); first | done | rfl | (simp only [List.length_drop, List.length_take]; rfl)) ?_
         with_reducible refine (brookref1_Lower.calls ((rd_T41 t232 x5_1).f0) t239 _ A12.out).mono ?_
         rintro e w18 ⟨rfl, hb⟩
         have HS2_ := (hb.cell (World.block_lt_of_cell? _ _ (hHeld.2.2.1))).trans (hHeld.2.2.1)
         have HS3_ := (hb.cell (World.block_lt_of_cell? _ _ (hHeld.2.2.2.1))).trans (hHeld.2.2.2.1)
         have HS4_ := (hb.cell (World.block_lt_of_cell? _ _ (hHeld.2.2.2.2.1))).trans (hHeld.2.2.2.2.1)
         have HS5_ := (hb.cell (World.block_lt_of_cell? _ _ (hHeld.2.2.2.2.2))).trans (hHeld.2.2.2.2.2)
         refine ⟨_, rfl, ?_⟩
         have n0_ := Aside0.mk (Kd.R_below (by (with_reducible repeat (first | apply Kd.R_alloc | apply Kd.R_drewN | apply Kd.R_drew)); exact HO_4.out) hb)
         have n1_ := Aside0.mk (Kd.R_below (by (with_reducible repeat (first | apply Kd.R_alloc | apply Kd.R_drewN | apply Kd.R_drew)); exact HO_237000.out) hb)
         have n2_ := Aside0.mk (blk_below (g := gb231) (o := .cells #[.string x232000_1, .bool x232001_1] 26 (0, 0)) (by (with_reducible repeat (first | refine blk_drewN ?_ _ | refine blk_drew ?_ | refine blk_alloc ?_ _)); exact BK231.out) hb)
         have n3_ := Aside0.mk (blk_below (g := gb236) (o := .cells #[.slice (some ad238) t232.length co7, .bool true] 56 (0, 0)) (by (with_reducible repeat (first | refine blk_drewN ?_ _ | refine blk_drew ?_ | refine blk_alloc ?_ _)); exact BK236.out) hb)
         have n4_ := Aside0.mk (below_step (by repeat (first | (with_reducible first | exact HB.out | apply below_alloc | apply pw_below_drewN | apply below_drew1 | refine below_set ?_ GE231.out | refine below_set ?_ GE236.out) | exact HB.out)) hb)
         clear HO_4
         clear HO_237000
         clear BK231
         clear BK236
         clear HB
         have HO_4 := n0_
         have HO_237000 := n1_
         have BK231 := n2_
         have BK236 := n3_
         have HB := n4_
         clear n0_ n1_ n2_ n3_ n4_
         (try clear hb)
         (try clear hb2)
         (try clear hk)
         (try clear hi)
         refine hK.out _ _ ⟨(blk_cell BK236.out 0).trans rfl, (blk_cell BK236.out 1).trans rfl, HS2_, HS3_, HS4_, HS5_⟩ (fun hHeld => ?_)
         clear hK K
         refine norm_ (a' := ?_) ?_ ?_
         rotate_left
         ·show Act.put _ (some 26) _ = _
          simp only [Act.put, List.setIfInBounds_toArray, List.set_cons_zero, List.set_cons_succ, i64_w, i32_w]
          rfl
         refine two_ (i := 13) (j := 15) (Ni := some 33) (Nj := some 6) #[true, true, true, true, true, true, true, true, true, true, true, true, true, true, false, false, false] #[true, true, true, true, true, true, true, true, true, true, true, true, true, false, false, true, false] rfl rfl rfl rfl (two_of HT_.out (by kernel_rfl)) (by decide) (by decide) (fun K hK => ?_) (fun K hK => ?_)
         ·skip
          refine goes_ Tryz.func25 (by kernel_rfl) rfl #[.string ((rd_T41 t232 x5_1).f1)] (by rfl) rfl rfl (by (try simp only [List.map_toArray, List.map_cons, List.map_nil]); first | done | rfl | (simp only [List.length_drop, List.length_take]; rfl)) ?_
          with_reducible refine (brookref1_Fold.calls k1 ((rd_T41 t232 x5_1).f1) t241 _ A13.out).mono ?_
          rintro e w19 ⟨rfl, hb⟩
          have HS2_ := (hb.cell (World.block_lt_of_cell? _ _ (hHeld.2.2.1))).trans (hHeld.2.2.1)
          have HS3_ := (hb.cell (World.block_lt_of_cell? _ _ (hHeld.2.2.2.1))).trans (hHeld.2.2.2.1)
          have HS4_ := (hb.cell (World.block_lt_of_cell? _ _ (hHeld.2.2.2.2.1))).trans (hHeld.2.2.2.2.1)
          have HS5_ := (hb.cell (World.block_lt_of_cell? _ _ (hHeld.2.2.2.2.2))).trans (hHeld.2.2.2.2.2)
          refine ⟨_, rfl, ?_⟩
          have n0_ := Aside0.mk (Kd.R_below (by (with_reducible repeat (first | apply Kd.R_alloc | apply Kd.R_drewN | apply Kd.R_drew)); exact HO_4.out) hb)
          have n1_ := Aside0.mk (Kd.R_below (by (with_reducible repeat (first | apply Kd.R_alloc | apply Kd.R_drewN | apply Kd.R_drew)); exact HO_237000.out) hb)
          have n2_ := Aside0.mk (blk_below (g := gb231) (o := .cells #[.string x232000_1, .bool x232001_1] 26 (0, 0)) (by (with_reducible repeat (first | refine blk_drewN ?_ _ | refine blk_drew ?_ | refine blk_alloc ?_ _)); exact BK231.out) hb)
          have n3_ := Aside0.mk (blk_below (g := gb236) (o := .cells #[.slice (some ad238) t232.length co7, .bool true] 56 (0, 0)) (by (with_reducible repeat (first | refine blk_drewN ?_ _ | refine blk_drew ?_ | refine blk_alloc ?_ _)); exact BK236.out) hb)
          have n4_ := Aside0.mk (below_step (by repeat (first | (with_reducible first | exact HB.out | apply below_alloc | apply pw_below_drewN | apply below_drew1 | refine below_set ?_ GE231.out | refine below_set ?_ GE236.out) | exact HB.out)) hb)
          clear HO_4
          clear HO_237000
          clear BK231
          clear BK236
          clear HB
          have HO_4 := n0_
          have HO_237000 := n1_
          have BK231 := n2_
          have BK236 := n3_
          have HB := n4_
          clear n0_ n1_ n2_ n3_ n4_
          (try clear hb)
          (try clear hb2)
          (try clear hk)
          (try clear hi)
          refine hK.out _ _ ⟨(blk_cell BK236.out 0).trans rfl, (blk_cell BK236.out 1).trans rfl, HS2_, HS3_, HS4_, HS5_⟩ (fun hHeld => ?_)
          clear hK K
          refine norm_ (a' := ?_) ?_ ?_
          rotate_left
          ·show Act.put _ (some 33) _ = _
           simp only [Act.put, List.setIfInBounds_toArray, List.set_cons_zero, List.set_cons_succ, i64_w, i32_w]
           rfl
          refine pure_ (i := 14) (N := some 34) (v := ?_) (a' := ?_) #[true, true, true, true, true, true, true, true, true, true, true, true, true, true, true, false, false] rfl rfl (any_of HT_.out (by kernel_rfl)) (fun _ _ _ h => h) (Or.inl ⟨by rfl, ?_⟩) ?_ ?_
          rotate_left
          ·intro w'
           go_simp
           with_reducible rfl
          rotate_left
          ·simp only [Act.put, List.setIfInBounds_toArray, List.set_cons_zero, List.set_cons_succ, i64_w, i32_w]
           rfl
          refine one_ (i := 15) (N := some 6) #[true, true, true, true, true, true, true, true, true, true, true, true, true, true, true, true, false] rfl rfl (one_of HT_.out (by kernel_rfl)) (by decide) (fun K hK => ?_)
          refine box_step ?hg (N := 6) ?hd (cs := #[.string (⟨#[]⟩ : ByteArray), .string (⟨#[]⟩ : ByteArray)]) (t := 41) ?hr ?_; (case hd => rfl); (case hg => rfl); (case hr => first | (go_simp; done) | (go_simp; rfl))
          intro gb242 hg w20 hbox hb
          have HS2_ := (hb.cell (World.block_lt_of_cell? _ _ (hHeld.2.2.1))).trans (hHeld.2.2.1)
          have HS3_ := (hb.cell (World.block_lt_of_cell? _ _ (hHeld.2.2.2.1))).trans (hHeld.2.2.2.1)
          have HS4_ := (hb.cell (World.block_lt_of_cell? _ _ (hHeld.2.2.2.2.1))).trans (hHeld.2.2.2.2.1)
          have HS5_ := (hb.cell (World.block_lt_of_cell? _ _ (hHeld.2.2.2.2.2))).trans (hHeld.2.2.2.2.2)
          have n0_ := Aside0.mk (Kd.R_below (Kd.R_elderB (by (with_reducible repeat (first | apply Kd.R_alloc | apply Kd.R_drewN | apply Kd.R_drew)); exact HO_4.out) gb242 (Nat.le_of_eq hg.symm)) hb)
          have n1_ := Aside0.mk (Kd.R_below (Kd.R_elderB (by (with_reducible repeat (first | apply Kd.R_alloc | apply Kd.R_drewN | apply Kd.R_drew)); exact HO_237000.out) gb242 (Nat.le_of_eq hg.symm)) hb)
          have n2_ := Aside0.mk (blk_below (g := gb231) (o := .cells #[.string x232000_1, .bool x232001_1] 26 (0, 0)) (by (with_reducible repeat (first | refine blk_drewN ?_ _ | refine blk_drew ?_ | refine blk_alloc ?_ _)); exact BK231.out) hb)
          have n3_ := Aside0.mk (blk_below (g := gb236) (o := .cells #[.slice (some ad238) t232.length co7, .bool true] 56 (0, 0)) (by (with_reducible repeat (first | refine blk_drewN ?_ _ | refine blk_drew ?_ | refine blk_alloc ?_ _)); exact BK236.out) hb)
          have n4_ := Aside0.mk (below_step (by repeat (first | (with_reducible first | exact HB.out | apply below_alloc | apply pw_below_drewN | apply below_drew1 | refine below_set ?_ GE231.out | refine below_set ?_ GE236.out) | exact HB.out)) hb)
          have n5_ := Aside0.mk (hbox)
          have n6_ := Aside0.mk ((by rw [hg]; exact (below_size (by repeat (first | (with_reducible first | exact HB.out | apply below_alloc | apply pw_below_drewN | apply below_drew1 | refine below_set ?_ GE231.out | refine below_set ?_ GE236.out) | exact HB.out))) : w.heap.size ≤ gb242))
          have n7_ := Aside0.mk ((by rw [hg]; exact (below_size (by repeat (first | (with_reducible first | exact HB.out | apply below_alloc | apply pw_below_drewN | apply below_drew1 | refine below_set ?_ GE231.out | refine below_set ?_ GE236.out) | exact HB.out))) : w.heap.size ≤ gb242))
          have n8_ := Aside0.mk ((by rw [hg]; exact Nat.ne_of_lt (blk_lt (g := gb231) (o := .cells #[.string x232000_1, .bool x232001_1] 26 (0, 0)) (by (with_reducible repeat (first | refine blk_drewN ?_ _ | refine blk_drew ?_ | refine blk_alloc ?_ _)); exact BK231.out)) : gb231 ≠ gb242))
          have n9_ := Aside0.mk ((by rw [hg]; exact Nat.ne_of_gt (blk_lt (g := gb231) (o := .cells #[.string x232000_1, .bool x232001_1] 26 (0, 0)) (by (with_reducible repeat (first | refine blk_drewN ?_ _ | refine blk_drew ?_ | refine blk_alloc ?_ _)); exact BK231.out)) : gb242 ≠ gb231))
          have n10_ := Aside0.mk ((by rw [hg]; exact Nat.ne_of_lt (blk_lt (g := gb236) (o := .cells #[.slice (some ad238) t232.length co7, .bool true] 56 (0, 0)) (by (with_reducible repeat (first | refine blk_drewN ?_ _ | refine blk_drew ?_ | refine blk_alloc ?_ _)); exact BK236.out)) : gb236 ≠ gb242))
          have n11_ := Aside0.mk ((by rw [hg]; exact Nat.ne_of_gt (blk_lt (g := gb236) (o := .cells #[.slice (some ad238) t232.length co7, .bool true] 56 (0, 0)) (by (with_reducible repeat (first | refine blk_drewN ?_ _ | refine blk_drew ?_ | refine blk_alloc ?_ _)); exact BK236.out)) : gb242 ≠ gb236))
          clear HO_4
          clear HO_237000
          clear BK231
          clear BK236
          clear HB
          have HO_4 := n0_
          have HO_237000 := n1_
          have BK231 := n2_
          have BK236 := n3_
          have HB := n4_
          have BK242 := n5_
          have GW242 := n6_
          have GE242 := n7_
          have NB231_242 := n8_
          have NB242_231 := n9_
          have NB236_242 := n10_
          have NB242_236 := n11_
          clear n0_ n1_ n2_ n3_ n4_ n5_ n6_ n7_ n8_ n9_ n10_ n11_
          clear hb hbox hg
          refine hK.out _ _ ⟨(blk_cell BK236.out 0).trans rfl, (blk_cell BK236.out 1).trans rfl, HS2_, HS3_, HS4_, HS5_⟩ (fun hHeld => ?_)
          clear hK K
          refine norm_ (a' := ?_) ?_ ?_
          rotate_left
          ·show Act.put _ (some 6) _ = _
           simp only [Act.put, List.setIfInBounds_toArray, List.set_cons_zero, List.set_cons_succ, i64_w, i32_w]
           rfl
          exact norm_ (by simp only [putAll, Act.put, List.setIfInBounds_toArray, List.set_cons_zero, List.set_cons_succ]) (hCont (gb242) _ ⟨hHeld, (by (with_reducible repeat (first | apply Kd.R_alloc | apply Kd.R_drewN | apply Kd.R_drew)); exact HO_237000.out), (by (with_reducible repeat (first | apply Kd.R_alloc | apply Kd.R_drewN | apply Kd.R_drew)); exact HO_4.out), (by (with_reducible repeat (first | refine blk_drewN ?_ _ | refine blk_drew ?_ | refine blk_alloc ?_ _)); exact BK231.out), (by (with_reducible repeat (first | refine blk_drewN ?_ _ | refine blk_drew ?_ | refine blk_alloc ?_ _)); exact BK236.out), (by (with_reducible repeat (first | refine blk_drewN ?_ _ | refine blk_drew ?_ | refine blk_alloc ?_ _)); exact BK242.out), GW242.out, GE242.out, NB231_242.out, NB242_231.out, NB236_242.out, NB242_236.out, (by repeat (first | (with_reducible first | exact HB.out | apply below_alloc | apply pw_below_drewN | apply below_drew1 | refine below_set ?_ GE231.out | refine below_set ?_ GE236.out | refine below_set ?_ GE242.out) | exact HB.out))⟩)
         ·skip
          refine box_step ?hg (N := 6) ?hd (cs := #[.string (⟨#[]⟩ : ByteArray), .string (⟨#[]⟩ : ByteArray)]) (t := 41) ?hr ?_; (case hd => rfl); (case hg => rfl); (case hr => first | (go_simp; done) | (go_simp; rfl))
          intro gb242 hg w19 hbox hb
          have HS2_ := (hb.cell (World.block_lt_of_cell? _ _ (hHeld.2.2.1))).trans (hHeld.2.2.1)
          have HS3_ := (hb.cell (World.block_lt_of_cell? _ _ (hHeld.2.2.2.1))).trans (hHeld.2.2.2.1)
          have HS4_ := (hb.cell (World.block_lt_of_cell? _ _ (hHeld.2.2.2.2.1))).trans (hHeld.2.2.2.2.1)
          have HS5_ := (hb.cell (World.block_lt_of_cell? _ _ (hHeld.2.2.2.2.2))).trans (hHeld.2.2.2.2.2)
          have n0_ := Aside0.mk (Kd.R_below (Kd.R_elderB (by (with_reducible repeat (first | apply Kd.R_alloc | apply Kd.R_drewN | apply Kd.R_drew)); exact HO_4.out) gb242 (Nat.le_of_eq hg.symm)) hb)
          have n1_ := Aside0.mk (Kd.R_below (Kd.R_elderB (by (with_reducible repeat (first | apply Kd.R_alloc | apply Kd.R_drewN | apply Kd.R_drew)); exact HO_237000.out) gb242 (Nat.le_of_eq hg.symm)) hb)
          have n2_ := Aside0.mk (blk_below (g := gb231) (o := .cells #[.string x232000_1, .bool x232001_1] 26 (0, 0)) (by (with_reducible repeat (first | refine blk_drewN ?_ _ | refine blk_drew ?_ | refine blk_alloc ?_ _)); exact BK231.out) hb)
          have n3_ := Aside0.mk (blk_below (g := gb236) (o := .cells #[.slice (some ad238) t232.length co7, .bool true] 56 (0, 0)) (by (with_reducible repeat (first | refine blk_drewN ?_ _ | refine blk_drew ?_ | refine blk_alloc ?_ _)); exact BK236.out) hb)
          have n4_ := Aside0.mk (below_step (by repeat (first | (with_reducible first | exact HB.out | apply below_alloc | apply pw_below_drewN | apply below_drew1 | refine below_set ?_ GE231.out | refine below_set ?_ GE236.out) | exact HB.out)) hb)
          have n5_ := Aside0.mk (hbox)
          have n6_ := Aside0.mk ((by rw [hg]; exact (below_size (by repeat (first | (with_reducible first | exact HB.out | apply below_alloc | apply pw_below_drewN | apply below_drew1 | refine below_set ?_ GE231.out | refine below_set ?_ GE236.out) | exact HB.out))) : w.heap.size ≤ gb242))
          have n7_ := Aside0.mk ((by rw [hg]; exact (below_size (by repeat (first | (with_reducible first | exact HB.out | apply below_alloc | apply pw_below_drewN | apply below_drew1 | refine below_set ?_ GE231.out | refine below_set ?_ GE236.out) | exact HB.out))) : w.heap.size ≤ gb242))
          have n8_ := Aside0.mk ((by rw [hg]; exact Nat.ne_of_lt (blk_lt (g := gb231) (o := .cells #[.string x232000_1, .bool x232001_1] 26 (0, 0)) (by (with_reducible repeat (first | refine blk_drewN ?_ _ | refine blk_drew ?_ | refine blk_alloc ?_ _)); exact BK231.out)) : gb231 ≠ gb242))
          have n9_ := Aside0.mk ((by rw [hg]; exact Nat.ne_of_gt (blk_lt (g := gb231) (o := .cells #[.string x232000_1, .bool x232001_1] 26 (0, 0)) (by (with_reducible repeat (first | refine blk_drewN ?_ _ | refine blk_drew ?_ | refine blk_alloc ?_ _)); exact BK231.out)) : gb242 ≠ gb231))
          have n10_ := Aside0.mk ((by rw [hg]; exact Nat.ne_of_lt (blk_lt (g := gb236) (o := .cells #[.slice (some ad238) t232.length co7, .bool true] 56 (0, 0)) (by (with_reducible repeat (first | refine blk_drewN ?_ _ | refine blk_drew ?_ | refine blk_alloc ?_ _)); exact BK236.out)) : gb236 ≠ gb242))
          have n11_ := Aside0.mk ((by rw [hg]; exact Nat.ne_of_gt (blk_lt (g := gb236) (o := .cells #[.slice (some ad238) t232.length co7, .bool true] 56 (0, 0)) (by (with_reducible repeat (first | refine blk_drewN ?_ _ | refine blk_drew ?_ | refine blk_alloc ?_ _)); exact BK236.out)) : gb242 ≠ gb236))
          clear HO_4
          clear HO_237000
          clear BK231
          clear BK236
          clear HB
          have HO_4 := n0_
          have HO_237000 := n1_
          have BK231 := n2_
          have BK236 := n3_
          have HB := n4_
          have BK242 := n5_
          have GW242 := n6_
          have GE242 := n7_
          have NB231_242 := n8_
          have NB242_231 := n9_
          have NB236_242 := n10_
          have NB242_236 := n11_
          clear n0_ n1_ n2_ n3_ n4_ n5_ n6_ n7_ n8_ n9_ n10_ n11_
          clear hb hbox hg
          refine hK.out _ _ ⟨(blk_cell BK236.out 0).trans rfl, (blk_cell BK236.out 1).trans rfl, HS2_, HS3_, HS4_, HS5_⟩ (fun hHeld => ?_)
          clear hK K
          refine norm_ (a' := ?_) ?_ ?_
          rotate_left
          ·show Act.put _ (some 6) _ = _
           simp only [Act.put, List.setIfInBounds_toArray, List.set_cons_zero, List.set_cons_succ, i64_w, i32_w]
           rfl
          refine one_ (i := 13) (N := some 33) #[true, true, true, true, true, true, true, true, true, true, true, true, true, true, false, true, false] rfl rfl (one_of HT_.out (by kernel_rfl)) (by decide) (fun K hK => ?_)
          refine goes_ Tryz.func25 (by kernel_rfl) rfl #[.string ((rd_T41 t232 x5_1).f1)] (by rfl) rfl rfl (by (try simp only [List.map_toArray, List.map_cons, List.map_nil]); first | done | rfl | (simp only [List.length_drop, List.length_take]; rfl)) ?_
          with_reducible refine (brookref1_Fold.calls k1 ((rd_T41 t232 x5_1).f1) t241 _ A13.out).mono ?_
          rintro e w20 ⟨rfl, hb⟩
          have HS2_ := (hb.cell (World.block_lt_of_cell? _ _ (hHeld.2.2.1))).trans (hHeld.2.2.1)
          have HS3_ := (hb.cell (World.block_lt_of_cell? _ _ (hHeld.2.2.2.1))).trans (hHeld.2.2.2.1)
          have HS4_ := (hb.cell (World.block_lt_of_cell? _ _ (hHeld.2.2.2.2.1))).trans (hHeld.2.2.2.2.1)
          have HS5_ := (hb.cell (World.block_lt_of_cell? _ _ (hHeld.2.2.2.2.2))).trans (hHeld.2.2.2.2.2)
          refine ⟨_, rfl, ?_⟩
          have n0_ := Aside0.mk (Kd.R_below (by (with_reducible repeat (first | apply Kd.R_alloc | apply Kd.R_drewN | apply Kd.R_drew)); exact HO_4.out) hb)
          have n1_ := Aside0.mk (Kd.R_below (by (with_reducible repeat (first | apply Kd.R_alloc | apply Kd.R_drewN | apply Kd.R_drew)); exact HO_237000.out) hb)
          have n2_ := Aside0.mk (blk_below (g := gb231) (o := .cells #[.string x232000_1, .bool x232001_1] 26 (0, 0)) (by (with_reducible repeat (first | refine blk_drewN ?_ _ | refine blk_drew ?_ | refine blk_alloc ?_ _)); exact BK231.out) hb)
          have n3_ := Aside0.mk (blk_below (g := gb236) (o := .cells #[.slice (some ad238) t232.length co7, .bool true] 56 (0, 0)) (by (with_reducible repeat (first | refine blk_drewN ?_ _ | refine blk_drew ?_ | refine blk_alloc ?_ _)); exact BK236.out) hb)
          have n4_ := Aside0.mk (blk_below (g := gb242) (o := .cells #[.string (⟨#[]⟩ : ByteArray), .string (⟨#[]⟩ : ByteArray)] 41 (0, 0)) (by (with_reducible repeat (first | refine blk_drewN ?_ _ | refine blk_drew ?_ | refine blk_alloc ?_ _)); exact BK242.out) hb)
          have n5_ := Aside0.mk (below_step (by repeat (first | (with_reducible first | exact HB.out | apply below_alloc | apply pw_below_drewN | apply below_drew1 | refine below_set ?_ GE231.out | refine below_set ?_ GE236.out | refine below_set ?_ GE242.out) | exact HB.out)) hb)
          clear HO_4
          clear HO_237000
          clear BK231
          clear BK236
          clear BK242
          clear HB
          have HO_4 := n0_
          have HO_237000 := n1_
          have BK231 := n2_
          have BK236 := n3_
          have BK242 := n4_
          have HB := n5_
          clear n0_ n1_ n2_ n3_ n4_ n5_
          (try clear hb)
          (try clear hb2)
          (try clear hk)
          (try clear hi)
          refine hK.out _ _ ⟨(blk_cell BK236.out 0).trans rfl, (blk_cell BK236.out 1).trans rfl, HS2_, HS3_, HS4_, HS5_⟩ (fun hHeld => ?_)
          clear hK K
          refine norm_ (a' := ?_) ?_ ?_
          rotate_left
          ·show Act.put _ (some 33) _ = _
           simp only [Act.put, List.setIfInBounds_toArray, List.set_cons_zero, List.set_cons_succ, i64_w, i32_w]
           rfl
          refine pure_ (i := 14) (N := some 34) (v := ?_) (a' := ?_) #[true, true, true, true, true, true, true, true, true, true, true, true, true, true, true, true, false] rfl rfl (any_of HT_.out (by kernel_rfl)) (fun _ _ _ h => h) (Or.inl ⟨by rfl, ?_⟩) ?_ ?_
          rotate_left
          ·intro w'
           go_simp
           with_reducible rfl
          rotate_left
          ·simp only [Act.put, List.setIfInBounds_toArray, List.set_cons_zero, List.set_cons_succ, i64_w, i32_w]
           rfl
          exact norm_ (by simp only [putAll, Act.put, List.setIfInBounds_toArray, List.set_cons_zero, List.set_cons_succ]) (hCont (gb242) _ ⟨hHeld, (by (with_reducible repeat (first | apply Kd.R_alloc | apply Kd.R_drewN | apply Kd.R_drew)); exact HO_237000.out), (by (with_reducible repeat (first | apply Kd.R_alloc | apply Kd.R_drewN | apply Kd.R_drew)); exact HO_4.out), (by (with_reducible repeat (first | refine blk_drewN ?_ _ | refine blk_drew ?_ | refine blk_alloc ?_ _)); exact BK231.out), (by (with_reducible repeat (first | refine blk_drewN ?_ _ | refine blk_drew ?_ | refine blk_alloc ?_ _)); exact BK236.out), (by (with_reducible repeat (first | refine blk_drewN ?_ _ | refine blk_drew ?_ | refine blk_alloc ?_ _)); exact BK242.out), GW242.out, GE242.out, NB231_242.out, NB242_231.out, NB236_242.out, NB242_236.out, (by repeat (first | (with_reducible first | exact HB.out | apply below_alloc | apply pw_below_drewN | apply below_drew1 | refine below_set ?_ GE231.out | refine below_set ?_ GE236.out | refine below_set ?_ GE242.out) | exact HB.out))⟩)
        ·skip
         refine box_step ?hg (N := 6) ?hd (cs := #[.string (⟨#[]⟩ : ByteArray), .string (⟨#[]⟩ : ByteArray)]) (t := 41) ?hr ?_; (case hd => rfl); (case hg => rfl); (case hr => first | (go_simp; done) | (go_simp; rfl))
         intro gb242 hg w18 hbox hb
         have HS2_ := (hb.cell (World.block_lt_of_cell? _ _ (hHeld.2.2.1))).trans (hHeld.2.2.1)
         have HS3_ := (hb.cell (World.block_lt_of_cell? _ _ (hHeld.2.2.2.1))).trans (hHeld.2.2.2.1)
         have HS4_ := (hb.cell (World.block_lt_of_cell? _ _ (hHeld.2.2.2.2.1))).trans (hHeld.2.2.2.2.1)
         have HS5_ := (hb.cell (World.block_lt_of_cell? _ _ (hHeld.2.2.2.2.2))).trans (hHeld.2.2.2.2.2)
         have n0_ := Aside0.mk (Kd.R_below (Kd.R_elderB (by (with_reducible repeat (first | apply Kd.R_alloc | apply Kd.R_drewN | apply Kd.R_drew)); exact HO_4.out) gb242 (Nat.le_of_eq hg.symm)) hb)
         have n1_ := Aside0.mk (Kd.R_below (Kd.R_elderB (by (with_reducible repeat (first | apply Kd.R_alloc | apply Kd.R_drewN | apply Kd.R_drew)); exact HO_237000.out) gb242 (Nat.le_of_eq hg.symm)) hb)
         have n2_ := Aside0.mk (blk_below (g := gb231) (o := .cells #[.string x232000_1, .bool x232001_1] 26 (0, 0)) (by (with_reducible repeat (first | refine blk_drewN ?_ _ | refine blk_drew ?_ | refine blk_alloc ?_ _)); exact BK231.out) hb)
         have n3_ := Aside0.mk (blk_below (g := gb236) (o := .cells #[.slice (some ad238) t232.length co7, .bool true] 56 (0, 0)) (by (with_reducible repeat (first | refine blk_drewN ?_ _ | refine blk_drew ?_ | refine blk_alloc ?_ _)); exact BK236.out) hb)
         have n4_ := Aside0.mk (below_step (by repeat (first | (with_reducible first | exact HB.out | apply below_alloc | apply pw_below_drewN | apply below_drew1 | refine below_set ?_ GE231.out | refine below_set ?_ GE236.out) | exact HB.out)) hb)
         have n5_ := Aside0.mk (hbox)
         have n6_ := Aside0.mk ((by rw [hg]; exact (below_size (by repeat (first | (with_reducible first | exact HB.out | apply below_alloc | apply pw_below_drewN | apply below_drew1 | refine below_set ?_ GE231.out | refine below_set ?_ GE236.out) | exact HB.out))) : w.heap.size ≤ gb242))
         have n7_ := Aside0.mk ((by rw [hg]; exact (below_size (by repeat (first | (with_reducible first | exact HB.out | apply below_alloc | apply pw_below_drewN | apply below_drew1 | refine below_set ?_ GE231.out | refine below_set ?_ GE236.out) | exact HB.out))) : w.heap.size ≤ gb242))
         have n8_ := Aside0.mk ((by rw [hg]; exact Nat.ne_of_lt (blk_lt (g := gb231) (o := .cells #[.string x232000_1, .bool x232001_1] 26 (0, 0)) (by (with_reducible repeat (first | refine blk_drewN ?_ _ | refine blk_drew ?_ | refine blk_alloc ?_ _)); exact BK231.out)) : gb231 ≠ gb242))
         have n9_ := Aside0.mk ((by rw [hg]; exact Nat.ne_of_gt (blk_lt (g := gb231) (o := .cells #[.string x232000_1, .bool x232001_1] 26 (0, 0)) (by (with_reducible repeat (first | refine blk_drewN ?_ _ | refine blk_drew ?_ | refine blk_alloc ?_ _)); exact BK231.out)) : gb242 ≠ gb231))
         have n10_ := Aside0.mk ((by rw [hg]; exact Nat.ne_of_lt (blk_lt (g := gb236) (o := .cells #[.slice (some ad238) t232.length co7, .bool true] 56 (0, 0)) (by (with_reducible repeat (first | refine blk_drewN ?_ _ | refine blk_drew ?_ | refine blk_alloc ?_ _)); exact BK236.out)) : gb236 ≠ gb242))
         have n11_ := Aside0.mk ((by rw [hg]; exact Nat.ne_of_gt (blk_lt (g := gb236) (o := .cells #[.slice (some ad238) t232.length co7, .bool true] 56 (0, 0)) (by (with_reducible repeat (first | refine blk_drewN ?_ _ | refine blk_drew ?_ | refine blk_alloc ?_ _)); exact BK236.out)) : gb242 ≠ gb236))
         clear HO_4
         clear HO_237000
         clear BK231
         clear BK236
         clear HB
         have HO_4 := n0_
         have HO_237000 := n1_
         have BK231 := n2_
         have BK236 := n3_
         have HB := n4_
         have BK242 := n5_
         have GW242 := n6_
         have GE242 := n7_
         have NB231_242 := n8_
         have NB242_231 := n9_
         have NB236_242 := n10_
         have NB242_236 := n11_
         clear n0_ n1_ n2_ n3_ n4_ n5_ n6_ n7_ n8_ n9_ n10_ n11_
         clear hb hbox hg
         refine hK.out _ _ ⟨(blk_cell BK236.out 0).trans rfl, (blk_cell BK236.out 1).trans rfl, HS2_, HS3_, HS4_, HS5_⟩ (fun hHeld => ?_)
         clear hK K
         refine norm_ (a' := ?_) ?_ ?_
         rotate_left
         ·show Act.put _ (some 6) _ = _
          simp only [Act.put, List.setIfInBounds_toArray, List.set_cons_zero, List.set_cons_succ, i64_w, i32_w]
          rfl
         refine one_ (i := 6) (N := some 26) #[true, true, true, true, true, true, true, true, true, true, true, true, true, false, false, true, false] rfl rfl (one_of HT_.out (by kernel_rfl)) (by decide) (fun K hK => ?_)
         refine goes_ Tryz.func19 (by kernel_rfl) rfl #[.string ((rd_T41 t232 x5_1).f0)] (by rfl) rfl rfl (by (try simp only [List.map_toArray, List.map_cons, List.map_nil]); first | done | rfl | (simp only [List.length_drop, List.length_take]; rfl)) ?_
         with_reducible refine (brookref1_Lower.calls ((rd_T41 t232 x5_1).f0) t239 _ A12.out).mono ?_
         rintro e w19 ⟨rfl, hb⟩
         have HS2_ := (hb.cell (World.block_lt_of_cell? _ _ (hHeld.2.2.1))).trans (hHeld.2.2.1)
         have HS3_ := (hb.cell (World.block_lt_of_cell? _ _ (hHeld.2.2.2.1))).trans (hHeld.2.2.2.1)
         have HS4_ := (hb.cell (World.block_lt_of_cell? _ _ (hHeld.2.2.2.2.1))).trans (hHeld.2.2.2.2.1)
         have HS5_ := (hb.cell (World.block_lt_of_cell? _ _ (hHeld.2.2.2.2.2))).trans (hHeld.2.2.2.2.2)
         refine ⟨_, rfl, ?_⟩
         have n0_ := Aside0.mk (Kd.R_below (by (with_reducible repeat (first | apply Kd.R_alloc | apply Kd.R_drewN | apply Kd.R_drew)); exact HO_4.out) hb)
         have n1_ := Aside0.mk (Kd.R_below (by (with_reducible repeat (first | apply Kd.R_alloc | apply Kd.R_drewN | apply Kd.R_drew)); exact HO_237000.out) hb)
         have n2_ := Aside0.mk (blk_below (g := gb231) (o := .cells #[.string x232000_1, .bool x232001_1] 26 (0, 0)) (by (with_reducible repeat (first | refine blk_drewN ?_ _ | refine blk_drew ?_ | refine blk_alloc ?_ _)); exact BK231.out) hb)
         have n3_ := Aside0.mk (blk_below (g := gb236) (o := .cells #[.slice (some ad238) t232.length co7, .bool true] 56 (0, 0)) (by (with_reducible repeat (first | refine blk_drewN ?_ _ | refine blk_drew ?_ | refine blk_alloc ?_ _)); exact BK236.out) hb)
         have n4_ := Aside0.mk (blk_below (g := gb242) (o := .cells #[.string (⟨#[]⟩ : ByteArray), .string (⟨#[]⟩ : ByteArray)] 41 (0, 0)) (by (with_reducible repeat (first | refine blk_drewN ?_ _ | refine blk_drew ?_ | refine blk_alloc ?_ _)); exact BK242.out) hb)
         have n5_ := Aside0.mk (below_step (by repeat (first | (with_reducible first | exact HB.out | apply below_alloc | apply pw_below_drewN | apply below_drew1 | refine below_set ?_ GE231.out | refine below_set ?_ GE236.out | refine below_set ?_ GE242.out) | exact HB.out)) hb)
         clear HO_4
         clear HO_237000
         clear BK231
         clear BK236
         clear BK242
         clear HB
         have HO_4 := n0_
         have HO_237000 := n1_
         have BK231 := n2_
         have BK236 := n3_
         have BK242 := n4_
         have HB := n5_
         clear n0_ n1_ n2_ n3_ n4_ n5_
         (try clear hb)
         (try clear hb2)
         (try clear hk)
         (try clear hi)
         refine hK.out _ _ ⟨(blk_cell BK236.out 0).trans rfl, (blk_cell BK236.out 1).trans rfl, HS2_, HS3_, HS4_, HS5_⟩ (fun hHeld => ?_)
         clear hK K
         refine norm_ (a' := ?_) ?_ ?_
         rotate_left
         ·show Act.put _ (some 26) _ = _
          simp only [Act.put, List.setIfInBounds_toArray, List.set_cons_zero, List.set_cons_succ, i64_w, i32_w]
          rfl
         refine one_ (i := 13) (N := some 33) #[true, true, true, true, true, true, true, true, true, true, true, true, true, true, false, true, false] rfl rfl (one_of HT_.out (by kernel_rfl)) (by decide) (fun K hK => ?_)
         refine goes_ Tryz.func25 (by kernel_rfl) rfl #[.string ((rd_T41 t232 x5_1).f1)] (by rfl) rfl rfl (by (try simp only [List.map_toArray, List.map_cons, List.map_nil]); first | done | rfl | (simp only [List.length_drop, List.length_take]; rfl)) ?_
         with_reducible refine (brookref1_Fold.calls k1 ((rd_T41 t232 x5_1).f1) t241 _ A13.out).mono ?_
         rintro e w20 ⟨rfl, hb⟩
         have HS2_ := (hb.cell (World.block_lt_of_cell? _ _ (hHeld.2.2.1))).trans (hHeld.2.2.1)
         have HS3_ := (hb.cell (World.block_lt_of_cell? _ _ (hHeld.2.2.2.1))).trans (hHeld.2.2.2.1)
         have HS4_ := (hb.cell (World.block_lt_of_cell? _ _ (hHeld.2.2.2.2.1))).trans (hHeld.2.2.2.2.1)
         have HS5_ := (hb.cell (World.block_lt_of_cell? _ _ (hHeld.2.2.2.2.2))).trans (hHeld.2.2.2.2.2)
         refine ⟨_, rfl, ?_⟩
         have n0_ := Aside0.mk (Kd.R_below (by (with_reducible repeat (first | apply Kd.R_alloc | apply Kd.R_drewN | apply Kd.R_drew)); exact HO_4.out) hb)
         have n1_ := Aside0.mk (Kd.R_below (by (with_reducible repeat (first | apply Kd.R_alloc | apply Kd.R_drewN | apply Kd.R_drew)); exact HO_237000.out) hb)
         have n2_ := Aside0.mk (blk_below (g := gb231) (o := .cells #[.string x232000_1, .bool x232001_1] 26 (0, 0)) (by (with_reducible repeat (first | refine blk_drewN ?_ _ | refine blk_drew ?_ | refine blk_alloc ?_ _)); exact BK231.out) hb)
         have n3_ := Aside0.mk (blk_below (g := gb236) (o := .cells #[.slice (some ad238) t232.length co7, .bool true] 56 (0, 0)) (by (with_reducible repeat (first | refine blk_drewN ?_ _ | refine blk_drew ?_ | refine blk_alloc ?_ _)); exact BK236.out) hb)
         have n4_ := Aside0.mk (blk_below (g := gb242) (o := .cells #[.string (⟨#[]⟩ : ByteArray), .string (⟨#[]⟩ : ByteArray)] 41 (0, 0)) (by (with_reducible repeat (first | refine blk_drewN ?_ _ | refine blk_drew ?_ | refine blk_alloc ?_ _)); exact BK242.out) hb)
         have n5_ := Aside0.mk (below_step (by repeat (first | (with_reducible first | exact HB.out | apply below_alloc | apply pw_below_drewN | apply below_drew1 | refine below_set ?_ GE231.out | refine below_set ?_ GE236.out | refine below_set ?_ GE242.out) | exact HB.out)) hb)
         clear HO_4
         clear HO_237000
         clear BK231
         clear BK236
         clear BK242
         clear HB
         have HO_4 := n0_
         have HO_237000 := n1_
         have BK231 := n2_
         have BK236 := n3_
         have BK242 := n4_
         have HB := n5_
         clear n0_ n1_ n2_ n3_ n4_ n5_
         (try clear hb)
         (try clear hb2)
         (try clear hk)
         (try clear hi)
         refine hK.out _ _ ⟨(blk_cell BK236.out 0).trans rfl, (blk_cell BK236.out 1).trans rfl, HS2_, HS3_, HS4_, HS5_⟩ (fun hHeld => ?_)
         clear hK K
         refine norm_ (a' := ?_) ?_ ?_
         rotate_left
         ·show Act.put _ (some 33) _ = _
          simp only [Act.put, List.setIfInBounds_toArray, List.set_cons_zero, List.set_cons_succ, i64_w, i32_w]
          rfl
         refine pure_ (i := 14) (N := some 34) (v := ?_) (a' := ?_) #[true, true, true, true, true, true, true, true, true, true, true, true, true, true, true, true, false] rfl rfl (any_of HT_.out (by kernel_rfl)) (fun _ _ _ h => h) (Or.inl ⟨by rfl, ?_⟩) ?_ ?_
         rotate_left
         ·intro w'
          go_simp
          with_reducible rfl
         rotate_left
         ·simp only [Act.put, List.setIfInBounds_toArray, List.set_cons_zero, List.set_cons_succ, i64_w, i32_w]
          rfl
         exact norm_ (by simp only [putAll, Act.put, List.setIfInBounds_toArray, List.set_cons_zero, List.set_cons_succ]) (hCont (gb242) _ ⟨hHeld, (by (with_reducible repeat (first | apply Kd.R_alloc | apply Kd.R_drewN | apply Kd.R_drew)); exact HO_237000.out), (by (with_reducible repeat (first | apply Kd.R_alloc | apply Kd.R_drewN | apply Kd.R_drew)); exact HO_4.out), (by (with_reducible repeat (first | refine blk_drewN ?_ _ | refine blk_drew ?_ | refine blk_alloc ?_ _)); exact BK231.out), (by (with_reducible repeat (first | refine blk_drewN ?_ _ | refine blk_drew ?_ | refine blk_alloc ?_ _)); exact BK236.out), (by (with_reducible repeat (first | refine blk_drewN ?_ _ | refine blk_drew ?_ | refine blk_alloc ?_ _)); exact BK242.out), GW242.out, GE242.out, NB231_242.out, NB242_231.out, NB236_242.out, NB242_236.out, (by repeat (first | (with_reducible first | exact HB.out | apply below_alloc | apply pw_below_drewN | apply below_drew1 | refine below_set ?_ GE231.out | refine below_set ?_ GE236.out | refine below_set ?_ GE242.out) | exact HB.out))⟩)
       rintro gb242 w21 ⟨hS_, h0_, h1_, h2_, h3_, h4_, h5_, h6_, h7_, h8_, h9_, h10_, h11_⟩
       have n0_ : Aside0 (Kd.R k41 41 w21 w.heap.size (fun k_ => some k_ ≠ (u4 : Value).ownBlock ∧ k_ ≠ gb242) (.slice (some ad238) t232.length co7) t232) := ⟨h0_⟩
       have n1_ : Aside0 (Kd.R k41 41 w21 w.heap.size (fun k_ => some k_ ≠ (.slice (some ad238) t232.length co7 : Value).ownBlock ∧ k_ ≠ gb242) u4 x4_1) := ⟨h1_⟩
       have n2_ : Aside0 (w21.heap[gb231]? = some (.cells #[.string x232000_1, .bool x232001_1] 26 (0, 0))) := ⟨h2_⟩
       have n3_ : Aside0 (w21.heap[gb236]? = some (.cells #[.slice (some ad238) t232.length co7, .bool true] 56 (0, 0))) := ⟨h3_⟩
       have n4_ : Aside0 (w21.heap[gb242]? = some (.cells #[.string (⟨#[]⟩ : ByteArray), .string (⟨#[]⟩ : ByteArray)] 41 (0, 0))) := ⟨h4_⟩
       have n5_ : Aside0 (w.heap.size ≤ gb242) := ⟨h5_⟩
       have n6_ : Aside0 (w.heap.size ≤ gb242) := ⟨h6_⟩
       have n7_ : Aside0 (gb231 ≠ gb242) := ⟨h7_⟩
       have n8_ : Aside0 (gb242 ≠ gb231) := ⟨h8_⟩
       have n9_ : Aside0 (gb236 ≠ gb242) := ⟨h9_⟩
       have n10_ : Aside0 (gb242 ≠ gb236) := ⟨h10_⟩
       have n11_ : Aside0 (Below w.heap.size w w21) := ⟨h11_⟩
       clear HO_4
       clear HO_237000
       clear BK231
       clear BK236
       clear HB
       clear h0_ h1_ h2_ h3_ h4_ h5_ h6_ h7_ h8_ h9_ h10_ h11_
       have HO_237000 := n0_
       have HO_4 := n1_
       have BK231 := n2_
       have BK236 := n3_
       have BK242 := n4_
       have GW242 := n5_
       have GE242 := n6_
       have NB231_242 := n7_
       have NB242_231 := n8_
       have NB236_242 := n9_
       have NB242_236 := n10_
       have HB := n11_
       clear n0_ n1_ n2_ n3_ n4_ n5_ n6_ n7_ n8_ n9_ n10_ n11_
       have hHeld : w21.cell? ⟨gb236, 0, none⟩ = some (.slice (some ad238) t232.length co7) ∧ w21.cell? ⟨gb236, 1, none⟩ = some (.bool true) ∧ w21.cell? (ad238.add ((x5_1).toNat * 2)) = some (.string ((rd_T41 t232 x5_1).f0)) ∧ w21.cell? ⟨(ad238.add ((x5_1).toNat * 2)).block, (ad238.add ((x5_1).toNat * 2)).off + 1, none⟩ = some (.string ((rd_T41 t232 x5_1).f1)) ∧ w21.cell? (ad238.add ((x5_1).toNat * 2)) = some (.string ((rd_T41 t232 x5_1).f0)) ∧ w21.cell? ⟨(ad238.add ((x5_1).toNat * 2)).block, (ad238.add ((x5_1).toNat * 2)).off + 1, none⟩ = some (.string ((rd_T41 t232 x5_1).f1)) := hS_
       refine norm_ (a' := ?_) ?_ ?_
       rotate_left
       ·simp only [putAll, Act.put, List.setIfInBounds_toArray, List.set_cons_zero, List.set_cons_succ]
        rfl
       refine one_ (i := 16) (N := none) #[true, true, true, true, true, true, true, true, true, true, true, true, true, true, true, true, true] rfl rfl (one_of HT_.out (by kernel_rfl)) (by decide) (fun K hK => ?_)
       have hs22 : w21.cell? ⟨gb242, 0, none⟩ = some (.string (⟨#[]⟩ : ByteArray)) := (blk_cell BK242.out 0).trans rfl
       have hfs22 := blk_frozen BK242.out 0
       have hns22_0 := NB231_242.out
       have hns22_1 := NB236_242.out
       have hms22_0 := NB242_231.out
       have hms22_1 := NB242_236.out
       have hs23 : w21.cell? ⟨gb242, 1, none⟩ = some (.string (⟨#[]⟩ : ByteArray)) := (blk_cell BK242.out 1).trans rfl
       have hfs23 := blk_frozen BK242.out 1
       have hns23_0 := NB231_242.out
       have hns23_1 := NB236_242.out
       have hms23_0 := NB242_231.out
       have hms23_1 := NB242_236.out
       refine skip_ (w1 := ?_) (by rfl) rfl ?_ ?_
       rotate_left
       ·go_simp
        rfl
       refine hK.out _ _ ⟨((cell_far (p := ⟨gb242, _, none⟩) NB236_242.out _).trans (((cell_far (p := ⟨gb242, _, none⟩) NB236_242.out _).trans (hHeld.1)))), ((cell_far (p := ⟨gb242, _, none⟩) NB236_242.out _).trans (((cell_far (p := ⟨gb242, _, none⟩) NB236_242.out _).trans (hHeld.2.1)))), ((cell_far (p := ⟨gb242, _, none⟩) (by first | exact Kd.own_blk (Kd.R_away HO_237000.out (fun _ hk => hk.2)) | (rw [add_block]; exact Kd.own_blk (Kd.R_away HO_237000.out (fun _ hk => hk.2))) | (show (Addr.add _ _).block ≠ _; rw [add_block]; exact Kd.own_blk (Kd.R_away HO_237000.out (fun _ hk => hk.2))) | (dsimp only; exact Kd.own_blk (Kd.R_away HO_237000.out (fun _ hk => hk.2)))) _).trans (((cell_far (p := ⟨gb242, _, none⟩) (by first | exact Kd.own_blk (Kd.R_away HO_237000.out (fun _ hk => hk.2)) | (rw [add_block]; exact Kd.own_blk (Kd.R_away HO_237000.out (fun _ hk => hk.2))) | (show (Addr.add _ _).block ≠ _; rw [add_block]; exact Kd.own_blk (Kd.R_away HO_237000.out (fun _ hk => hk.2))) | (dsimp only; exact Kd.own_blk (Kd.R_away HO_237000.out (fun _ hk => hk.2)))) _).trans (hHeld.2.2.1)))), ((cell_far (p := ⟨gb242, _, none⟩) (by first | exact Kd.own_blk (Kd.R_away HO_237000.out (fun _ hk => hk.2)) | (rw [add_block]; exact Kd.own_blk (Kd.R_away HO_237000.out (fun _ hk => hk.2))) | (show (Addr.add _ _).block ≠ _; rw [add_block]; exact Kd.own_blk (Kd.R_away HO_237000.out (fun _ hk => hk.2))) | (dsimp only; exact Kd.own_blk (Kd.R_away HO_237000.out (fun _ hk => hk.2)))) _).trans (((cell_far (p := ⟨gb242, _, none⟩) (by first | exact Kd.own_blk (Kd.R_away HO_237000.out (fun _ hk => hk.2)) | (rw [add_block]; exact Kd.own_blk (Kd.R_away HO_237000.out (fun _ hk => hk.2))) | (show (Addr.add _ _).block ≠ _; rw [add_block]; exact Kd.own_blk (Kd.R_away HO_237000.out (fun _ hk => hk.2))) | (dsimp only; exact Kd.own_blk (Kd.R_away HO_237000.out (fun _ hk => hk.2)))) _).trans (hHeld.2.2.2.1)))), ((cell_far (p := ⟨gb242, _, none⟩) (by first | exact Kd.own_blk (Kd.R_away HO_237000.out (fun _ hk => hk.2)) | (rw [add_block]; exact Kd.own_blk (Kd.R_away HO_237000.out (fun _ hk => hk.2))) | (show (Addr.add _ _).block ≠ _; rw [add_block]; exact Kd.own_blk (Kd.R_away HO_237000.out (fun _ hk => hk.2))) | (dsimp only; exact Kd.own_blk (Kd.R_away HO_237000.out (fun _ hk => hk.2)))) _).trans (((cell_far (p := ⟨gb242, _, none⟩) (by first | exact Kd.own_blk (Kd.R_away HO_237000.out (fun _ hk => hk.2)) | (rw [add_block]; exact Kd.own_blk (Kd.R_away HO_237000.out (fun _ hk => hk.2))) | (show (Addr.add _ _).block ≠ _; rw [add_block]; exact Kd.own_blk (Kd.R_away HO_237000.out (fun _ hk => hk.2))) | (dsimp only; exact Kd.own_blk (Kd.R_away HO_237000.out (fun _ hk => hk.2)))) _).trans (hHeld.2.2.2.2.1)))), ((cell_far (p := ⟨gb242, _, none⟩) (by first | exact Kd.own_blk (Kd.R_away HO_237000.out (fun _ hk => hk.2)) | (rw [add_block]; exact Kd.own_blk (Kd.R_away HO_237000.out (fun _ hk => hk.2))) | (show (Addr.add _ _).block ≠ _; rw [add_block]; exact Kd.own_blk (Kd.R_away HO_237000.out (fun _ hk => hk.2))) | (dsimp only; exact Kd.own_blk (Kd.R_away HO_237000.out (fun _ hk => hk.2)))) _).trans (((cell_far (p := ⟨gb242, _, none⟩) (by first | exact Kd.own_blk (Kd.R_away HO_237000.out (fun _ hk => hk.2)) | (rw [add_block]; exact Kd.own_blk (Kd.R_away HO_237000.out (fun _ hk => hk.2))) | (show (Addr.add _ _).block ≠ _; rw [add_block]; exact Kd.own_blk (Kd.R_away HO_237000.out (fun _ hk => hk.2))) | (dsimp only; exact Kd.own_blk (Kd.R_away HO_237000.out (fun _ hk => hk.2)))) _).trans (hHeld.2.2.2.2.2))))⟩ (fun hHeld => ?_)
       clear hK K
       refine done_ (done_of HT_.out (by kernel_rfl)) ?_
       have hnb24 := NB242_231.out
       have hnc24 := NB231_242.out
       have hnb25 := NB242_236.out
       have hnc25 := NB236_242.out
       have hcz26_0 : w21.cell? ⟨gb242, 0, none⟩ = some (.string (⟨#[]⟩ : ByteArray)) := (blk_cell BK242.out 0).trans rfl
       have hcz26_1 : w21.cell? ⟨gb242, 1, none⟩ = some (.string (⟨#[]⟩ : ByteArray)) := (blk_cell BK242.out 1).trans rfl
       have hfz26_0 := blk_frozen BK242.out 0
       have hfz26_1 := blk_frozen BK242.out 1
       have hcz27_0 : w21.cell? ⟨gb231, 0, none⟩ = some (.string x232000_1) := (blk_cell BK231.out 0).trans rfl
       have hcz27_1 : w21.cell? ⟨gb231, 1, none⟩ = some (.bool x232001_1) := (blk_cell BK231.out 1).trans rfl
       have hfz27_0 := blk_frozen BK231.out 0
       have hfz27_1 := blk_frozen BK231.out 1
       try go_wp2
       refine bodyPost_ret (results_cell_row rfl _ _ gb231 26 #[.string (⟨#[]⟩ : ByteArray), .bool false] (0, 0) _ rfl (by (with_reducible repeat (first | refine blk_drewN ?_ _ | refine blk_drew ?_ | refine blk_alloc ?_ _)); refine blk_put (cs := #[.string (⟨#[]⟩ : ByteArray), .bool x232001_1]) ?_ 1 _ (by first | rfl | (simp only [bneNil, beqNil]; rfl) | simp [bneNil, beqNil]); (with_reducible repeat (first | refine blk_drewN ?_ _ | refine blk_drew ?_ | refine blk_alloc ?_ _)); refine blk_put (cs := #[.string x232000_1, .bool x232001_1]) ?_ 0 _ (by first | rfl | (simp only [bneNil, beqNil]; rfl) | simp [bneNil, beqNil]); (with_reducible repeat (first | refine blk_drewN ?_ _ | refine blk_drew ?_ | refine blk_alloc ?_ _)); refine blk_far ?_ NB231_242.out _; (with_reducible repeat (first | refine blk_drewN ?_ _ | refine blk_drew ?_ | refine blk_alloc ?_ _)); refine blk_far ?_ NB231_242.out _; (with_reducible repeat (first | refine blk_drewN ?_ _ | refine blk_drew ?_ | refine blk_alloc ?_ _)); exact BK231.out) Tryz.underlying26 rfl (by kernel_rfl)) rfl ?_
       exact ⟨by first | rfl | (simp [errW_none, errW_some] <;> rfl) | (simp [*, errW_none, errW_some] <;> rfl), by repeat (first | (with_reducible first | exact HB.out | apply below_alloc | apply pw_below_drewN | apply below_drew1 | refine below_set ?_ GE231.out | refine below_set ?_ GE236.out | refine below_set ?_ GE242.out) | exact HB.out)⟩
      ·rw [if_neg c14] at H
       have c14b0 : (t241.toList == ([] : List UInt8)) = false := beq_eq_false_iff_ne.mpr c14
       have c14b1 : (t241.toList != ([] : List UInt8)) = true := bne_iff_ne.mpr c14
       by_cases c28 : x4_1.length < 4398046511104
       ·rw [if_pos c28] at H
        have LMc28 := Aside0.mk c28
        clear c28
        obtain ⟨y243, hy243⟩ : ∃ y_ : List (S41), y_ = (x4_1 ++ [(⟨t239, t241⟩ : S41)]) := ⟨_, rfl⟩
        replace H : (brookref1_Key.l0 k1 y243 (wrap64 (x5_1 + 1)) t232 true) = some (r1, r2) := by first | (rw [hy243]; with_reducible exact H) | (have H2_ := (Option.bind_some _ _).symm.trans H; rw [hy243]; with_reducible exact H2_) | (have H2_ := (Option.bind_some _ _).symm.trans H; with_reducible exact H2_) | with_reducible exact H | (rw [hy243]; exact H) | exact H
        have Ny243 := Aside0.mk hy243
        clear hy243
        have H' := Aside0.mk H
        clear H
        have hnb29 := NB236_231.out
        have hnc29 := NB231_236.out
        have hcz30_0 : wr.cell? ⟨gb236, 0, none⟩ = some (.slice Ao7 t232.length co7) := (blk_cell BK236.out 0).trans rfl
        have hcz30_1 : wr.cell? ⟨gb236, 1, none⟩ = some (.bool true) := (blk_cell BK236.out 1).trans rfl
        have hfz30_0 := blk_frozen BK236.out 0
        have hfz30_1 := blk_frozen BK236.out 1
        try go_wp2
        have n0_ := Aside0.mk (Kd.R_drew HO_4.out)
        have n1_ := Aside0.mk (Kd.R_drew HO_237000.out)
        have n2_ := Aside0.mk (blk_drew BK231.out)
        have n3_ := Aside0.mk (blk_drew BK236.out)
        have n4_ := Aside0.mk (below_drew1 HB.out)
        clear HO_4
        clear HO_237000
        clear BK231
        clear BK236
        clear HB
        have HO_4 := n0_
        have HO_237000 := n1_
        have BK231 := n2_
        have BK236 := n3_
        have HB := n4_
        clear n0_ n1_ n2_ n3_ n4_
        have p238 : 0 ≤ (x5_1 : Int) := of_decide_eq_true (by first | (with_reducible assumption) | assumption)
        have q238 : x5_1 < (t232.length : Int) := of_decide_eq_true (by first | (with_reducible assumption) | assumption)
        obtain ⟨ad238, e238, hx238_0, hx238_1⟩ := at_T41 (Kd.R_reads' HO_237000.out).2.2 x5_1 p238 q238
        cases e238
        replace p238 := eq_true p238
        replace q238 := eq_true q238
        have p240 : 0 ≤ (x5_1 : Int) := of_decide_eq_true (by first | (with_reducible assumption) | assumption)
        have q240 : x5_1 < (t232.length : Int) := of_decide_eq_true (by first | (with_reducible assumption) | assumption)
        obtain ⟨ad240, e240, hx240_0, hx240_1⟩ := at_T41 (Kd.R_reads' HO_237000.out).2.2 x5_1 p240 q240
        obtain rfl : ad238 = ad240 := (by injection e240)
        replace p240 := eq_true p240
        replace q240 := eq_true q240
        refine start_ (n := 17) (S := fun w' => w'.cell? ⟨gb236, 0, none⟩ = some (.slice (some ad238) t232.length co7) ∧ w'.cell? ⟨gb236, 1, none⟩ = some (.bool true) ∧ w'.cell? (ad238.add ((x5_1).toNat * 2)) = some (.string ((rd_T41 t232 x5_1).f0)) ∧ w'.cell? ⟨(ad238.add ((x5_1).toNat * 2)).block, (ad238.add ((x5_1).toNat * 2)).off + 1, none⟩ = some (.string ((rd_T41 t232 x5_1).f1)) ∧ w'.cell? (ad238.add ((x5_1).toNat * 2)) = some (.string ((rd_T41 t232 x5_1).f0)) ∧ w'.cell? ⟨(ad238.add ((x5_1).toNat * 2)).block, (ad238.add ((x5_1).toNat * 2)).off + 1, none⟩ = some (.string ((rd_T41 t232 x5_1).f1))) (ds := []) #[false, false, false, false, false, false, false, false, false, false, false, false, false, false, false, false, false] (by kernel_rfl) rfl rfl ⟨(blk_cell BK236.out 0).trans rfl, (blk_cell BK236.out 1).trans rfl, hx238_0, hx238_1, hx240_0, hx240_1⟩ (fun hHeld => ?_); refine with_tabW brookref1_Key.tab8 brookref1_Key.bits8 (fun HT_ HW_ => ?_)
        generalize wr.drew = w31 at HO_4 HO_237000 BK231 BK236 HB hx238_0 hx238_1 hx240_0 hx240_1 hHeld ⊢
        refine pure_ (i := 0) (N := some 20) (v := ?_) (a' := ?_) #[true, false, false, false, false, false, false, false, false, false, false, false, false, false, false, false, false] rfl rfl (any_of HT_.out (by kernel_rfl)) (fun _ _ _ h => h) (Or.inl ⟨by rfl, ?_⟩) ?_ ?_
        rotate_left
        ·intro w'
         go_simp
         with_reducible rfl
        rotate_left
        ·simp only [Act.put, List.setIfInBounds_toArray, List.set_cons_zero, List.set_cons_succ, i64_w, i32_w]
         rfl
        refine pure_ (i := 2) (N := some 22) (v := ?_) (a' := ?_) #[true, false, true, false, false, false, false, false, false, false, false, false, false, false, false, false, false] rfl rfl (any_of HT_.out (by kernel_rfl)) (fun _ _ _ h => h) (Or.inl ⟨by rfl, ?_⟩) ?_ ?_
        rotate_left
        ·intro w'
         go_simp
         with_reducible rfl
        rotate_left
        ·simp only [Act.put, List.setIfInBounds_toArray, List.set_cons_zero, List.set_cons_succ, i64_w, i32_w]
         rfl
        refine pure_ (i := 7) (N := some 27) (v := ?_) (a' := ?_) #[true, false, true, false, false, false, false, true, false, false, false, false, false, false, false, false, false] rfl rfl (any_of HT_.out (by kernel_rfl)) (fun _ _ _ h => h) (Or.inl ⟨by rfl, ?_⟩) ?_ ?_
        rotate_left
        ·intro w'
         go_simp
         with_reducible rfl
        rotate_left
        ·simp only [Act.put, List.setIfInBounds_toArray, List.set_cons_zero, List.set_cons_succ, i64_w, i32_w]
         rfl
        refine pure_ (i := 9) (N := some 29) (v := ?_) (a' := ?_) #[true, false, true, false, false, false, false, true, false, true, false, false, false, false, false, false, false] rfl rfl (any_of HT_.out (by kernel_rfl)) (fun _ _ _ h => h) (Or.inl ⟨by rfl, ?_⟩) ?_ ?_
        rotate_left
        ·intro w'
         go_simp
         with_reducible rfl
        rotate_left
        ·simp only [Act.put, List.setIfInBounds_toArray, List.set_cons_zero, List.set_cons_succ, i64_w, i32_w]
         rfl
        refine take_ (i := 1) (N := some 21) (v := ?_) (a' := ?_) #[true, true, true, false, false, false, false, true, false, true, false, false, false, false, false, false, false] rfl rfl (take_ofW HT_.out HW_.out (by kernel_rfl)) (fun _ _ _ h => h) (Or.inl ⟨by rfl, ?_⟩) hHeld ?_ ?_
        rotate_left
        ·rintro w' ⟨s0, s1, s2, s3, s4, s5⟩
         go_simp
         with_reducible rfl
        rotate_left
        ·simp only [Act.put, List.setIfInBounds_toArray, List.set_cons_zero, List.set_cons_succ, i64_w, i32_w]
         rfl
        refine pure_ (i := 3) (N := some 23) (v := ?_) (a' := ?_) #[true, true, true, true, false, false, false, true, false, true, false, false, false, false, false, false, false] rfl rfl (any_of HT_.out (by kernel_rfl)) (fun _ _ _ h => h) (Or.inl ⟨by rfl, ?_⟩) ?_ ?_
        rotate_left
        ·intro w'
         go_simp
         with_reducible rfl
        rotate_left
        ·simp only [Act.put, List.setIfInBounds_toArray, List.set_cons_zero, List.set_cons_succ, i64_w, i32_w]
         rfl
        refine pure_ (i := 4) (N := some 24) (v := ?_) (a' := ?_) #[true, true, true, true, true, false, false, true, false, true, false, false, false, false, false, false, false] rfl rfl (any_of HT_.out (by kernel_rfl)) (fun _ _ _ h => h) (Or.inl ⟨by rfl, ?_⟩) ?_ ?_
        rotate_left
        ·intro w'
         go_simp
         with_reducible rfl
        rotate_left
        ·simp only [Act.put, List.setIfInBounds_toArray, List.set_cons_zero, List.set_cons_succ, i64_w, i32_w]
         rfl
        refine take_ (i := 5) (N := some 25) (v := ?_) (a' := ?_) #[true, true, true, true, true, true, false, true, false, true, false, false, false, false, false, false, false] rfl rfl (take_ofW HT_.out HW_.out (by kernel_rfl)) (fun _ _ _ h => h) (Or.inl ⟨by rfl, ?_⟩) hHeld ?_ ?_
        rotate_left
        ·rintro w' ⟨s0, s1, s2, s3, s4, s5⟩
         go_simp
         with_reducible rfl
        rotate_left
        ·simp only [Act.put, List.setIfInBounds_toArray, List.set_cons_zero, List.set_cons_succ, i64_w, i32_w]
         rfl
        refine take_ (i := 8) (N := some 28) (v := ?_) (a' := ?_) #[true, true, true, true, true, true, false, true, true, true, false, false, false, false, false, false, false] rfl rfl (take_ofW HT_.out HW_.out (by kernel_rfl)) (fun _ _ _ h => h) (Or.inl ⟨by rfl, ?_⟩) hHeld ?_ ?_
        rotate_left
        ·rintro w' ⟨s0, s1, s2, s3, s4, s5⟩
         go_simp
         with_reducible rfl
        rotate_left
        ·simp only [Act.put, List.setIfInBounds_toArray, List.set_cons_zero, List.set_cons_succ, i64_w, i32_w]
         rfl
        refine pure_ (i := 10) (N := some 30) (v := ?_) (a' := ?_) #[true, true, true, true, true, true, false, true, true, true, true, false, false, false, false, false, false] rfl rfl (any_of HT_.out (by kernel_rfl)) (fun _ _ _ h => h) (Or.inl ⟨by rfl, ?_⟩) ?_ ?_
        rotate_left
        ·intro w'
         go_simp
         with_reducible rfl
        rotate_left
        ·simp only [Act.put, List.setIfInBounds_toArray, List.set_cons_zero, List.set_cons_succ, i64_w, i32_w]
         rfl
        refine pure_ (i := 11) (N := some 31) (v := ?_) (a' := ?_) #[true, true, true, true, true, true, false, true, true, true, true, true, false, false, false, false, false] rfl rfl (any_of HT_.out (by kernel_rfl)) (fun _ _ _ h => h) (Or.inl ⟨by rfl, ?_⟩) ?_ ?_
        rotate_left
        ·intro w'
         go_simp
         with_reducible rfl
        rotate_left
        ·simp only [Act.put, List.setIfInBounds_toArray, List.set_cons_zero, List.set_cons_succ, i64_w, i32_w]
         rfl
        refine take_ (i := 12) (N := some 32) (v := ?_) (a' := ?_) #[true, true, true, true, true, true, false, true, true, true, true, true, true, false, false, false, false] rfl rfl (take_ofW HT_.out HW_.out (by kernel_rfl)) (fun _ _ _ h => h) (Or.inl ⟨by rfl, ?_⟩) hHeld ?_ ?_
        rotate_left
        ·rintro w' ⟨s0, s1, s2, s3, s4, s5⟩
         go_simp
         with_reducible rfl
        rotate_left
        ·simp only [Act.put, List.setIfInBounds_toArray, List.set_cons_zero, List.set_cons_succ, i64_w, i32_w]
         rfl
        refine join_ (σ := Nat) 1 #[true, true, true, true, true, true, true, true, true, true, true, true, true, true, true, true, false] (fun s_ => [(26, .string t239), (33, .string t241), (6, .pointer (some ⟨s_, 0, none⟩)), (34, .agg #[.string t239, .string t241])]) (fun s_ w' => (w'.cell? ⟨gb236, 0, none⟩ = some (.slice (some ad238) t232.length co7) ∧ w'.cell? ⟨gb236, 1, none⟩ = some (.bool true) ∧ w'.cell? (ad238.add ((x5_1).toNat * 2)) = some (.string ((rd_T41 t232 x5_1).f0)) ∧ w'.cell? ⟨(ad238.add ((x5_1).toNat * 2)).block, (ad238.add ((x5_1).toNat * 2)).off + 1, none⟩ = some (.string ((rd_T41 t232 x5_1).f1)) ∧ w'.cell? (ad238.add ((x5_1).toNat * 2)) = some (.string ((rd_T41 t232 x5_1).f0)) ∧ w'.cell? ⟨(ad238.add ((x5_1).toNat * 2)).block, (ad238.add ((x5_1).toNat * 2)).off + 1, none⟩ = some (.string ((rd_T41 t232 x5_1).f1))) ∧ (Kd.R k41 41 w' w.heap.size (fun k_ => some k_ ≠ (u4 : Value).ownBlock ∧ k_ ≠ s_) (.slice (some ad238) t232.length co7) t232) ∧ (Kd.R k41 41 w' w.heap.size (fun k_ => some k_ ≠ (.slice (some ad238) t232.length co7 : Value).ownBlock ∧ k_ ≠ s_) u4 x4_1) ∧ (w'.heap[gb231]? = some (.cells #[.string x232000_1, .bool x232001_1] 26 (0, 0))) ∧ (w'.heap[gb236]? = some (.cells #[.slice (some ad238) t232.length co7, .bool true] 56 (0, 0))) ∧ (w'.heap[s_]? = some (.cells #[.string (⟨#[]⟩ : ByteArray), .string (⟨#[]⟩ : ByteArray)] 41 (0, 0))) ∧ (w.heap.size ≤ s_) ∧ (w.heap.size ≤ s_) ∧ (gb231 ≠ s_) ∧ (s_ ≠ gb231) ∧ (gb236 ≠ s_) ∧ (s_ ≠ gb236) ∧ (Below w.heap.size w w')) ?_ ?_
        rotate_left
        ·intro hCont
         refine two_ (i := 6) (j := 15) (Ni := some 26) (Nj := some 6) #[true, true, true, true, true, true, true, true, true, true, true, true, true, false, false, false, false] #[true, true, true, true, true, true, false, true, true, true, true, true, true, false, false, true, false] rfl rfl rfl rfl (two_of HT_.out (by kernel_rfl)) (by decide) (by decide) (fun K hK => ?_) (fun K hK => ?_)
         ·skip
          refine goes_ Tryz.func19 (by kernel_rfl) rfl #[.string ((rd_T41 t232 x5_1).f0)] (by rfl) rfl rfl (by (try simp only [List.map_toArray, List.map_cons, List.map_nil]); first | done | rfl | (simp only [List.length_drop, List.length_take]; rfl)) ?_
          with_reducible refine (brookref1_Lower.calls ((rd_T41 t232 x5_1).f0) t239 _ A12.out).mono ?_
          rintro e w32 ⟨rfl, hb⟩
          have HS2_ := (hb.cell (World.block_lt_of_cell? _ _ (hHeld.2.2.1))).trans (hHeld.2.2.1)
          have HS3_ := (hb.cell (World.block_lt_of_cell? _ _ (hHeld.2.2.2.1))).trans (hHeld.2.2.2.1)
          have HS4_ := (hb.cell (World.block_lt_of_cell? _ _ (hHeld.2.2.2.2.1))).trans (hHeld.2.2.2.2.1)
          have HS5_ := (hb.cell (World.block_lt_of_cell? _ _ (hHeld.2.2.2.2.2))).trans (hHeld.2.2.2.2.2)
          refine ⟨_, rfl, ?_⟩
          have n0_ := Aside0.mk (Kd.R_below (by (with_reducible repeat (first | apply Kd.R_alloc | apply Kd.R_drewN | apply Kd.R_drew)); exact HO_4.out) hb)
          have n1_ := Aside0.mk (Kd.R_below (by (with_reducible repeat (first | apply Kd.R_alloc | apply Kd.R_drewN | apply Kd.R_drew)); exact HO_237000.out) hb)
          have n2_ := Aside0.mk (blk_below (g := gb231) (o := .cells #[.string x232000_1, .bool x232001_1] 26 (0, 0)) (by (with_reducible repeat (first | refine blk_drewN ?_ _ | refine blk_drew ?_ | refine blk_alloc ?_ _)); exact BK231.out) hb)
          have n3_ := Aside0.mk (blk_below (g := gb236) (o := .cells #[.slice (some ad238) t232.length co7, .bool true] 56 (0, 0)) (by (with_reducible repeat (first | refine blk_drewN ?_ _ | refine blk_drew ?_ | refine blk_alloc ?_ _)); exact BK236.out) hb)
          have n4_ := Aside0.mk (below_step (by repeat (first | (with_reducible first | exact HB.out | apply below_alloc | apply pw_below_drewN | apply below_drew1 | refine below_set ?_ GE231.out | refine below_set ?_ GE236.out) | exact HB.out)) hb)
          clear HO_4
          clear HO_237000
          clear BK231
          clear BK236
          clear HB
          have HO_4 := n0_
          have HO_237000 := n1_
          have BK231 := n2_
          have BK236 := n3_
          have HB := n4_
          clear n0_ n1_ n2_ n3_ n4_
          (try clear hb)
          (try clear hb2)
          (try clear hk)
          (try clear hi)
          refine hK.out _ _ ⟨(blk_cell BK236.out 0).trans rfl, (blk_cell BK236.out 1).trans rfl, HS2_, HS3_, HS4_, HS5_⟩ (fun hHeld => ?_)
          clear hK K
          refine norm_ (a' := ?_) ?_ ?_
          rotate_left
          ·show Act.put _ (some 26) _ = _
           simp only [Act.put, List.setIfInBounds_toArray, List.set_cons_zero, List.set_cons_succ, i64_w, i32_w]
           rfl
          refine two_ (i := 13) (j := 15) (Ni := some 33) (Nj := some 6) #[true, true, true, true, true, true, true, true, true, true, true, true, true, true, false, false, false] #[true, true, true, true, true, true, true, true, true, true, true, true, true, false, false, true, false] rfl rfl rfl rfl (two_of HT_.out (by kernel_rfl)) (by decide) (by decide) (fun K hK => ?_) (fun K hK => ?_)
          ·skip
           refine goes_ Tryz.func25 (by kernel_rfl) rfl #[.string ((rd_T41 t232 x5_1).f1)] (by rfl) rfl rfl (by (try simp only [List.map_toArray, List.map_cons, List.map_nil]); first | done | rfl | (simp only [List.length_drop, List.length_take]; rfl)) ?_
           with_reducible refine (brookref1_Fold.calls k1 ((rd_T41 t232 x5_1).f1) t241 _ A13.out).mono ?_
           rintro e w33 ⟨rfl, hb⟩
           have HS2_ := (hb.cell (World.block_lt_of_cell? _ _ (hHeld.2.2.1))).trans (hHeld.2.2.1)
           have HS3_ := (hb.cell (World.block_lt_of_cell? _ _ (hHeld.2.2.2.1))).trans (hHeld.2.2.2.1)
           have HS4_ := (hb.cell (World.block_lt_of_cell? _ _ (hHeld.2.2.2.2.1))).trans (hHeld.2.2.2.2.1)
           have HS5_ := (hb.cell (World.block_lt_of_cell? _ _ (hHeld.2.2.2.2.2))).trans (hHeld.2.2.2.2.2)
           refine ⟨_, rfl, ?_⟩
           have n0_ := Aside0.mk (Kd.R_below (by (with_reducible repeat (first | apply Kd.R_alloc | apply Kd.R_drewN | apply Kd.R_drew)); exact HO_4.out) hb)
           have n1_ := Aside0.mk (Kd.R_below (by (with_reducible repeat (first | apply Kd.R_alloc | apply Kd.R_drewN | apply Kd.R_drew)); exact HO_237000.out) hb)
           have n2_ := Aside0.mk (blk_below (g := gb231) (o := .cells #[.string x232000_1, .bool x232001_1] 26 (0, 0)) (by (with_reducible repeat (first | refine blk_drewN ?_ _ | refine blk_drew ?_ | refine blk_alloc ?_ _)); exact BK231.out) hb)
           have n3_ := Aside0.mk (blk_below (g := gb236) (o := .cells #[.slice (some ad238) t232.length co7, .bool true] 56 (0, 0)) (by (with_reducible repeat (first | refine blk_drewN ?_ _ | refine blk_drew ?_ | refine blk_alloc ?_ _)); exact BK236.out) hb)
           have n4_ := Aside0.mk (below_step (by repeat (first | (with_reducible first | exact HB.out | apply below_alloc | apply pw_below_drewN | apply below_drew1 | refine below_set ?_ GE231.out | refine below_set ?_ GE236.out) | exact HB.out)) hb)
           clear HO_4
           clear HO_237000
           clear BK231
           clear BK236
           clear HB
           have HO_4 := n0_
           have HO_237000 := n1_
           have BK231 := n2_
           have BK236 := n3_
           have HB := n4_
           clear n0_ n1_ n2_ n3_ n4_
           (try clear hb)
           (try clear hb2)
           (try clear hk)
           (try clear hi)
           refine hK.out _ _ ⟨(blk_cell BK236.out 0).trans rfl, (blk_cell BK236.out 1).trans rfl, HS2_, HS3_, HS4_, HS5_⟩ (fun hHeld => ?_)
           clear hK K
           refine norm_ (a' := ?_) ?_ ?_
           rotate_left
           ·show Act.put _ (some 33) _ = _
            simp only [Act.put, List.setIfInBounds_toArray, List.set_cons_zero, List.set_cons_succ, i64_w, i32_w]
            rfl
           refine pure_ (i := 14) (N := some 34) (v := ?_) (a' := ?_) #[true, true, true, true, true, true, true, true, true, true, true, true, true, true, true, false, false] rfl rfl (any_of HT_.out (by kernel_rfl)) (fun _ _ _ h => h) (Or.inl ⟨by rfl, ?_⟩) ?_ ?_
           rotate_left
           ·intro w'
            go_simp
            with_reducible rfl
           rotate_left
           ·simp only [Act.put, List.setIfInBounds_toArray, List.set_cons_zero, List.set_cons_succ, i64_w, i32_w]
            rfl
           refine one_ (i := 15) (N := some 6) #[true, true, true, true, true, true, true, true, true, true, true, true, true, true, true, true, false] rfl rfl (one_of HT_.out (by kernel_rfl)) (by decide) (fun K hK => ?_)
           refine box_step ?hg (N := 6) ?hd (cs := #[.string (⟨#[]⟩ : ByteArray), .string (⟨#[]⟩ : ByteArray)]) (t := 41) ?hr ?_; (case hd => rfl); (case hg => rfl); (case hr => first | (go_simp; done) | (go_simp; rfl))
           intro gb242 hg w34 hbox hb
           have HS2_ := (hb.cell (World.block_lt_of_cell? _ _ (hHeld.2.2.1))).trans (hHeld.2.2.1)
           have HS3_ := (hb.cell (World.block_lt_of_cell? _ _ (hHeld.2.2.2.1))).trans (hHeld.2.2.2.1)
           have HS4_ := (hb.cell (World.block_lt_of_cell? _ _ (hHeld.2.2.2.2.1))).trans (hHeld.2.2.2.2.1)
           have HS5_ := (hb.cell (World.block_lt_of_cell? _ _ (hHeld.2.2.2.2.2))).trans (hHeld.2.2.2.2.2)
           have n0_ := Aside0.mk (Kd.R_below (Kd.R_elderB (by (with_reducible repeat (first | apply Kd.R_alloc | apply Kd.R_drewN | apply Kd.R_drew)); exact HO_4.out) gb242 (Nat.le_of_eq hg.symm)) hb)
           have n1_ := Aside0.mk (Kd.R_below (Kd.R_elderB (by (with_reducible repeat (first | apply Kd.R_alloc | apply Kd.R_drewN | apply Kd.R_drew)); exact HO_237000.out) gb242 (Nat.le_of_eq hg.symm)) hb)
           have n2_ := Aside0.mk (blk_below (g := gb231) (o := .cells #[.string x232000_1, .bool x232001_1] 26 (0, 0)) (by (with_reducible repeat (first | refine blk_drewN ?_ _ | refine blk_drew ?_ | refine blk_alloc ?_ _)); exact BK231.out) hb)
           have n3_ := Aside0.mk (blk_below (g := gb236) (o := .cells #[.slice (some ad238) t232.length co7, .bool true] 56 (0, 0)) (by (with_reducible repeat (first | refine blk_drewN ?_ _ | refine blk_drew ?_ | refine blk_alloc ?_ _)); exact BK236.out) hb)
           have n4_ := Aside0.mk (below_step (by repeat (first | (with_reducible first | exact HB.out | apply below_alloc | apply pw_below_drewN | apply below_drew1 | refine below_set ?_ GE231.out | refine below_set ?_ GE236.out) | exact HB.out)) hb)
           have n5_ := Aside0.mk (hbox)
           have n6_ := Aside0.mk ((by rw [hg]; exact (below_size (by repeat (first | (with_reducible first | exact HB.out | apply below_alloc | apply pw_below_drewN | apply below_drew1 | refine below_set ?_ GE231.out | refine below_set ?_ GE236.out) | exact HB.out))) : w.heap.size ≤ gb242))
           have n7_ := Aside0.mk ((by rw [hg]; exact (below_size (by repeat (first | (with_reducible first | exact HB.out | apply below_alloc | apply pw_below_drewN | apply below_drew1 | refine below_set ?_ GE231.out | refine below_set ?_ GE236.out) | exact HB.out))) : w.heap.size ≤ gb242))
           have n8_ := Aside0.mk ((by rw [hg]; exact Nat.ne_of_lt (blk_lt (g := gb231) (o := .cells #[.string x232000_1, .bool x232001_1] 26 (0, 0)) (by (with_reducible repeat (first | refine blk_drewN ?_ _ | refine blk_drew ?_ | refine blk_alloc ?_ _)); exact BK231.out)) : gb231 ≠ gb242))
           have n9_ := Aside0.mk ((by rw [hg]; exact Nat.ne_of_gt (blk_lt (g := gb231) (o := .cells #[.string x232000_1, .bool x232001_1] 26 (0, 0)) (by (with_reducible repeat (first | refine blk_drewN ?_ _ | refine blk_drew ?_ | refine blk_alloc ?_ _)); exact BK231.out)) : gb242 ≠ gb231))
           have n10_ := Aside0.mk ((by rw [hg]; exact Nat.ne_of_lt (blk_lt (g := gb236) (o := .cells #[.slice (some ad238) t232.length co7, .bool true] 56 (0, 0)) (by (with_reducible repeat (first | refine blk_drewN ?_ _ | refine blk_drew ?_ | refine blk_alloc ?_ _)); exact BK236.out)) : gb236 ≠ gb242))
           have n11_ := Aside0.mk ((by rw [hg]; exact Nat.ne_of_gt (blk_lt (g := gb236) (o := .cells #[.slice (some ad238) t232.length co7, .bool true] 56 (0, 0)) (by (with_reducible repeat (first | refine blk_drewN ?_ _ | refine blk_drew ?_ | refine blk_alloc ?_ _)); exact BK236.out)) : gb242 ≠ gb236))
           clear HO_4
           clear HO_237000
           clear BK231
           clear BK236
           clear HB
           have HO_4 := n0_
           have HO_237000 := n1_
           have BK231 := n2_
           have BK236 := n3_
           have HB := n4_
           have BK242 := n5_
           have GW242 := n6_
           have GE242 := n7_
           have NB231_242 := n8_
           have NB242_231 := n9_
           have NB236_242 := n10_
           have NB242_236 := n11_
           clear n0_ n1_ n2_ n3_ n4_ n5_ n6_ n7_ n8_ n9_ n10_ n11_
           clear hb hbox hg
           refine hK.out _ _ ⟨(blk_cell BK236.out 0).trans rfl, (blk_cell BK236.out 1).trans rfl, HS2_, HS3_, HS4_, HS5_⟩ (fun hHeld => ?_)
           clear hK K
           refine norm_ (a' := ?_) ?_ ?_
           rotate_left
           ·show Act.put _ (some 6) _ = _
            simp only [Act.put, List.setIfInBounds_toArray, List.set_cons_zero, List.set_cons_succ, i64_w, i32_w]
            rfl
           exact norm_ (by simp only [putAll, Act.put, List.setIfInBounds_toArray, List.set_cons_zero, List.set_cons_succ]) (hCont (gb242) _ ⟨hHeld, (by (with_reducible repeat (first | apply Kd.R_alloc | apply Kd.R_drewN | apply Kd.R_drew)); exact HO_237000.out), (by (with_reducible repeat (first | apply Kd.R_alloc | apply Kd.R_drewN | apply Kd.R_drew)); exact HO_4.out), (by (with_reducible repeat (first | refine blk_drewN ?_ _ | refine blk_drew ?_ | refine blk_alloc ?_ _)); exact BK231.out), (by (with_reducible repeat (first | refine blk_drewN ?_ _ | refine blk_drew ?_ | refine blk_alloc ?_ _)); exact BK236.out), (by (with_reducible repeat (first | refine blk_drewN ?_ _ | refine blk_drew ?_ | refine blk_alloc ?_ _)); exact BK242.out), GW242.out, GE242.out, NB231_242.out, NB242_231.out, NB236_242.out, NB242_236.out, (by repeat (first | (with_reducible first | exact HB.out | apply below_alloc | apply pw_below_drewN | apply below_drew1 | refine below_set ?_ GE231.out | refine below_set ?_ GE236.out | refine below_set ?_ GE242.out) | exact HB.out))⟩)
          ·skip
           refine box_step ?hg (N := 6) ?hd (cs := #[.string (⟨#[]⟩ : ByteArray), .string (⟨#[]⟩ : ByteArray)]) (t := 41) ?hr ?_; (case hd => rfl); (case hg => rfl); (case hr => first | (go_simp; done) | (go_simp; rfl))
           intro gb242 hg w33 hbox hb
           have HS2_ := (hb.cell (World.block_lt_of_cell? _ _ (hHeld.2.2.1))).trans (hHeld.2.2.1)
           have HS3_ := (hb.cell (World.block_lt_of_cell? _ _ (hHeld.2.2.2.1))).trans (hHeld.2.2.2.1)
           have HS4_ := (hb.cell (World.block_lt_of_cell? _ _ (hHeld.2.2.2.2.1))).trans (hHeld.2.2.2.2.1)
           have HS5_ := (hb.cell (World.block_lt_of_cell? _ _ (hHeld.2.2.2.2.2))).trans (hHeld.2.2.2.2.2)
           have n0_ := Aside0.mk (Kd.R_below (Kd.R_elderB (by (with_reducible repeat (first | apply Kd.R_alloc | apply Kd.R_drewN | apply Kd.R_drew)); exact HO_4.out) gb242 (Nat.le_of_eq hg.symm)) hb)
           have n1_ := Aside0.mk (Kd.R_below (Kd.R_elderB (by (with_reducible repeat (first | apply Kd.R_alloc | apply Kd.R_drewN | apply Kd.R_drew)); exact HO_237000.out) gb242 (Nat.le_of_eq hg.symm)) hb)
           have n2_ := Aside0.mk (blk_below (g := gb231) (o := .cells #[.string x232000_1, .bool x232001_1] 26 (0, 0)) (by (with_reducible repeat (first | refine blk_drewN ?_ _ | refine blk_drew ?_ | refine blk_alloc ?_ _)); exact BK231.out) hb)
           have n3_ := Aside0.mk (blk_below (g := gb236) (o := .cells #[.slice (some ad238) t232.length co7, .bool true] 56 (0, 0)) (by (with_reducible repeat (first | refine blk_drewN ?_ _ | refine blk_drew ?_ | refine blk_alloc ?_ _)); exact BK236.out) hb)
           have n4_ := Aside0.mk (below_step (by repeat (first | (with_reducible first | exact HB.out | apply below_alloc | apply pw_below_drewN | apply below_drew1 | refine below_set ?_ GE231.out | refine below_set ?_ GE236.out) | exact HB.out)) hb)
           have n5_ := Aside0.mk (hbox)
           have n6_ := Aside0.mk ((by rw [hg]; exact (below_size (by repeat (first | (with_reducible first | exact HB.out | apply below_alloc | apply pw_below_drewN | apply below_drew1 | refine below_set ?_ GE231.out | refine below_set ?_ GE236.out) | exact HB.out))) : w.heap.size ≤ gb242))
           have n7_ := Aside0.mk ((by rw [hg]; exact (below_size (by repeat (first | (with_reducible first | exact HB.out | apply below_alloc | apply pw_below_drewN | apply below_drew1 | refine below_set ?_ GE231.out | refine below_set ?_ GE236.out) | exact HB.out))) : w.heap.size ≤ gb242))
           have n8_ := Aside0.mk ((by rw [hg]; exact Nat.ne_of_lt (blk_lt (g := gb231) (o := .cells #[.string x232000_1, .bool x232001_1] 26 (0, 0)) (by (with_reducible repeat (first | refine blk_drewN ?_ _ | refine blk_drew ?_ | refine blk_alloc ?_ _)); exact BK231.out)) : gb231 ≠ gb242))
           have n9_ := Aside0.mk ((by rw [hg]; exact Nat.ne_of_gt (blk_lt (g := gb231) (o := .cells #[.string x232000_1, .bool x232001_1] 26 (0, 0)) (by (with_reducible repeat (first | refine blk_drewN ?_ _ | refine blk_drew ?_ | refine blk_alloc ?_ _)); exact BK231.out)) : gb242 ≠ gb231))
           have n10_ := Aside0.mk ((by rw [hg]; exact Nat.ne_of_lt (blk_lt (g := gb236) (o := .cells #[.slice (some ad238) t232.length co7, .bool true] 56 (0, 0)) (by (with_reducible repeat (first | refine blk_drewN ?_ _ | refine blk_drew ?_ | refine blk_alloc ?_ _)); exact BK236.out)) : gb236 ≠ gb242))
           have n11_ := Aside0.mk ((by rw [hg]; exact Nat.ne_of_gt (blk_lt (g := gb236) (o := .cells #[.slice (some ad238) t232.length co7, .bool true] 56 (0, 0)) (by (with_reducible repeat (first | refine blk_drewN ?_ _ | refine blk_drew ?_ | refine blk_alloc ?_ _)); exact BK236.out)) : gb242 ≠ gb236))
           clear HO_4
           clear HO_237000
           clear BK231
           clear BK236
           clear HB
           have HO_4 := n0_
           have HO_237000 := n1_
           have BK231 := n2_
           have BK236 := n3_
           have HB := n4_
           have BK242 := n5_
           have GW242 := n6_
           have GE242 := n7_
           have NB231_242 := n8_
           have NB242_231 := n9_
           have NB236_242 := n10_
           have NB242_236 := n11_
           clear n0_ n1_ n2_ n3_ n4_ n5_ n6_ n7_ n8_ n9_ n10_ n11_
           clear hb hbox hg
           refine hK.out _ _ ⟨(blk_cell BK236.out 0).trans rfl, (blk_cell BK236.out 1).trans rfl, HS2_, HS3_, HS4_, HS5_⟩ (fun hHeld => ?_)
           clear hK K
           refine norm_ (a' := ?_) ?_ ?_
           rotate_left
           ·show Act.put _ (some 6) _ = _
            simp only [Act.put, List.setIfInBounds_toArray, List.set_cons_zero, List.set_cons_succ, i64_w, i32_w]
            rfl
           refine one_ (i := 13) (N := some 33) #[true, true, true, true, true, true, true, true, true, true, true, true, true, true, false, true, false] rfl rfl (one_of HT_.out (by kernel_rfl)) (by decide) (fun K hK => ?_)
           refine goes_ Tryz.func25 (by kernel_rfl) rfl #[.string ((rd_T41 t232 x5_1).f1)] (by rfl) rfl rfl (by (try simp only [List.map_toArray, List.map_cons, List.map_nil]); first | done | rfl | (simp only [List.length_drop, List.length_take]; rfl)) ?_
           with_reducible refine (brookref1_Fold.calls k1 ((rd_T41 t232 x5_1).f1) t241 _ A13.out).mono ?_
           rintro e w34 ⟨rfl, hb⟩
           have HS2_ := (hb.cell (World.block_lt_of_cell? _ _ (hHeld.2.2.1))).trans (hHeld.2.2.1)
           have HS3_ := (hb.cell (World.block_lt_of_cell? _ _ (hHeld.2.2.2.1))).trans (hHeld.2.2.2.1)
           have HS4_ := (hb.cell (World.block_lt_of_cell? _ _ (hHeld.2.2.2.2.1))).trans (hHeld.2.2.2.2.1)
           have HS5_ := (hb.cell (World.block_lt_of_cell? _ _ (hHeld.2.2.2.2.2))).trans (hHeld.2.2.2.2.2)
           refine ⟨_, rfl, ?_⟩
           have n0_ := Aside0.mk (Kd.R_below (by (with_reducible repeat (first | apply Kd.R_alloc | apply Kd.R_drewN | apply Kd.R_drew)); exact HO_4.out) hb)
           have n1_ := Aside0.mk (Kd.R_below (by (with_reducible repeat (first | apply Kd.R_alloc | apply Kd.R_drewN | apply Kd.R_drew)); exact HO_237000.out) hb)
           have n2_ := Aside0.mk (blk_below (g := gb231) (o := .cells #[.string x232000_1, .bool x232001_1] 26 (0, 0)) (by (with_reducible repeat (first | refine blk_drewN ?_ _ | refine blk_drew ?_ | refine blk_alloc ?_ _)); exact BK231.out) hb)
           have n3_ := Aside0.mk (blk_below (g := gb236) (o := .cells #[.slice (some ad238) t232.length co7, .bool true] 56 (0, 0)) (by (with_reducible repeat (first | refine blk_drewN ?_ _ | refine blk_drew ?_ | refine blk_alloc ?_ _)); exact BK236.out) hb)
           have n4_ := Aside0.mk (blk_below (g := gb242) (o := .cells #[.string (⟨#[]⟩ : ByteArray), .string (⟨#[]⟩ : ByteArray)] 41 (0, 0)) (by (with_reducible repeat (first | refine blk_drewN ?_ _ | refine blk_drew ?_ | refine blk_alloc ?_ _)); exact BK242.out) hb)
           have n5_ := Aside0.mk (below_step (by repeat (first | (with_reducible first | exact HB.out | apply below_alloc | apply pw_below_drewN | apply below_drew1 | refine below_set ?_ GE231.out | refine below_set ?_ GE236.out | refine below_set ?_ GE242.out) | exact HB.out)) hb)
           clear HO_4
           clear HO_237000
           clear BK231
           clear BK236
           clear BK242
           clear HB
           have HO_4 := n0_
           have HO_237000 := n1_
           have BK231 := n2_
           have BK236 := n3_
           have BK242 := n4_
           have HB := n5_
           clear n0_ n1_ n2_ n3_ n4_ n5_
           (try clear hb)
           (try clear hb2)
           (try clear hk)
           (try clear hi)
           refine hK.out _ _ ⟨(blk_cell BK236.out 0).trans rfl, (blk_cell BK236.out 1).trans rfl, HS2_, HS3_, HS4_, HS5_⟩ (fun hHeld => ?_)
           clear hK K
           refine norm_ (a' := ?_) ?_ ?_
           rotate_left
           ·show Act.put _ (some 33) _ = _
            simp only [Act.put, List.setIfInBounds_toArray, List.set_cons_zero, List.set_cons_succ, i64_w, i32_w]
            rfl
           refine pure_ (i := 14) (N := some 34) (v := ?_) (a' := ?_) #[true, true, true, true, true, true, true, true, true, true, true, true, true, true, true, true, false] rfl rfl (any_of HT_.out (by kernel_rfl)) (fun _ _ _ h => h) (Or.inl ⟨by rfl, ?_⟩) ?_ ?_
           rotate_left
           ·intro w'
            go_simp
            with_reducible rfl
           rotate_left
           ·simp only [Act.put, List.setIfInBounds_toArray, List.set_cons_zero, List.set_cons_succ, i64_w, i32_w]
            rfl
           exact norm_ (by simp only [putAll, Act.put, List.setIfInBounds_toArray, List.set_cons_zero, List.set_cons_succ]) (hCont (gb242) _ ⟨hHeld, (by (with_reducible repeat (first | apply Kd.R_alloc | apply Kd.R_drewN | apply Kd.R_drew)); exact HO_237000.out), (by (with_reducible repeat (first | apply Kd.R_alloc | apply Kd.R_drewN | apply Kd.R_drew)); exact HO_4.out), (by (with_reducible repeat (first | refine blk_drewN ?_ _ | refine blk_drew ?_ | refine blk_alloc ?_ _)); exact BK231.out), (by (with_reducible repeat (first | refine blk_drewN ?_ _ | refine blk_drew ?_ | refine blk_alloc ?_ _)); exact BK236.out), (by (with_reducible repeat (first | refine blk_drewN ?_ _ | refine blk_drew ?_ | refine blk_alloc ?_ _)); exact BK242.out), GW242.out, GE242.out, NB231_242.out, NB242_231.out, NB236_242.out, NB242_236.out, (by repeat (first | (with_reducible first | exact HB.out | apply below_alloc | apply pw_below_drewN | apply below_drew1 | refine below_set ?_ GE231.out | refine below_set ?_ GE236.out | refine below_set ?_ GE242.out) | exact HB.out))⟩)
         ·skip
          refine box_step ?hg (N := 6) ?hd (cs := #[.string (⟨#[]⟩ : ByteArray), .string (⟨#[]⟩ : ByteArray)]) (t := 41) ?hr ?_; (case hd => rfl); (case hg => rfl); (case hr => first | (go_simp; done) | (go_simp; rfl))
          intro gb242 hg w32 hbox hb
          have HS2_ := (hb.cell (World.block_lt_of_cell? _ _ (hHeld.2.2.1))).trans (hHeld.2.2.1)
          have HS3_ := (hb.cell (World.block_lt_of_cell? _ _ (hHeld.2.2.2.1))).trans (hHeld.2.2.2.1)
          have HS4_ := (hb.cell (World.block_lt_of_cell? _ _ (hHeld.2.2.2.2.1))).trans (hHeld.2.2.2.2.1)
          have HS5_ := (hb.cell (World.block_lt_of_cell? _ _ (hHeld.2.2.2.2.2))).trans (hHeld.2.2.2.2.2)
          have n0_ := Aside0.mk (Kd.R_below (Kd.R_elderB (by (with_reducible repeat (first | apply Kd.R_alloc | apply Kd.R_drewN | apply Kd.R_drew)); exact HO_4.out) gb242 (Nat.le_of_eq hg.symm)) hb)
          have n1_ := Aside0.mk (Kd.R_below (Kd.R_elderB (by (with_reducible repeat (first | apply Kd.R_alloc | apply Kd.R_drewN | apply Kd.R_drew)); exact HO_237000.out) gb242 (Nat.le_of_eq hg.symm)) hb)
          have n2_ := Aside0.mk (blk_below (g := gb231) (o := .cells #[.string x232000_1, .bool x232001_1] 26 (0, 0)) (by (with_reducible repeat (first | refine blk_drewN ?_ _ | refine blk_drew ?_ | refine blk_alloc ?_ _)); exact BK231.out) hb)
          have n3_ := Aside0.mk (blk_below (g := gb236) (o := .cells #[.slice (some ad238) t232.length co7, .bool true] 56 (0, 0)) (by (with_reducible repeat (first | refine blk_drewN ?_ _ | refine blk_drew ?_ | refine blk_alloc ?_ _)); exact BK236.out) hb)
          have n4_ := Aside0.mk (below_step (by repeat (first | (with_reducible first | exact HB.out | apply below_alloc | apply pw_below_drewN | apply below_drew1 | refine below_set ?_ GE231.out | refine below_set ?_ GE236.out) | exact HB.out)) hb)
          have n5_ := Aside0.mk (hbox)
          have n6_ := Aside0.mk ((by rw [hg]; exact (below_size (by repeat (first | (with_reducible first | exact HB.out | apply below_alloc | apply pw_below_drewN | apply below_drew1 | refine below_set ?_ GE231.out | refine below_set ?_ GE236.out) | exact HB.out))) : w.heap.size ≤ gb242))
          have n7_ := Aside0.mk ((by rw [hg]; exact (below_size (by repeat (first | (with_reducible first | exact HB.out | apply below_alloc | apply pw_below_drewN | apply below_drew1 | refine below_set ?_ GE231.out | refine below_set ?_ GE236.out) | exact HB.out))) : w.heap.size ≤ gb242))
          have n8_ := Aside0.mk ((by rw [hg]; exact Nat.ne_of_lt (blk_lt (g := gb231) (o := .cells #[.string x232000_1, .bool x232001_1] 26 (0, 0)) (by (with_reducible repeat (first | refine blk_drewN ?_ _ | refine blk_drew ?_ | refine blk_alloc ?_ _)); exact BK231.out)) : gb231 ≠ gb242))
          have n9_ := Aside0.mk ((by rw [hg]; exact Nat.ne_of_gt (blk_lt (g := gb231) (o := .cells #[.string x232000_1, .bool x232001_1] 26 (0, 0)) (by (with_reducible repeat (first | refine blk_drewN ?_ _ | refine blk_drew ?_ | refine blk_alloc ?_ _)); exact BK231.out)) : gb242 ≠ gb231))
          have n10_ := Aside0.mk ((by rw [hg]; exact Nat.ne_of_lt (blk_lt (g := gb236) (o := .cells #[.slice (some ad238) t232.length co7, .bool true] 56 (0, 0)) (by (with_reducible repeat (first | refine blk_drewN ?_ _ | refine blk_drew ?_ | refine blk_alloc ?_ _)); exact BK236.out)) : gb236 ≠ gb242))
          have n11_ := Aside0.mk ((by rw [hg]; exact Nat.ne_of_gt (blk_lt (g := gb236) (o := .cells #[.slice (some ad238) t232.length co7, .bool true] 56 (0, 0)) (by (with_reducible repeat (first | refine blk_drewN ?_ _ | refine blk_drew ?_ | refine blk_alloc ?_ _)); exact BK236.out)) : gb242 ≠ gb236))
          clear HO_4
          clear HO_237000
          clear BK231
          clear BK236
          clear HB
          have HO_4 := n0_
          have HO_237000 := n1_
          have BK231 := n2_
          have BK236 := n3_
          have HB := n4_
          have BK242 := n5_
          have GW242 := n6_
          have GE242 := n7_
          have NB231_242 := n8_
          have NB242_231 := n9_
          have NB236_242 := n10_
          have NB242_236 := n11_
          clear n0_ n1_ n2_ n3_ n4_ n5_ n6_ n7_ n8_ n9_ n10_ n11_
          clear hb hbox hg
          refine hK.out _ _ ⟨(blk_cell BK236.out 0).trans rfl, (blk_cell BK236.out 1).trans rfl, HS2_, HS3_, HS4_, HS5_⟩ (fun hHeld => ?_)
          clear hK K
          refine norm_ (a' := ?_) ?_ ?_
          rotate_left
          ·show Act.put _ (some 6) _ = _
           simp only [Act.put, List.setIfInBounds_toArray, List.set_cons_zero, List.set_cons_succ, i64_w, i32_w]
           rfl
          refine one_ (i := 6) (N := some 26) #[true, true, true, true, true, true, true, true, true, true, true, true, true, false, false, true, false] rfl rfl (one_of HT_.out (by kernel_rfl)) (by decide) (fun K hK => ?_)
          refine goes_ Tryz.func19 (by kernel_rfl) rfl #[.string ((rd_T41 t232 x5_1).f0)] (by rfl) rfl rfl (by (try simp only [List.map_toArray, List.map_cons, List.map_nil]); first | done | rfl | (simp only [List.length_drop, List.length_take]; rfl)) ?_
          with_reducible refine (brookref1_Lower.calls ((rd_T41 t232 x5_1).f0) t239 _ A12.out).mono ?_
          rintro e w33 ⟨rfl, hb⟩
          have HS2_ := (hb.cell (World.block_lt_of_cell? _ _ (hHeld.2.2.1))).trans (hHeld.2.2.1)
          have HS3_ := (hb.cell (World.block_lt_of_cell? _ _ (hHeld.2.2.2.1))).trans (hHeld.2.2.2.1)
          have HS4_ := (hb.cell (World.block_lt_of_cell? _ _ (hHeld.2.2.2.2.1))).trans (hHeld.2.2.2.2.1)
          have HS5_ := (hb.cell (World.block_lt_of_cell? _ _ (hHeld.2.2.2.2.2))).trans (hHeld.2.2.2.2.2)
          refine ⟨_, rfl, ?_⟩
          have n0_ := Aside0.mk (Kd.R_below (by (with_reducible repeat (first | apply Kd.R_alloc | apply Kd.R_drewN | apply Kd.R_drew)); exact HO_4.out) hb)
          have n1_ := Aside0.mk (Kd.R_below (by (with_reducible repeat (first | apply Kd.R_alloc | apply Kd.R_drewN | apply Kd.R_drew)); exact HO_237000.out) hb)
          have n2_ := Aside0.mk (blk_below (g := gb231) (o := .cells #[.string x232000_1, .bool x232001_1] 26 (0, 0)) (by (with_reducible repeat (first | refine blk_drewN ?_ _ | refine blk_drew ?_ | refine blk_alloc ?_ _)); exact BK231.out) hb)
          have n3_ := Aside0.mk (blk_below (g := gb236) (o := .cells #[.slice (some ad238) t232.length co7, .bool true] 56 (0, 0)) (by (with_reducible repeat (first | refine blk_drewN ?_ _ | refine blk_drew ?_ | refine blk_alloc ?_ _)); exact BK236.out) hb)
          have n4_ := Aside0.mk (blk_below (g := gb242) (o := .cells #[.string (⟨#[]⟩ : ByteArray), .string (⟨#[]⟩ : ByteArray)] 41 (0, 0)) (by (with_reducible repeat (first | refine blk_drewN ?_ _ | refine blk_drew ?_ | refine blk_alloc ?_ _)); exact BK242.out) hb)
          have n5_ := Aside0.mk (below_step (by repeat (first | (with_reducible first | exact HB.out | apply below_alloc | apply pw_below_drewN | apply below_drew1 | refine below_set ?_ GE231.out | refine below_set ?_ GE236.out | refine below_set ?_ GE242.out) | exact HB.out)) hb)
          clear HO_4
          clear HO_237000
          clear BK231
          clear BK236
          clear BK242
          clear HB
          have HO_4 := n0_
          have HO_237000 := n1_
          have BK231 := n2_
          have BK236 := n3_
          have BK242 := n4_
          have HB := n5_
          clear n0_ n1_ n2_ n3_ n4_ n5_
          (try clear hb)
          (try clear hb2)
          (try clear hk)
          (try clear hi)
          refine hK.out _ _ ⟨(blk_cell BK236.out 0).trans rfl, (blk_cell BK236.out 1).trans rfl, HS2_, HS3_, HS4_, HS5_⟩ (fun hHeld => ?_)
          clear hK K
          refine norm_ (a' := ?_) ?_ ?_
          rotate_left
          ·show Act.put _ (some 26) _ = _
           simp only [Act.put, List.setIfInBounds_toArray, List.set_cons_zero, List.set_cons_succ, i64_w, i32_w]
           rfl
          refine one_ (i := 13) (N := some 33) #[true, true, true, true, true, true, true, true, true, true, true, true, true, true, false, true, false] rfl rfl (one_of HT_.out (by kernel_rfl)) (by decide) (fun K hK => ?_)
          refine goes_ Tryz.func25 (by kernel_rfl) rfl #[.string ((rd_T41 t232 x5_1).f1)] (by rfl) rfl rfl (by (try simp only [List.map_toArray, List.map_cons, List.map_nil]); first | done | rfl | (simp only [List.length_drop, List.length_take]; rfl)) ?_
          with_reducible refine (brookref1_Fold.calls k1 ((rd_T41 t232 x5_1).f1) t241 _ A13.out).mono ?_
          rintro e w34 ⟨rfl, hb⟩
          have HS2_ := (hb.cell (World.block_lt_of_cell? _ _ (hHeld.2.2.1))).trans (hHeld.2.2.1)
          have HS3_ := (hb.cell (World.block_lt_of_cell? _ _ (hHeld.2.2.2.1))).trans (hHeld.2.2.2.1)
          have HS4_ := (hb.cell (World.block_lt_of_cell? _ _ (hHeld.2.2.2.2.1))).trans (hHeld.2.2.2.2.1)
          have HS5_ := (hb.cell (World.block_lt_of_cell? _ _ (hHeld.2.2.2.2.2))).trans (hHeld.2.2.2.2.2)
          refine ⟨_, rfl, ?_⟩
          have n0_ := Aside0.mk (Kd.R_below (by (with_reducible repeat (first | apply Kd.R_alloc | apply Kd.R_drewN | apply Kd.R_drew)); exact HO_4.out) hb)
          have n1_ := Aside0.mk (Kd.R_below (by (with_reducible repeat (first | apply Kd.R_alloc | apply Kd.R_drewN | apply Kd.R_drew)); exact HO_237000.out) hb)
          have n2_ := Aside0.mk (blk_below (g := gb231) (o := .cells #[.string x232000_1, .bool x232001_1] 26 (0, 0)) (by (with_reducible repeat (first | refine blk_drewN ?_ _ | refine blk_drew ?_ | refine blk_alloc ?_ _)); exact BK231.out) hb)
          have n3_ := Aside0.mk (blk_below (g := gb236) (o := .cells #[.slice (some ad238) t232.length co7, .bool true] 56 (0, 0)) (by (with_reducible repeat (first | refine blk_drewN ?_ _ | refine blk_drew ?_ | refine blk_alloc ?_ _)); exact BK236.out) hb)
          have n4_ := Aside0.mk (blk_below (g := gb242) (o := .cells #[.string (⟨#[]⟩ : ByteArray), .string (⟨#[]⟩ : ByteArray)] 41 (0, 0)) (by (with_reducible repeat (first | refine blk_drewN ?_ _ | refine blk_drew ?_ | refine blk_alloc ?_ _)); exact BK242.out) hb)
          have n5_ := Aside0.mk (below_step (by repeat (first | (with_reducible first | exact HB.out | apply below_alloc | apply pw_below_drewN | apply below_drew1 | refine below_set ?_ GE231.out | refine below_set ?_ GE236.out | refine below_set ?_ GE242.out) | exact HB.out)) hb)
          clear HO_4
          clear HO_237000
          clear BK231
          clear BK236
          clear BK242
          clear HB
          have HO_4 := n0_
          have HO_237000 := n1_
          have BK231 := n2_
          have BK236 := n3_
          have BK242 := n4_
          have HB := n5_
          clear n0_ n1_ n2_ n3_ n4_ n5_
          (try clear hb)
          (try clear hb2)
          (try clear hk)
          (try clear hi)
          refine hK.out _ _ ⟨(blk_cell BK236.out 0).trans rfl, (blk_cell BK236.out 1).trans rfl, HS2_, HS3_, HS4_, HS5_⟩ (fun hHeld => ?_)
          clear hK K
          refine norm_ (a' := ?_) ?_ ?_
          rotate_left
          ·show Act.put _ (some 33) _ = _
           simp only [Act.put, List.setIfInBounds_toArray, List.set_cons_zero, List.set_cons_succ, i64_w, i32_w]
           rfl
          refine pure_ (i := 14) (N := some 34) (v := ?_) (a' := ?_) #[true, true, true, true, true, true, true, true, true, true, true, true, true, true, true, true, false] rfl rfl (any_of HT_.out (by kernel_rfl)) (fun _ _ _ h => h) (Or.inl ⟨by rfl, ?_⟩) ?_ ?_
          rotate_left
          ·intro w'
           go_simp
           with_reducible rfl
          rotate_left
          ·simp only [Act.put, List.setIfInBounds_toArray, List.set_cons_zero, List.set_cons_succ, i64_w, i32_w]
           rfl
          exact norm_ (by simp only [putAll, Act.put, List.setIfInBounds_toArray, List.set_cons_zero, List.set_cons_succ]) (hCont (gb242) _ ⟨hHeld, (by (with_reducible repeat (first | apply Kd.R_alloc | apply Kd.R_drewN | apply Kd.R_drew)); exact HO_237000.out), (by (with_reducible repeat (first | apply Kd.R_alloc | apply Kd.R_drewN | apply Kd.R_drew)); exact HO_4.out), (by (with_reducible repeat (first | refine blk_drewN ?_ _ | refine blk_drew ?_ | refine blk_alloc ?_ _)); exact BK231.out), (by (with_reducible repeat (first | refine blk_drewN ?_ _ | refine blk_drew ?_ | refine blk_alloc ?_ _)); exact BK236.out), (by (with_reducible repeat (first | refine blk_drewN ?_ _ | refine blk_drew ?_ | refine blk_alloc ?_ _)); exact BK242.out), GW242.out, GE242.out, NB231_242.out, NB242_231.out, NB236_242.out, NB242_236.out, (by repeat (first | (with_reducible first | exact HB.out | apply below_alloc | apply pw_below_drewN | apply below_drew1 | refine below_set ?_ GE231.out | refine below_set ?_ GE236.out | refine below_set ?_ GE242.out) | exact HB.out))⟩)
        rintro gb242 w35 ⟨hS_, h0_, h1_, h2_, h3_, h4_, h5_, h6_, h7_, h8_, h9_, h10_, h11_⟩
        have n0_ : Aside0 (Kd.R k41 41 w35 w.heap.size (fun k_ => some k_ ≠ (u4 : Value).ownBlock ∧ k_ ≠ gb242) (.slice (some ad238) t232.length co7) t232) := ⟨h0_⟩
        have n1_ : Aside0 (Kd.R k41 41 w35 w.heap.size (fun k_ => some k_ ≠ (.slice (some ad238) t232.length co7 : Value).ownBlock ∧ k_ ≠ gb242) u4 x4_1) := ⟨h1_⟩
        have n2_ : Aside0 (w35.heap[gb231]? = some (.cells #[.string x232000_1, .bool x232001_1] 26 (0, 0))) := ⟨h2_⟩
        have n3_ : Aside0 (w35.heap[gb236]? = some (.cells #[.slice (some ad238) t232.length co7, .bool true] 56 (0, 0))) := ⟨h3_⟩
        have n4_ : Aside0 (w35.heap[gb242]? = some (.cells #[.string (⟨#[]⟩ : ByteArray), .string (⟨#[]⟩ : ByteArray)] 41 (0, 0))) := ⟨h4_⟩
        have n5_ : Aside0 (w.heap.size ≤ gb242) := ⟨h5_⟩
        have n6_ : Aside0 (w.heap.size ≤ gb242) := ⟨h6_⟩
        have n7_ : Aside0 (gb231 ≠ gb242) := ⟨h7_⟩
        have n8_ : Aside0 (gb242 ≠ gb231) := ⟨h8_⟩
        have n9_ : Aside0 (gb236 ≠ gb242) := ⟨h9_⟩
        have n10_ : Aside0 (gb242 ≠ gb236) := ⟨h10_⟩
        have n11_ : Aside0 (Below w.heap.size w w35) := ⟨h11_⟩
        clear HO_4
        clear HO_237000
        clear BK231
        clear BK236
        clear HB
        clear h0_ h1_ h2_ h3_ h4_ h5_ h6_ h7_ h8_ h9_ h10_ h11_
        have HO_237000 := n0_
        have HO_4 := n1_
        have BK231 := n2_
        have BK236 := n3_
        have BK242 := n4_
        have GW242 := n5_
        have GE242 := n6_
        have NB231_242 := n7_
        have NB242_231 := n8_
        have NB236_242 := n9_
        have NB242_236 := n10_
        have HB := n11_
        clear n0_ n1_ n2_ n3_ n4_ n5_ n6_ n7_ n8_ n9_ n10_ n11_
        have hHeld : w35.cell? ⟨gb236, 0, none⟩ = some (.slice (some ad238) t232.length co7) ∧ w35.cell? ⟨gb236, 1, none⟩ = some (.bool true) ∧ w35.cell? (ad238.add ((x5_1).toNat * 2)) = some (.string ((rd_T41 t232 x5_1).f0)) ∧ w35.cell? ⟨(ad238.add ((x5_1).toNat * 2)).block, (ad238.add ((x5_1).toNat * 2)).off + 1, none⟩ = some (.string ((rd_T41 t232 x5_1).f1)) ∧ w35.cell? (ad238.add ((x5_1).toNat * 2)) = some (.string ((rd_T41 t232 x5_1).f0)) ∧ w35.cell? ⟨(ad238.add ((x5_1).toNat * 2)).block, (ad238.add ((x5_1).toNat * 2)).off + 1, none⟩ = some (.string ((rd_T41 t232 x5_1).f1)) := hS_
        refine norm_ (a' := ?_) ?_ ?_
        rotate_left
        ·simp only [putAll, Act.put, List.setIfInBounds_toArray, List.set_cons_zero, List.set_cons_succ]
         rfl
        refine one_ (i := 16) (N := none) #[true, true, true, true, true, true, true, true, true, true, true, true, true, true, true, true, true] rfl rfl (one_of HT_.out (by kernel_rfl)) (by decide) (fun K hK => ?_)
        have hs36 : w35.cell? ⟨gb242, 0, none⟩ = some (.string (⟨#[]⟩ : ByteArray)) := (blk_cell BK242.out 0).trans rfl
        have hfs36 := blk_frozen BK242.out 0
        have hns36_0 := NB231_242.out
        have hns36_1 := NB236_242.out
        have hms36_0 := NB242_231.out
        have hms36_1 := NB242_236.out
        have hs37 : w35.cell? ⟨gb242, 1, none⟩ = some (.string (⟨#[]⟩ : ByteArray)) := (blk_cell BK242.out 1).trans rfl
        have hfs37 := blk_frozen BK242.out 1
        have hns37_0 := NB231_242.out
        have hns37_1 := NB236_242.out
        have hms37_0 := NB242_231.out
        have hms37_1 := NB242_236.out
        refine skip_ (w1 := ?_) (by rfl) rfl ?_ ?_
        rotate_left
        ·go_simp
         rfl
        refine hK.out _ _ ⟨((cell_far (p := ⟨gb242, _, none⟩) NB236_242.out _).trans (((cell_far (p := ⟨gb242, _, none⟩) NB236_242.out _).trans (hHeld.1)))), ((cell_far (p := ⟨gb242, _, none⟩) NB236_242.out _).trans (((cell_far (p := ⟨gb242, _, none⟩) NB236_242.out _).trans (hHeld.2.1)))), ((cell_far (p := ⟨gb242, _, none⟩) (by first | exact Kd.own_blk (Kd.R_away HO_237000.out (fun _ hk => hk.2)) | (rw [add_block]; exact Kd.own_blk (Kd.R_away HO_237000.out (fun _ hk => hk.2))) | (show (Addr.add _ _).block ≠ _; rw [add_block]; exact Kd.own_blk (Kd.R_away HO_237000.out (fun _ hk => hk.2))) | (dsimp only; exact Kd.own_blk (Kd.R_away HO_237000.out (fun _ hk => hk.2)))) _).trans (((cell_far (p := ⟨gb242, _, none⟩) (by first | exact Kd.own_blk (Kd.R_away HO_237000.out (fun _ hk => hk.2)) | (rw [add_block]; exact Kd.own_blk (Kd.R_away HO_237000.out (fun _ hk => hk.2))) | (show (Addr.add _ _).block ≠ _; rw [add_block]; exact Kd.own_blk (Kd.R_away HO_237000.out (fun _ hk => hk.2))) | (dsimp only; exact Kd.own_blk (Kd.R_away HO_237000.out (fun _ hk => hk.2)))) _).trans (hHeld.2.2.1)))), ((cell_far (p := ⟨gb242, _, none⟩) (by first | exact Kd.own_blk (Kd.R_away HO_237000.out (fun _ hk => hk.2)) | (rw [add_block]; exact Kd.own_blk (Kd.R_away HO_237000.out (fun _ hk => hk.2))) | (show (Addr.add _ _).block ≠ _; rw [add_block]; exact Kd.own_blk (Kd.R_away HO_237000.out (fun _ hk => hk.2))) | (dsimp only; exact Kd.own_blk (Kd.R_away HO_237000.out (fun _ hk => hk.2)))) _).trans (((cell_far (p := ⟨gb242, _, none⟩) (by first | exact Kd.own_blk (Kd.R_away HO_237000.out (fun _ hk => hk.2)) | (rw [add_block]; exact Kd.own_blk (Kd.R_away HO_237000.out (fun _ hk => hk.2))) | (show (Addr.add _ _).block ≠ _; rw [add_block]; exact Kd.own_blk (Kd.R_away HO_237000.out (fun _ hk => hk.2))) | (dsimp only; exact Kd.own_blk (Kd.R_away HO_237000.out (fun _ hk => hk.2)))) _).trans (hHeld.2.2.2.1)))), ((cell_far (p := ⟨gb242, _, none⟩) (by first | exact Kd.own_blk (Kd.R_away HO_237000.out (fun _ hk => hk.2)) | (rw [add_block]; exact Kd.own_blk (Kd.R_away HO_237000.out (fun _ hk => hk.2))) | (show (Addr.add _ _).block ≠ _; rw [add_block]; exact Kd.own_blk (Kd.R_away HO_237000.out (fun _ hk => hk.2))) | (dsimp only; exact Kd.own_blk (Kd.R_away HO_237000.out (fun _ hk => hk.2)))) _).trans (((cell_far (p := ⟨gb242, _, none⟩) (by first | exact Kd.own_blk (Kd.R_away HO_237000.out (fun _ hk => hk.2)) | (rw [add_block]; exact Kd.own_blk (Kd.R_away HO_237000.out (fun _ hk => hk.2))) | (show (Addr.add _ _).block ≠ _; rw [add_block]; exact Kd.own_blk (Kd.R_away HO_237000.out (fun _ hk => hk.2))) | (dsimp only; exact Kd.own_blk (Kd.R_away HO_237000.out (fun _ hk => hk.2)))) _).trans (hHeld.2.2.2.2.1)))), ((cell_far (p := ⟨gb242, _, none⟩) (by first | exact Kd.own_blk (Kd.R_away HO_237000.out (fun _ hk => hk.2)) | (rw [add_block]; exact Kd.own_blk (Kd.R_away HO_237000.out (fun _ hk => hk.2))) | (show (Addr.add _ _).block ≠ _; rw [add_block]; exact Kd.own_blk (Kd.R_away HO_237000.out (fun _ hk => hk.2))) | (dsimp only; exact Kd.own_blk (Kd.R_away HO_237000.out (fun _ hk => hk.2)))) _).trans (((cell_far (p := ⟨gb242, _, none⟩) (by first | exact Kd.own_blk (Kd.R_away HO_237000.out (fun _ hk => hk.2)) | (rw [add_block]; exact Kd.own_blk (Kd.R_away HO_237000.out (fun _ hk => hk.2))) | (show (Addr.add _ _).block ≠ _; rw [add_block]; exact Kd.own_blk (Kd.R_away HO_237000.out (fun _ hk => hk.2))) | (dsimp only; exact Kd.own_blk (Kd.R_away HO_237000.out (fun _ hk => hk.2)))) _).trans (hHeld.2.2.2.2.2))))⟩ (fun hHeld => ?_)
        clear hK K
        refine done_ (done_of HT_.out (by kernel_rfl)) ?_
        have hnb38 := NB242_231.out
        have hnc38 := NB231_242.out
        have hnb39 := NB242_236.out
        have hnc39 := NB236_242.out
        have hcz40_0 : w35.cell? ⟨gb242, 0, none⟩ = some (.string (⟨#[]⟩ : ByteArray)) := (blk_cell BK242.out 0).trans rfl
        have hcz40_1 : w35.cell? ⟨gb242, 1, none⟩ = some (.string (⟨#[]⟩ : ByteArray)) := (blk_cell BK242.out 1).trans rfl
        have hfz40_0 := blk_frozen BK242.out 0
        have hfz40_1 := blk_frozen BK242.out 1
        try go_wp2_with (first | ((with_reducible refine gate_builtin (b := .append) (xs := #[.tmp 39, .tmp 41]) rfl ?_); at_builtin; refine Kd.R_append k41 (w0 := w) w.heap.size rfl (.tmp 39) (.tmp 41) 42 41 (.agg #[(.string ⟨#[]⟩), (.string ⟨#[]⟩)]) 32 rfl Tryz.underlying42 info41 rfl (by decide) (by omega) u4 x4_1 (⟨t239, t241⟩ : S41) [.string t239, .string t241] (fun k_ => some k_ ≠ (.slice (some ad238) t232.length co7 : Value).ownBlock ∧ k_ ≠ gb242) (fun _ => False) rfl (by first | (go_simp; done) | (go_simp; rfl)) ?aP (fun _ hk => hk.elim) ?aF ?aO ?aB ?aS ?aL ?_; (case aP => exact k41_mkM _ _ _ (⟨t239, t241⟩ : S41)); (case aB => exact (by repeat (first | (with_reducible first | exact HB.out | apply below_alloc | apply pw_below_drewN | apply below_drew1 | refine below_set ?_ GE231.out | refine below_set ?_ GE236.out | refine below_set ?_ GE242.out) | exact HB.out))); (case aF => exact (fun k_ hk => ⟨Kd.fresh' (Kd.R_lt (by (with_reducible repeat (first | apply Kd.R_alloc | apply Kd.R_drewN | apply Kd.R_drew)); exact (Kd.R_mono (Kd.R_far (p := ⟨gb242, 1, none⟩) (Kd.R_far (p := ⟨gb242, 0, none⟩) (Kd.R_mono HO_237000.out (fun k_ hk => (⟨hk, hk.2⟩ : _ ∧ k_ ≠ gb242))) (fun _ hk => hk.2) (.string t239)) (fun _ hk => hk.2) (.string t241)) (fun _ h_ => h_.1)))) k_ hk, Kd.freshB (g := gb242) (o := .cells #[.string t239, .string t241] 41 (0, 0)) (by (with_reducible repeat (first | refine blk_drewN ?_ _ | refine blk_drew ?_ | refine blk_alloc ?_ _)); refine blk_put (cs := #[.string t239, .string (⟨#[]⟩ : ByteArray)]) ?_ 1 _ (by first | rfl | (simp only [bneNil, beqNil]; rfl) | simp [bneNil, beqNil]); (with_reducible repeat (first | refine blk_drewN ?_ _ | refine blk_drew ?_ | refine blk_alloc ?_ _)); refine blk_put (cs := #[.string (⟨#[]⟩ : ByteArray), .string (⟨#[]⟩ : ByteArray)]) ?_ 0 _ (by first | rfl | (simp only [bneNil, beqNil]; rfl) | simp [bneNil, beqNil]); (with_reducible repeat (first | refine blk_drewN ?_ _ | refine blk_drew ?_ | refine blk_alloc ?_ _)); exact BK242.out) k_ hk⟩)); (case aO => exact (by (with_reducible repeat (first | apply Kd.R_alloc | apply Kd.R_drewN | apply Kd.R_drew)); exact Kd.R_mono (Kd.R_far (p := ⟨gb242, 1, none⟩) (Kd.R_far (p := ⟨gb242, 0, none⟩) (Kd.R_mono HO_4.out (fun k_ hk => (⟨hk, hk.2⟩ : _ ∧ k_ ≠ gb242))) (fun _ hk => hk.2) (.string t239)) (fun _ hk => hk.2) (.string t241)) (fun _ hk => ⟨hk.1.1, hk.1.2⟩))); (case aS => exact (below_size (by repeat (first | (with_reducible first | exact HB.out | apply below_alloc | apply pw_below_drewN | apply below_drew1 | refine below_set ?_ GE231.out | refine below_set ?_ GE236.out | refine below_set ?_ GE242.out) | exact HB.out)))); (case aL => have := LMc28.out; omega); intro v244 w41 ho hb hg hat; rw [← Ny243.out] at ho; have n0_ := Aside0.mk (Kd.R_after (ok := (fun k_ => k_ ≠ gb242)) (by (with_reducible repeat (first | apply Kd.R_alloc | apply Kd.R_drewN | apply Kd.R_drew)); exact Kd.R_mono (Kd.R_far (p := ⟨gb242, 1, none⟩) (Kd.R_far (p := ⟨gb242, 0, none⟩) (Kd.R_mono HO_237000.out (fun k_ hk => (⟨hk, hk.2⟩ : _ ∧ k_ ≠ gb242))) (fun _ hk => hk.2) (.string t239)) (fun _ hk => hk.2) (.string t241)) (fun _ hk => ⟨hk.1.2, hk.1.1⟩)) hg hat); have n1_ := Aside0.mk (blk_grown (g := gb231) (o := .cells #[.string x232000_1, .bool x232001_1] 26 (0, 0)) (by (with_reducible repeat (first | refine blk_drewN ?_ _ | refine blk_drew ?_ | refine blk_alloc ?_ _)); refine blk_far ?_ NB231_242.out _; (with_reducible repeat (first | refine blk_drewN ?_ _ | refine blk_drew ?_ | refine blk_alloc ?_ _)); refine blk_far ?_ NB231_242.out _; (with_reducible repeat (first | refine blk_drewN ?_ _ | refine blk_drew ?_ | refine blk_alloc ?_ _)); exact BK231.out) hg (Kd.R_ne HO_4.out BK231.out (by decide))); have n2_ := Aside0.mk (blk_grown (g := gb236) (o := .cells #[.slice (some ad238) t232.length co7, .bool true] 56 (0, 0)) (by (with_reducible repeat (first | refine blk_drewN ?_ _ | refine blk_drew ?_ | refine blk_alloc ?_ _)); refine blk_far ?_ NB236_242.out _; (with_reducible repeat (first | refine blk_drewN ?_ _ | refine blk_drew ?_ | refine blk_alloc ?_ _)); refine blk_far ?_ NB236_242.out _; (with_reducible repeat (first | refine blk_drewN ?_ _ | refine blk_drew ?_ | refine blk_alloc ?_ _)); exact BK236.out) hg (Kd.R_ne HO_4.out BK236.out (by decide))); have n3_ := Aside0.mk (blk_grown (g := gb242) (o := .cells #[.string t239, .string t241] 41 (0, 0)) (by (with_reducible repeat (first | refine blk_drewN ?_ _ | refine blk_drew ?_ | refine blk_alloc ?_ _)); refine blk_put (cs := #[.string t239, .string (⟨#[]⟩ : ByteArray)]) ?_ 1 _ (by first | rfl | (simp only [bneNil, beqNil]; rfl) | simp [bneNil, beqNil]); (with_reducible repeat (first | refine blk_drewN ?_ _ | refine blk_drew ?_ | refine blk_alloc ?_ _)); refine blk_put (cs := #[.string (⟨#[]⟩ : ByteArray), .string (⟨#[]⟩ : ByteArray)]) ?_ 0 _ (by first | rfl | (simp only [bneNil, beqNil]; rfl) | simp [bneNil, beqNil]); (with_reducible repeat (first | refine blk_drewN ?_ _ | refine blk_drew ?_ | refine blk_alloc ?_ _)); exact BK242.out) hg (Kd.R_away HO_4.out (fun _ hk => hk.2))); have n4_ := Aside0.mk (hb); have n5_ := Aside0.mk (ho); clear HO_237000; clear BK231; clear BK236; clear BK242; clear HB; clear HO_4; have HO_237000 := n0_; have BK231 := n1_; have BK236 := n2_; have BK242 := n3_; have HB := n4_; have HO245 := n5_; clear n0_ n1_ n2_ n3_ n4_ n5_; clear ho hb hg hat))
        go_roundg k1
        case measure => have := HK1.out; omega
        case rel => exact ⟨(y243), (wrap64 (x5_1 + 1)), (x232000_1), (x232001_1), (by first | rfl | (simp; done) | (simp [*]; done) | (simp [*, i64_w, i32_w, u8_w]; done) | (simp only [bneNil, beqNil]; done) | (simp only [bneNil, beqNil]; simp; done) | (simp only [bneNil, beqNil]; simp [*]; done)), H', ⟨by have := HK1.out; omega⟩, ⟨by (with_reducible repeat (first | apply Kd.R_alloc | apply Kd.R_drewN | apply Kd.R_drew)); exact Kd.R_mono HO245.out (fun _ hk => hk.1)⟩, ⟨by (with_reducible repeat (first | apply Kd.R_alloc | apply Kd.R_drewN | apply Kd.R_drew)); exact Kd.R_mono HO_237000.out (fun _ hk => hk.2)⟩, ⟨by (with_reducible repeat (first | refine blk_drewN ?_ _ | refine blk_drew ?_ | refine blk_alloc ?_ _)); exact BK231.out⟩, ⟨by (with_reducible repeat (first | refine blk_drewN ?_ _ | refine blk_drew ?_ | refine blk_alloc ?_ _)); exact BK236.out⟩, ⟨by repeat (first | (with_reducible first | exact HB.out | apply below_alloc | apply pw_below_drewN | apply below_drew1 | refine below_set ?_ GE231.out | refine below_set ?_ GE236.out | refine below_set ?_ GE242.out) | exact HB.out)⟩⟩
       ·rw [if_neg c28] at H
        exact absurd H (by simp)
     ·rw [if_neg c11] at H
      exact absurd H (by simp)
    ·rw [if_neg c10] at H
     have c10b0 : decide (x5_1 < (t232.length : Int)) = false := decide_eq_false c10
     clear c10
     replace H := Option.bind_eq_some_iff.mp H
     obtain ⟨t237, A420, H⟩ := H
     replace H : (some (t237, true)) = some (r1, r2) := H
     have A42 := Aside0.mk A420
     clear A420
     simp only [Option.some.injEq, Prod.mk.injEq] at H
     obtain ⟨rfl, rfl⟩ := H
     have hnb43 := NB236_231.out
     have hnc43 := NB231_236.out
     have hcz44_0 : wr.cell? ⟨gb236, 0, none⟩ = some (.slice Ao7 t232.length co7) := (blk_cell BK236.out 0).trans rfl
     have hcz44_1 : wr.cell? ⟨gb236, 1, none⟩ = some (.bool true) := (blk_cell BK236.out 1).trans rfl
     have hfz44_0 := blk_frozen BK236.out 0
     have hfz44_1 := blk_frozen BK236.out 1
     obtain ⟨Ao45, co45, eo45⟩ := Kd.R_slice HO_4.out
     subst eo45
     go_wp2_with (first | ((with_reducible refine gate_callee (f := 18) rfl ?_); refine goesL_ (some 44) rfl rfl Tryz.func18 (by kernel_rfl) rfl #[.slice Ao45 x4_1.length co45] rfl (by (try simp only [List.map_toArray, List.map_cons, List.map_nil]); first | done | rfl | (simp only [List.length_drop, List.length_take]; rfl)) ?_; (with_reducible refine (brookref1_TextDn.calls k1 _ _ x4_1 t237 _ ?side1 ?side2 A42.out).mono ?_); (case side1 => repeat (first | exact (Kd.R_reads' HO_4.out).2.2 | (with_reducible refine Kd.C_alloc ?_ _) | (with_reducible refine Kd.C_drewN ?_ _) | (with_reducible refine Kd.C_drew ?_))); (case side2 => exact (Kd.R_reads' HO_4.out).2.1); rintro e w' ⟨rfl, ⟨nd, rfl⟩⟩; refine ⟨_, rfl, ?_⟩; (try (rw [drewN_self wr]; generalize hq_ : World.drewN wr _ = wr; have n0_ : Aside0 (Kd.R k41 41 wr w.heap.size (fun k_ => some k_ ≠ (.slice Ao45 x4_1.length co45 : Value).ownBlock) (.slice Ao7 t232.length co7) t232) := ⟨by rw [← hq_]; exact (by (with_reducible repeat (first | apply Kd.R_alloc | apply Kd.R_drewN | apply Kd.R_drew)); exact HO_237000.out)⟩; have n1_ : Aside0 (Kd.R k41 41 wr w.heap.size (fun k_ => some k_ ≠ (.slice Ao7 t232.length co7 : Value).ownBlock) (.slice Ao45 x4_1.length co45) x4_1) := ⟨by rw [← hq_]; exact (by (with_reducible repeat (first | apply Kd.R_alloc | apply Kd.R_drewN | apply Kd.R_drew)); exact HO_4.out)⟩; have n2_ : Aside0 (wr.heap[gb231]? = some (.cells #[.string x232000_1, .bool x232001_1] 26 (0, 0))) := ⟨by rw [← hq_]; exact (by (with_reducible repeat (first | refine blk_drewN ?_ _ | refine blk_drew ?_ | refine blk_alloc ?_ _)); exact BK231.out)⟩; have n3_ : Aside0 (wr.heap[gb236]? = some (.cells #[.slice Ao7 t232.length co7, .bool true] 56 (0, 0))) := ⟨by rw [← hq_]; exact (by (with_reducible repeat (first | refine blk_drewN ?_ _ | refine blk_drew ?_ | refine blk_alloc ?_ _)); exact BK236.out)⟩; have n4_ : Aside0 (Below w.heap.size w wr) := ⟨by rw [← hq_]; exact (by repeat (first | (with_reducible first | exact HB.out | apply below_alloc | apply pw_below_drewN | apply below_drew1 | refine below_set ?_ GE231.out | refine below_set ?_ GE236.out) | exact HB.out))⟩; clear HO_237000 HO_4 BK231 BK236 HB hq_; have HO_237000 := n0_; have HO_4 := n1_; have BK231 := n2_; have BK236 := n3_; have HB := n4_; clear n0_ n1_ n2_ n3_ n4_)); have hcz46_0 : wr.cell? ⟨gb231, 0, none⟩ = some (.string x232000_1) := (blk_cell BK231.out 0).trans rfl; have hcz46_1 : wr.cell? ⟨gb231, 1, none⟩ = some (.bool x232001_1) := (blk_cell BK231.out 1).trans rfl; have hfz46_0 := blk_frozen BK231.out 0; have hfz46_1 := blk_frozen BK231.out 1))
     refine bodyPost_ret (results_cell_row rfl _ _ gb231 26 #[.string t237, .bool true] (0, 0) _ rfl (by (with_reducible repeat (first | refine blk_drewN ?_ _ | refine blk_drew ?_ | refine blk_alloc ?_ _)); refine blk_put (cs := #[.string t237, .bool x232001_1]) ?_ 1 _ (by first | rfl | (simp only [bneNil, beqNil]; rfl) | simp [bneNil, beqNil]); (with_reducible repeat (first | refine blk_drewN ?_ _ | refine blk_drew ?_ | refine blk_alloc ?_ _)); refine blk_put (cs := #[.string x232000_1, .bool x232001_1]) ?_ 0 _ (by first | rfl | (simp only [bneNil, beqNil]; rfl) | simp [bneNil, beqNil]); (with_reducible repeat (first | refine blk_drewN ?_ _ | refine blk_drew ?_ | refine blk_alloc ?_ _)); exact BK231.out) Tryz.underlying26 rfl (by kernel_rfl)) rfl ?_
     exact ⟨by first | rfl | (simp [errW_none, errW_some] <;> rfl) | (simp [*, errW_none, errW_some] <;> rfl), by repeat (first | (with_reducible first | exact HB.out | apply below_alloc | apply pw_below_drewN | apply below_drew1 | refine below_set ?_ GE231.out | refine below_set ?_ GE236.out) | exact HB.out)⟩
 ·replace c3 := Bool.eq_false_iff.mpr c3
  subst c3
  have H1 : (some ((⟨#[]⟩ : ByteArray), false)) = some (r1, r2) := by rw [if_neg (show ¬ (false = true) by decide)] at H; exact H
  clear H
  have H := H1
  clear H1
  simp only [Option.some.injEq, Prod.mk.injEq] at H
  obtain ⟨rfl, rfl⟩ := H
  go_enter Tryz.func20, Tryz.ntmps20
  go_wp2_with (first | ((with_reducible refine gate_dst (N := 2) rfl ?_); refine box_event ?hg (N := 2) ?hd (cs := #[.string (⟨#[]⟩ : ByteArray), .bool false]) (t := 26) ?hr ?_; (case hd => rfl); (case hg => rfl); (case hr => first | (go_simp; done) | (go_simp; rfl)); intro gb231 hg w47 hbox hb; have n0_ := Aside0.mk (below_step (by repeat (first | (with_reducible first | exact HB.out | apply below_alloc | apply pw_below_drewN | apply below_drew1) | exact HB.out)) hb); have n1_ := Aside0.mk (hbox); have n2_ := Aside0.mk ((by rw [hg]; exact (below_size (by repeat (first | (with_reducible first | exact HB.out | apply below_alloc | apply pw_below_drewN | apply below_drew1) | exact HB.out))) : w.heap.size ≤ gb231)); have n3_ := Aside0.mk ((by rw [hg]; exact (below_size (by repeat (first | (with_reducible first | exact HB.out | apply below_alloc | apply pw_below_drewN | apply below_drew1) | exact HB.out))) : w.heap.size ≤ gb231)); clear HB; have HB := n0_; have BK231 := n1_; have GW231 := n2_; have GE231 := n3_; clear n0_ n1_ n2_ n3_; clear hb hbox hg) | ((with_reducible refine gate_callee (f := 30) rfl ?_); refine goesL_ (some 8) rfl rfl Tryz.func30 (by kernel_rfl) rfl #[.string a0] rfl (by (try simp only [List.map_toArray, List.map_cons, List.map_nil]); first | done | rfl | (simp only [List.length_drop, List.length_take]; rfl)) ?_; (with_reducible refine (brookref1_ParseDn.calls k a0 t232 false _ A2.out).mono ?_); rintro e w48 ⟨v233, rfl, ho0, hb⟩; refine ⟨_, rfl, ?_⟩; have n0_ := Aside0.mk (Kd.R_lower ho0 (below_size (by repeat (first | (with_reducible first | exact HB.out | apply below_alloc | apply pw_below_drewN | apply below_drew1 | refine below_set ?_ GE231.out) | exact HB.out)))); have n1_ := Aside0.mk (blk_below (g := gb231) (o := .cells #[.string (⟨#[]⟩ : ByteArray), .bool false] 26 (0, 0)) (by (with_reducible repeat (first | refine blk_drewN ?_ _ | refine blk_drew ?_ | refine blk_alloc ?_ _)); exact BK231.out) hb); have n2_ := Aside0.mk (below_step (by repeat (first | (with_reducible first | exact HB.out | apply below_alloc | apply pw_below_drewN | apply below_drew1 | refine below_set ?_ GE231.out) | exact HB.out)) hb); clear BK231; clear HB; have HO234 := n0_; have BK231 := n1_; have HB := n2_; clear n0_ n1_ n2_; (try clear hb); (try clear hb2); (try clear hk); (try clear hi); (try clear ho0)) | ((with_reducible refine gate_dst (N := 3) rfl ?_); refine box_event ?hg (N := 3) ?hd (cs := #[.slice none 0 0, .bool false]) (t := 56) ?hr ?_; (case hd => rfl); (case hg => rfl); (case hr => first | (go_simp; done) | (go_simp; rfl)); intro gb236 hg w49 hbox hb; have n0_ := Aside0.mk (Kd.R_below (by (with_reducible repeat (first | apply Kd.R_alloc | apply Kd.R_drewN | apply Kd.R_drew)); exact HO234.out) hb); have n1_ := Aside0.mk (blk_below (g := gb231) (o := .cells #[.string (⟨#[]⟩ : ByteArray), .bool false] 26 (0, 0)) (by (with_reducible repeat (first | refine blk_drewN ?_ _ | refine blk_drew ?_ | refine blk_alloc ?_ _)); exact BK231.out) hb); have n2_ := Aside0.mk (below_step (by repeat (first | (with_reducible first | exact HB.out | apply below_alloc | apply pw_below_drewN | apply below_drew1 | refine below_set ?_ GE231.out) | exact HB.out)) hb); have n3_ := Aside0.mk (hbox); have n4_ := Aside0.mk ((by rw [hg]; exact (below_size (by repeat (first | (with_reducible first | exact HB.out | apply below_alloc | apply pw_below_drewN | apply below_drew1 | refine below_set ?_ GE231.out) | exact HB.out))) : w.heap.size ≤ gb236)); have n5_ := Aside0.mk ((by rw [hg]; exact (below_size (by repeat (first | (with_reducible first | exact HB.out | apply below_alloc | apply pw_below_drewN | apply below_drew1 | refine below_set ?_ GE231.out) | exact HB.out))) : w.heap.size ≤ gb236)); have n6_ := Aside0.mk ((by rw [hg]; exact Nat.ne_of_lt (blk_lt (g := gb231) (o := .cells #[.string (⟨#[]⟩ : ByteArray), .bool false] 26 (0, 0)) (by (with_reducible repeat (first | refine blk_drewN ?_ _ | refine blk_drew ?_ | refine blk_alloc ?_ _)); exact BK231.out)) : gb231 ≠ gb236)); have n7_ := Aside0.mk ((by rw [hg]; exact Nat.ne_of_gt (blk_lt (g := gb231) (o := .cells #[.string (⟨#[]⟩ : ByteArray), .bool false] 26 (0, 0)) (by (with_reducible repeat (first | refine blk_drewN ?_ _ | refine blk_drew ?_ | refine blk_alloc ?_ _)); exact BK231.out)) : gb236 ≠ gb231)); clear HO234; clear BK231; clear HB; have HO234 := n0_; have BK231 := n1_; have HB := n2_; have BK236 := n3_; have GW236 := n4_; have GE236 := n5_; have NB231_236 := n6_; have NB236_231 := n7_; clear n0_ n1_ n2_ n3_ n4_ n5_ n6_ n7_; clear hb hbox hg; obtain ⟨Ao50, co50, eo50⟩ := Kd.R_slice HO234.out; subst eo50; have hnb51 := NB236_231.out; have hnc51 := NB231_236.out; have hcz52_0 : w49.cell? ⟨gb236, 0, none⟩ = some (.slice none 0 0) := (blk_cell BK236.out 0).trans rfl; have hcz52_1 : w49.cell? ⟨gb236, 1, none⟩ = some (.bool false) := (blk_cell BK236.out 1).trans rfl; have hfz52_0 := blk_frozen BK236.out 0; have hfz52_1 := blk_frozen BK236.out 1; have hcz53_0 : w49.cell? ⟨gb231, 0, none⟩ = some (.string (⟨#[]⟩ : ByteArray)) := (blk_cell BK231.out 0).trans rfl; have hcz53_1 : w49.cell? ⟨gb231, 1, none⟩ = some (.bool false) := (blk_cell BK231.out 1).trans rfl; have hfz53_0 := blk_frozen BK231.out 0; have hfz53_1 := blk_frozen BK231.out 1))
  refine bodyPost_ret (results_cell_row rfl _ _ gb231 26 #[.string (⟨#[]⟩ : ByteArray), .bool false] (0, 0) _ rfl (by (with_reducible repeat (first | refine blk_drewN ?_ _ | refine blk_drew ?_ | refine blk_alloc ?_ _)); refine blk_put (cs := #[.string (⟨#[]⟩ : ByteArray), .bool false]) ?_ 1 _ (by first | rfl | (simp only [bneNil, beqNil]; rfl) | simp [bneNil, beqNil]); (with_reducible repeat (first | refine blk_drewN ?_ _ | refine blk_drew ?_ | refine blk_alloc ?_ _)); refine blk_put (cs := #[.string (⟨#[]⟩ : ByteArray), .bool false]) ?_ 0 _ (by first | rfl | (simp only [bneNil, beqNil]; rfl) | simp [bneNil, beqNil]); (with_reducible repeat (first | refine blk_drewN ?_ _ | refine blk_drew ?_ | refine blk_alloc ?_ _)); refine blk_far ?_ NB231_236.out _; (with_reducible repeat (first | refine blk_drewN ?_ _ | refine blk_drew ?_ | refine blk_alloc ?_ _)); refine blk_far ?_ NB231_236.out _; (with_reducible repeat (first | refine blk_drewN ?_ _ | refine blk_drew ?_ | refine blk_alloc ?_ _)); exact BK231.out) Tryz.underlying26 rfl (by kernel_rfl)) rfl ?_
  exact ⟨by first | rfl | (simp [errW_none, errW_some] <;> rfl) | (simp [*, errW_none, errW_some] <;> rfl), by repeat (first | (with_reducible first | exact HB.out | apply below_alloc | apply pw_below_drewN | apply below_drew1 | refine below_set ?_ GE231.out | refine below_set ?_ GE236.out) | exact HB.out)⟩
end Go.Proofs.YtpcjjpkmebgjjaaGreatDoor.P

namespace Go.Proofs.YtpcjjpkmebgjjaaGreatDoor.P
open Go.RowKit Go.Proofs.YtpcjjpkmebgjjaaGreatDoorW.PrintWords Go.Proofs.YtpcjjpkmebgjjaaGreatDoorW.PrintLast Go.Proofs.YtpcjjpkmebgjjaaGreatDoorW.PrintMore
set_option linter.unusedVariables false
set_option linter.unusedSimpArgs false
end Go.Proofs.YtpcjjpkmebgjjaaGreatDoor.P

namespace Go.Proofs.YtpcjjpkmebgjjaaGreatDoor.P
open Go.RowKit Go.Proofs.YtpcjjpkmebgjjaaGreatDoorW.PrintWords Go.Proofs.YtpcjjpkmebgjjaaGreatDoorW.PrintLast Go.Proofs.YtpcjjpkmebgjjaaGreatDoorW.PrintMore
attribute [local go_sem] max2_int min2_int max_two min_two max_three min_three max_four min_four
set_option linter.unusedVariables false
set_option linter.unusedSimpArgs false
end Go.Proofs.YtpcjjpkmebgjjaaGreatDoor.P

namespace Go.Proofs.YtpcjjpkmebgjjaaGreatDoor.P
open Go.RowKit Go.Proofs.YtpcjjpkmebgjjaaGreatDoorW.PrintWords Go.Proofs.YtpcjjpkmebgjjaaGreatDoorW.PrintLast Go.Proofs.YtpcjjpkmebgjjaaGreatDoorW.PrintMore
attribute [local go_sem] max2_int min2_int max_two min_two max_three min_three max_four min_four
set_option linter.unusedVariables false
set_option linter.unusedSimpArgs false
attribute [local go_sem high] fld47_1
end Go.Proofs.YtpcjjpkmebgjjaaGreatDoor.P

namespace Go.Proofs.YtpcjjpkmebgjjaaGreatDoor.P
open Go.RowKit Go.Proofs.YtpcjjpkmebgjjaaGreatDoorW.PrintWords Go.Proofs.YtpcjjpkmebgjjaaGreatDoorW.PrintLast Go.Proofs.YtpcjjpkmebgjjaaGreatDoorW.PrintMore
attribute [local go_sem] max2_int min2_int max_two min_two max_three min_three max_four min_four
set_option linter.unusedVariables false
set_option linter.unusedSimpArgs false
end Go.Proofs.YtpcjjpkmebgjjaaGreatDoor.P

namespace Go.Proofs.YtpcjjpkmebgjjaaGreatDoor.P
open Go.RowKit Go.Proofs.YtpcjjpkmebgjjaaGreatDoorW.PrintWords Go.Proofs.YtpcjjpkmebgjjaaGreatDoorW.PrintLast Go.Proofs.YtpcjjpkmebgjjaaGreatDoorW.PrintMore
attribute [local go_sem] max2_int min2_int max_two min_two max_three min_three max_four min_four
set_option linter.unusedVariables false
set_option linter.unusedSimpArgs false
attribute [local go_sem high] fld47_0
end Go.Proofs.YtpcjjpkmebgjjaaGreatDoor.P

namespace Go.Proofs.YtpcjjpkmebgjjaaGreatDoor.P
open Go.RowKit Go.Proofs.YtpcjjpkmebgjjaaGreatDoorW.PrintWords Go.Proofs.YtpcjjpkmebgjjaaGreatDoorW.PrintLast Go.Proofs.YtpcjjpkmebgjjaaGreatDoorW.PrintMore
attribute [local go_sem] max2_int min2_int max_two min_two max_three min_three max_four min_four
set_option linter.unusedVariables false
set_option linter.unusedSimpArgs false
end Go.Proofs.YtpcjjpkmebgjjaaGreatDoor.P


namespace Go.Proofs.YtpcjjpkmebgjjaaGreatDoor.P
open Go.RowKit Go.Proofs.YtpcjjpkmebgjjaaGreatDoorW.PrintWords Go.Proofs.YtpcjjpkmebgjjaaGreatDoorW.PrintLast Go.Proofs.YtpcjjpkmebgjjaaGreatDoorW.PrintMore
set_option linter.unusedVariables false
set_option linter.unusedSimpArgs false
theorem ref_lower (s : ByteArray) (h : s.size ≤ 9223372036854775807) : brookref1_Lower.f s = some (lowS s) := by unfold brookref1_Lower.f; rw [if_pos h]
theorem in_loop (s : ByteArray) (hs : s.size ≤ 1073741824) (c : UInt8) : ∀ n i : Nat, s.size - i = n → i ≤ s.size → Ev (fun k => brookref1_in.l0 k s (c.toNat : Int) (i : Int)) ((s.data.toList.drop i).any (· == c)) := by
  intro n
  have hlen : s.data.toList.length = s.size := (size_len s).symm
  induction n with
  | zero =>
    intro i hn hi
    refine Ev.step (fun k => by rw [brookref1_in.l0]) (Ev.ifn (by omega) ?_)
    rw [List.drop_eq_nil_of_le (by omega)]
    exact Ev.now _
  | succ n ih =>
    intro i hn hi
    have hd := drop_cons s.data.toList i (by omega)
    generalize hc : s.data.toList.getD i 0 = d at hd
    have hb : bt s (i : Int) = (d.toNat : Int) := by rw [bt_nat, hc]
    refine Ev.step (fun k => by rw [brookref1_in.l0]) (Ev.ifp (by omega) (Ev.ifp (by omega) ?_))
    rw [hd, List.any_cons, hb]
    by_cases h : d = c
    · rw [h, beq_self_eq_true, Bool.true_or]; exact Ev.ifp rfl (Ev.now _)
    · rw [beq_eq_false_iff_ne.2 h, Bool.false_or, wrap_small _ (by omega) (by omega), show (i : Int) + 1 = ((i + 1 : Nat) : Int) by omega]
      exact Ev.ifn (fun e => h ((u8i d c).1 e)) (ih (i + 1) (by omega) (by omega))
theorem in_ev (s : ByteArray) (hs : s.size ≤ 1073741824) (c : UInt8) : Ev (fun k => brookref1_in.f k s (c.toNat : Int)) (s.data.toList.any (· == c)) := in_loop s hs c s.size 0 (by omega) (by omega)
theorem in_special (c : UInt8) : ([44, 43, 34, 92, 60, 62, 59] : List UInt8).any (· == c) = specialB c := byteAll (p := fun c => ([44, 43, 34, 92, 60, 62, 59] : List UInt8).any (· == c) = specialB c) (by decide +kernel) c
theorem ref_two (c : UInt8) : brookref1_two.f (c.toNat : Int) = some (mk [92, hexD (c >>> 4), hexD (c &&& 15)]) := by
  unfold brookref1_two.f
  have := c.toNat_lt
  rw [if_pos (by omega), Int.toNat_natCast, UInt8.ofNat_toNat]
theorem extract_one (s : ByteArray) (i : Nat) (h : i < s.size) : s.extract i (i + 1) = mk [s.data.toList.getD i 0] := by
  apply ba_ext
  have hlen : s.data.toList.length = s.size := (size_len s).symm
  rw [extract_data, mk_data, drop_cons s.data.toList i (by omega)]
  rw [show i + 1 - i = 1 by omega]; rfl
theorem mk_app (a b : List UInt8) : mk a ++ mk b = mk (a ++ b) := by apply ba_ext; rw [append_data, mk_data, mk_data, mk_data]
theorem escTo_len3 (l : List UInt8) : ∀ k, (escTo l k).length ≤ 3 * k
  | 0 => Nat.zero_le _
  | k + 1 => by
    have h1 := escTo_len3 l k
    rw [escTo_succ, List.length_append]
    have : (escB l.length k (l.getD k 0)).length ≤ 3 := by unfold escB; split; simp; split <;> simp
    omega
theorem escaped_loop (s : ByteArray) (hs : s.size ≤ 1073741824) : ∀ n i : Nat, s.size - i = n → i ≤ s.size →
    Ev (fun k => brookref1_escaped.l0 k s (mk (escTo s.data.toList i)) (i : Int)) (mk (escV s.data.toList)) := by
  intro n
  have hlen : s.data.toList.length = s.size := (size_len s).symm
  induction n with
  | zero =>
    intro i hn hi
    have e : i = s.data.toList.length := by omega
    refine Ev.step (fun k => by rw [brookref1_escaped.l0]) (Ev.ifn (by omega) ?_)
    unfold escV
    rw [← e]
    exact Ev.now _
  | succ n ih =>
    intro i hn hi
    generalize hc : s.data.toList.getD i 0 = c
    have hb : bt s (i : Int) = (c.toNat : Int) := by rw [bt_nat, hc]
    have hx : s.extract (i : Int).toNat (wrap64 ((i : Int) + 1)).toNat = mk [c] := by
      rw [wrap_small _ (by omega) (by omega), Int.toNat_natCast, show ((i : Int) + 1).toNat = i + 1 by omega, extract_one s i (by omega), hc]
    have l3 := escTo_len3 s.data.toList i
    have next : Ev (fun k => brookref1_escaped.l0 k s (mk (escTo s.data.toList i ++ escB s.data.toList.length i c)) (wrap64 ((i : Int) + 1))) (mk (escV s.data.toList)) := by
      have := ih (i + 1) (by omega) (by omega)
      rw [escTo_succ, hc] at this
      rw [wrap_small _ (by omega) (by omega), show (i : Int) + 1 = ((i + 1 : Nat) : Int) by omega]
      exact this
    have w1 : wrap64 ((i : Int) + 1) = (i : Int) + 1 := wrap_small _ (by omega) (by omega)
    have w2 : wrap64 ((s.size : Int) - 1) = (s.size : Int) - 1 := wrap_small _ (by omega) (by omega)
    have odd : oddB c = true → Ev (fun k => brookref1_escaped.j1 k s (mk (escTo s.data.toList i)) (i : Int) (c.toNat : Int) true) (mk (escV s.data.toList)) := by
      intro ho
      refine Ev.step (fun k => by rw [brookref1_escaped.j1]) (Ev.ifp rfl ?_)
      rw [ref_two]
      refine Ev.bs (Ev.ifp (by rw [mk_size, mk_size]; simp only [List.length_cons, List.length_nil]; omega) ?_)
      rw [mk_app]
      have e : escB s.data.toList.length i c = [92, hexD (c >>> 4), hexD (c &&& 15)] := by unfold escB; rw [if_pos ho]
      rw [e] at next
      exact next
    have back : oddB c = false → backB s.data.toList.length i c = true → Ev (fun k => if (mk (escTo s.data.toList i)).size + 1 ≤ 9223372036854775807 then (if 0 ≤ (i : Int) then (if (i : Int) ≤ (wrap64 ((i : Int) + 1)) then (if (wrap64 ((i : Int) + 1)) ≤ (s.size : Int) then (if (mk (escTo s.data.toList i) ++ (⟨#[92]⟩ : ByteArray)).size + (s.extract (i : Int).toNat (wrap64 ((i : Int) + 1)).toNat).size ≤ 9223372036854775807 then (brookref1_escaped.l0 k s ((mk (escTo s.data.toList i) ++ (⟨#[92]⟩ : ByteArray)) ++ (s.extract (i : Int).toNat (wrap64 ((i : Int) + 1)).toNat)) (wrap64 ((i : Int) + 1))) else none) else none) else none) else none) else none) (mk (escV s.data.toList)) := by
      intro ho hk
      rw [hx, show (⟨#[92]⟩ : ByteArray) = mk [92] from rfl, mk_app, mk_app, List.append_assoc]
      refine Ev.ifp (by rw [mk_size]; omega) (Ev.ifp (by omega) (Ev.ifp (by rw [w1]; omega) (Ev.ifp (by rw [w1]; omega) (Ev.ifp (by rw [mk_size, mk_size]; simp only [List.length_append, List.length_cons, List.length_nil]; omega) ?_))))
      have e : escB s.data.toList.length i c = [92] ++ [c] := by unfold escB; rw [if_neg (by rw [ho]; exact Bool.false_ne_true), if_pos hk]; rfl
      rw [e] at next
      exact next
    have bare : oddB c = false → backB s.data.toList.length i c = false → Ev (fun k => if 0 ≤ (i : Int) then (if (i : Int) ≤ (wrap64 ((i : Int) + 1)) then (if (wrap64 ((i : Int) + 1)) ≤ (s.size : Int) then (if (mk (escTo s.data.toList i)).size + (s.extract (i : Int).toNat (wrap64 ((i : Int) + 1)).toNat).size ≤ 9223372036854775807 then (brookref1_escaped.l0 k s (mk (escTo s.data.toList i) ++ (s.extract (i : Int).toNat (wrap64 ((i : Int) + 1)).toNat)) (wrap64 ((i : Int) + 1))) else none) else none) else none) else none) (mk (escV s.data.toList)) := by
      intro ho hk
      rw [hx, mk_app]
      refine Ev.ifp (by omega) (Ev.ifp (by rw [w1]; omega) (Ev.ifp (by rw [w1]; omega) (Ev.ifp (by rw [mk_size, mk_size]; simp only [List.length_cons, List.length_nil]; omega) ?_)))
      have e : escB s.data.toList.length i c = [c] := by unfold escB; rw [if_neg (by rw [ho]; exact Bool.false_ne_true), if_neg (by rw [hk]; exact Bool.false_ne_true)]
      rw [e] at next
      exact next
    have plain : oddB c = false → Ev (fun k => brookref1_escaped.j1 k s (mk (escTo s.data.toList i)) (i : Int) (c.toNat : Int) false) (mk (escV s.data.toList)) := by
      intro ho
      refine Ev.step (fun k => by rw [brookref1_escaped.j1]) (Ev.ifn Bool.false_ne_true ?_)
      have hin := in_ev (⟨#[44, 43, 34, 92, 60, 62, 59]⟩ : ByteArray) (by decide) c
      rw [show (⟨#[44, 43, 34, 92, 60, 62, 59]⟩ : ByteArray).data.toList = [44, 43, 34, 92, 60, 62, 59] from rfl, in_special] at hin
      refine hin.bind ?_
      by_cases hsp : specialB c = true
      · exact Ev.ifp hsp (back ho (by unfold backB; rw [hsp, Bool.true_or, Bool.true_or]))
      refine Ev.ifn hsp ?_
      have hsp' := Bool.eq_false_iff.2 hsp
      by_cases h0 : i = 0
      · refine Ev.ifp (by omega) ?_
        by_cases h35 : c = 35
        · exact Ev.ifp ((u8i c 35).2 h35) (back ho (by unfold backB; rw [h0, h35]; rfl))
        refine Ev.ifn (fun e => h35 ((u8i c 35).1 e)) ?_
        by_cases h32 : c = 32
        · exact Ev.ifp ((u8i c 32).2 h32) (back ho (by unfold backB; rw [h0, h32]; rfl))
        refine Ev.ifn (fun e => h32 ((u8i c 32).1 e)) ?_
        have hk : backB s.data.toList.length i c = false := by unfold backB; rw [hsp', decide_eq_false h35, decide_eq_false h32]; simp
        by_cases hl : (i : Int) = wrap64 ((s.size : Int) - 1)
        · exact Ev.ifp hl (bare ho hk)
        · exact Ev.ifn hl (bare ho hk)
      · refine Ev.ifn (by omega) ?_
        by_cases hl : (i : Int) = wrap64 ((s.size : Int) - 1)
        · refine Ev.ifp hl ?_
          rw [w2] at hl
          by_cases h32 : c = 32
          · exact Ev.ifp ((u8i c 32).2 h32) (back ho (by unfold backB; rw [h32, decide_eq_true (show i + 1 = s.data.toList.length by omega)]; simp))
          · exact Ev.ifn (fun e => h32 ((u8i c 32).1 e)) (bare ho (by unfold backB; rw [hsp', decide_eq_false h0, decide_eq_false h32]; simp))
        · refine Ev.ifn hl ?_
          rw [w2] at hl
          exact bare ho (by unfold backB; rw [hsp', decide_eq_false h0, decide_eq_false (show ¬ i + 1 = s.data.toList.length by omega)]; simp)
    refine Ev.step (fun k => by rw [brookref1_escaped.l0]) (Ev.ifp (by omega) (Ev.ifp (by omega) ?_))
    rw [hb]
    have t32 : (32 : UInt8).toNat = 32 := rfl
    have t126 : (126 : UInt8).toNat = 126 := rfl
    by_cases g1 : c < 32
    · have : c.toNat < (32 : UInt8).toNat := g1
      exact Ev.ifp (by omega) (odd (by unfold oddB; rw [decide_eq_true g1, Bool.true_or]))
    · have g1' : ¬ c.toNat < (32 : UInt8).toNat := g1
      refine Ev.ifn (by omega) ?_
      by_cases g2 : 126 < c
      · have : (126 : UInt8).toNat < c.toNat := g2
        rw [decide_eq_true (show (c.toNat : Int) > 126 by omega)]
        exact odd (by unfold oddB; rw [decide_eq_true g2, Bool.or_true])
      · have g2' : ¬ (126 : UInt8).toNat < c.toNat := g2
        rw [decide_eq_false (show ¬ (c.toNat : Int) > 126 by omega)]
        exact plain (by unfold oddB; rw [decide_eq_false g1, decide_eq_false g2]; rfl)
theorem ref_escaped (s : ByteArray) (hs : s.size ≤ 1073741824) : Ev (fun k => brookref1_escaped.f k s) (mk (escV s.data.toList)) := escaped_loop s hs s.size 0 (by omega) (by omega)
theorem rd_S (rs : List SR) (i : Nat) : rd_T41 rs (i : Int) = rs.getD i z41 := by unfold rd_T41; rw [Int.toNat_natCast]
theorem text_loop (rs : List SR) (hb : ∀ i, i < rs.length → (rs.getD i z41).f0.size ≤ 1073741824 ∧ (rs.getD i z41).f1.size ≤ 1073741824) (hl : (textL rs).length ≤ 1125899906842624) (hn : rs.length ≤ 1073741824) : ∀ n i : Nat, rs.length - i = n → i ≤ rs.length →
    Ev (fun k => brookref1_TextDn.l0 k rs (mk (textTo rs i)) (i : Int)) (mk (textL rs)) := by
  intro n
  induction n with
  | zero =>
    intro i h1 h2
    have e : i = rs.length := by omega
    refine Ev.step (fun k => by rw [brookref1_TextDn.l0]) (Ev.ifn (by omega) ?_)
    subst e
    exact Ev.now _
  | succ n ih =>
    intro i h1 h2
    have hnext := ih (i + 1) (by omega) (by omega)
    rw [textTo_succ] at hnext
    obtain ⟨b0, b1⟩ := hb i (by omega)
    have hlen := textTo_max rs i (by omega)
    refine Ev.step (fun k => by rw [brookref1_TextDn.l0]) (Ev.ifp (by omega) ?_)
    rw [rd_S, wrap_small ((i : Int) + 1) (by omega) (by omega), show (i : Int) + 1 = ((i + 1 : Nat) : Int) by omega]
    generalize rs.getD i z41 = r at hnext b0 b1
    have he := ref_escaped r.f1 b1
    have l3 := escTo_len3 r.f1.data.toList r.f1.data.toList.length
    rw [size_len] at b0 b1
    by_cases h0 : i = 0
    · refine Ev.ifn (by omega) (Ev.ifp (by omega) (Ev.ifp (by rw [mk_size, size_len]; omega) ?_))
      rw [← mk_of r.f0, mk_app]
      refine Ev.ifp (by rw [mk_size, List.length_append]; omega) (he.bind ?_)
      rw [show (⟨#[61]⟩ : ByteArray) = mk [61] from rfl, mk_app, mk_app]
      refine Ev.ifp (by rw [mk_size, mk_size]; unfold escV; simp only [List.length_append, List.length_cons, List.length_nil]; omega) ?_
      unfold sepB rdnB at hnext
      rw [if_pos h0] at hnext
      simp only [List.nil_append, List.append_assoc] at hnext ⊢
      exact hnext
    · refine Ev.ifp (by omega) (Ev.ifp (by rw [mk_size]; omega) (Ev.ifp (by omega) ?_))
      rw [show (⟨#[44]⟩ : ByteArray) = mk [44] from rfl, mk_app, ← mk_of r.f0, mk_app]
      refine Ev.ifp (by rw [mk_size, mk_size]; simp only [List.length_append, List.length_cons, List.length_nil]; omega) (Ev.ifp (by rw [mk_size]; simp only [List.length_append, List.length_cons, List.length_nil]; omega) (he.bind ?_))
      rw [show (⟨#[61]⟩ : ByteArray) = mk [61] from rfl, mk_app, mk_app]
      refine Ev.ifp (by rw [mk_size, mk_size]; unfold escV; simp only [List.length_append, List.length_cons, List.length_nil]; omega) ?_
      unfold sepB rdnB at hnext
      rw [if_neg h0] at hnext
      simp only [List.append_assoc] at hnext ⊢
      exact hnext
theorem ref_text (rs : List SR) (hb : ∀ i, i < rs.length → (rs.getD i z41).f0.size ≤ 1073741824 ∧ (rs.getD i z41).f1.size ≤ 1073741824) (hl : (textL rs).length ≤ 1125899906842624) (hn : rs.length ≤ 1073741824) :
    Ev (fun k => brookref1_TextDn.f k rs) (mk (textL rs)) := text_loop rs hb hl hn rs.length 0 (by omega) (by omega)
def foldG (acc : List UInt8) (gap : Bool) : List UInt8 → List UInt8
  | [] => acc
  | c :: r => if c = 32 then foldG acc (decide (acc ≠ [])) r else foldG (acc ++ (if gap = true then [32] else []) ++ [c]) false r
theorem fold_loop (s : ByteArray) (hs : s.size ≤ 1073741824) : ∀ (n i : Nat) (acc : List UInt8) (gap : Bool), s.size - i = n → i ≤ s.size → acc.length ≤ 2 * i →
    Ev (fun k => brookref1_Fold.l0 k s (mk acc) gap (i : Int)) (mk (foldG acc gap (s.data.toList.drop i))) := by
  intro n
  have hlen : s.data.toList.length = s.size := (size_len s).symm
  induction n with
  | zero =>
    intro i acc gap hn hi ha
    refine Ev.step (fun k => by rw [brookref1_Fold.l0]) (Ev.ifn (by omega) ?_)
    rw [List.drop_eq_nil_of_le (by omega)]
    exact Ev.now _
  | succ n ih =>
    intro i acc gap hn hi ha
    have hd := drop_cons s.data.toList i (by omega)
    generalize hc : s.data.toList.getD i 0 = c at hd
    have hb : bt s (i : Int) = (c.toNat : Int) := by rw [bt_nat, hc]
    have w1 : wrap64 ((i : Int) + 1) = (i : Int) + 1 := wrap_small _ (by omega) (by omega)
    have hx : s.extract (i : Int).toNat (wrap64 ((i : Int) + 1)).toNat = mk [c] := by
      rw [w1, Int.toNat_natCast, show ((i : Int) + 1).toNat = i + 1 by omega, extract_one s i (by omega), hc]
    refine Ev.step (fun k => by rw [brookref1_Fold.l0]) (Ev.ifp (by omega) (Ev.ifp (by omega) ?_))
    rw [hd, foldG, hb]
    by_cases h32 : c = 32
    · rw [if_pos h32]
      refine Ev.ifp ((u8i c 32).2 h32) ?_
      have e : ((mk acc).toList != []) = decide (acc ≠ []) := by rw [bne_nil]; by_cases h : acc = [] <;> simp [h]
      rw [e, w1, show (i : Int) + 1 = ((i + 1 : Nat) : Int) by omega]
      exact ih (i + 1) acc _ (by omega) (by omega) (by omega)
    · rw [if_neg h32]
      refine Ev.ifn (fun e => h32 ((u8i c 32).1 e)) ?_
      rw [hx, show (⟨#[32]⟩ : ByteArray) = mk [32] from rfl, mk_app, mk_app, mk_app]
      cases gap with
      | true =>
        refine Ev.ifp rfl (Ev.ifp (by rw [mk_size]; omega) (Ev.ifp (by rw [w1]; omega) (Ev.ifp (by rw [w1]; omega) (Ev.ifp (by rw [mk_size, mk_size]; simp only [List.length_append, List.length_cons, List.length_nil]; omega) ?_))))
        rw [w1, show (i : Int) + 1 = ((i + 1 : Nat) : Int) by omega]
        exact ih (i + 1) (acc ++ [32] ++ [c]) false (by omega) (by omega) (by simp only [List.length_append, List.length_cons, List.length_nil]; omega)
      | false =>
        refine Ev.ifn Bool.false_ne_true (Ev.ifp (by rw [w1]; omega) (Ev.ifp (by rw [w1]; omega) (Ev.ifp (by rw [mk_size, mk_size]; simp only [List.length_cons, List.length_nil]; omega) ?_)))
        rw [w1, show (i : Int) + 1 = ((i + 1 : Nat) : Int) by omega, if_neg Bool.false_ne_true, List.append_nil]
        exact ih (i + 1) (acc ++ [c]) false (by omega) (by omega) (by simp only [List.length_append, List.length_cons, List.length_nil]; omega)
def trR : List UInt8 → List UInt8
  | [] => []
  | c :: r => if c = 32 ∧ trR r = [] then [] else c :: trR r
theorem trR_eq : ∀ l : List UInt8, Lib.trimRightB l 32 = trR l
  | [] => rfl
  | c :: r => by
    have ih := trR_eq r
    unfold Lib.trimRightB at ih ⊢
    rw [List.reverse_cons, List.dropWhile_append, trR]
    rw [← ih]
    by_cases h : (r.reverse.dropWhile (· == 32)) = []
    · have e1 : (r.reverse.dropWhile (· == 32)).isEmpty = true := by rw [h]; rfl
      rw [if_pos e1, h]
      by_cases hc : c = 32
      · rw [if_pos ⟨hc, rfl⟩, hc]; rfl
      · rw [if_neg (fun x => hc x.1)]
        have : ([c].dropWhile (· == 32)) = [c] := by rw [List.dropWhile_cons, if_neg (by rw [beq_iff_eq]; exact hc)]
        rw [this]; rfl
    · have e1 : ¬ (r.reverse.dropWhile (· == 32)).isEmpty = true := by rw [List.isEmpty_iff]; exact h
      rw [if_neg e1, List.reverse_append, if_neg (fun x => h (List.reverse_eq_nil_iff.1 x.2))]; rfl
theorem foldG_acc : ∀ (r acc : List UInt8) (gap : Bool), acc ≠ [] → foldG acc gap r = acc ++ (if trR r = [] then [] else (if gap = true then [32] else []) ++ sqR gap (trR r))
  | [], acc, gap, h => by simp [foldG, trR]
  | c :: r, acc, gap, h => by
    by_cases hc : c = 32
    · rw [foldG, if_pos hc, decide_eq_true h, foldG_acc r acc true h]
      by_cases ht : trR r = []
      · have e : trR (c :: r) = [] := by rw [trR, if_pos ⟨hc, ht⟩]
        rw [if_pos ht, e, if_pos rfl]
      · have e : trR (c :: r) = c :: trR r := by rw [trR, if_neg (fun x => ht x.2)]
        rw [if_neg ht, e, if_neg (List.cons_ne_nil _ _)]
        cases gap with
        | true =>
          have e2 : sqR true (c :: trR r) = sqR true (trR r) := by rw [sqR, if_pos ⟨hc, rfl⟩]
          rw [e2]
        | false =>
          have e2 : sqR false (c :: trR r) = 32 :: sqR true (trR r) := by rw [sqR, if_neg (fun x => Bool.false_ne_true x.2), decide_eq_true hc, hc]
          rw [e2]; rfl
    · have e : trR (c :: r) = c :: trR r := by rw [trR, if_neg (fun x => hc x.1)]
      have e2 : sqR gap (c :: trR r) = c :: sqR false (trR r) := by rw [sqR, if_neg (fun x => hc x.1), decide_eq_false hc]
      rw [foldG, if_neg hc, foldG_acc r _ false (by simp), e, if_neg (List.cons_ne_nil _ _), e2]
      have : (if trR r = [] then ([] : List UInt8) else (if false = true then [32] else []) ++ sqR false (trR r)) = sqR false (trR r) := by
        by_cases ht : trR r = []
        · rw [if_pos ht, ht]; rfl
        · rw [if_neg ht, if_neg Bool.false_ne_true]; rfl
      rw [this]
      simp only [List.append_assoc, List.singleton_append]
theorem foldG_nil : ∀ r : List UInt8, foldG [] false r = sqR false (Lib.trimB r 32)
  | [] => rfl
  | c :: r => by
    unfold Lib.trimB
    rw [trR_eq]
    by_cases hc : c = 32
    · rw [foldG, if_pos hc, decide_eq_false (by simp), foldG_nil r]
      unfold Lib.trimB
      rw [trR_eq]
      by_cases ht : trR r = []
      · have e : trR (c :: r) = [] := by rw [trR, if_pos ⟨hc, ht⟩]
        rw [e, ht]
      · have e : trR (c :: r) = c :: trR r := by rw [trR, if_neg (fun x => ht x.2)]
        rw [e]
        unfold Lib.trimLeftB
        rw [List.dropWhile_cons, if_pos (by rw [hc]; rfl)]
    · have e : trR (c :: r) = c :: trR r := by rw [trR, if_neg (fun x => hc x.1)]
      have e2 : sqR false (c :: trR r) = c :: sqR false (trR r) := by rw [sqR, if_neg (fun x => hc x.1), decide_eq_false hc]
      rw [e, foldG, if_neg hc, foldG_acc r _ false (by simp)]
      unfold Lib.trimLeftB
      rw [List.dropWhile_cons, if_neg (show ¬ (c == 32) = true by rw [beq_iff_eq]; exact hc), e2]
      by_cases ht : trR r = []
      · rw [if_pos ht, ht]; rfl
      · rw [if_neg ht, if_neg Bool.false_ne_true]; rfl
theorem trR_low : ∀ l : List UInt8, trR (l.map lowB) = (trR l).map lowB
  | [] => rfl
  | c :: r => by
    rw [List.map_cons, trR, trR, trR_low r]
    by_cases h : c = 32 ∧ trR r = []
    · rw [if_pos h, if_pos ⟨(lowB_blank c).2 h.1, by rw [h.2]; rfl⟩]; rfl
    · rw [if_neg h, if_neg (fun x => h ⟨(lowB_blank c).1 x.1, List.map_eq_nil_iff.1 x.2⟩)]; rfl
theorem dropW_low : ∀ l : List UInt8, (l.map lowB).dropWhile (· == 32) = (l.dropWhile (· == 32)).map lowB
  | [] => rfl
  | c :: r => by
    rw [List.map_cons, List.dropWhile_cons, List.dropWhile_cons]
    by_cases h : c = 32
    · rw [if_pos (by rw [h]; rfl), if_pos (by rw [h]; rfl), dropW_low r]
    · rw [if_neg (by rw [beq_iff_eq]; exact fun e => h ((lowB_blank c).1 e)), if_neg (by rw [beq_iff_eq]; exact h)]; rfl
theorem trim_low (l : List UInt8) : Lib.trimB (l.map lowB) 32 = (Lib.trimB l 32).map lowB := by
  unfold Lib.trimB Lib.trimLeftB
  rw [trR_eq, trR_eq, trR_low, dropW_low]
theorem ref_fold (s : ByteArray) (hs : s.size ≤ 1073741824) : Ev (fun k => brookref1_Fold.f k s) (mk (foldL s.data.toList)) := by
  unfold brookref1_Fold.f
  rw [ref_lower s (by omega)]
  refine Ev.bs ?_
  have h := fold_loop (lowS s) (by rw [lowS_size]; exact hs) (lowS s).size 0 [] false (by omega) (by omega) (by simp)
  rw [List.drop_zero, lowS_data, foldG_nil, trim_low] at h
  rw [foldL_R]
  exact h
end Go.Proofs.YtpcjjpkmebgjjaaGreatDoor.P


namespace Go.Proofs.YtpcjjpkmebgjjaaGreatDoor.P
open Go.RowKit Go.Proofs.YtpcjjpkmebgjjaaGreatDoorW.PrintWords Go.Proofs.YtpcjjpkmebgjjaaGreatDoorW.PrintLast Go.Proofs.YtpcjjpkmebgjjaaGreatDoorW.PrintMore
set_option linter.unusedVariables false
set_option linter.unusedSimpArgs false
def hexI (c : UInt8) : Int := if isHexB c = true then ((hexVB c).toNat : Int) else -1
theorem hex_at (c : UInt8) : brookref1_hex.f 3 (c.toNat : Int) = some (hexI c) := byteAll (p := fun c => brookref1_hex.f 3 (c.toNat : Int) = some (hexI c)) (by decide +kernel) c
theorem hex_ev (c : UInt8) : Ev (fun k => brookref1_hex.f k (c.toNat : Int)) (hexI c) := Ev.of (fun k => brookref1_hex.mono _ k) (hex_at c)
theorem hexI_ge (c : UInt8) : (hexI c ≥ 0) ↔ isHexB c = true := by
  unfold hexI
  by_cases h : isHexB c = true
  · rw [if_pos h]; exact ⟨fun _ => h, fun _ => by omega⟩
  · rw [if_neg h]; exact ⟨fun e => by omega, fun e => absurd e h⟩
theorem hex_sum : ∀ a b : Fin 16, (wrap64 ((wrap64 ((a.val : Int) * 16)) + (b.val : Int))) % 256 = ((UInt8.ofNat a.val * 16 + UInt8.ofNat b.val).toNat : Int) := by decide +kernel
theorem hex_two' (c d : UInt8) (hc : isHexB c = true) (hd : isHexB d = true) : (wrap64 ((wrap64 (hexI c * 16)) + hexI d)) % 256 = ((hexVB c * 16 + hexVB d).toNat : Int) := by
  have h := hex_sum ⟨(hexVB c).toNat, hexVB_lt c hc⟩ ⟨(hexVB d).toNat, hexVB_lt d hd⟩
  unfold hexI
  rw [if_pos hc, if_pos hd]
  simpa using h
def valW (f sp : Bool) (l : List UInt8) : Option (List UInt8) := (valG f sp l).bind fun q => if q.2 = [] then some q.1 else none
def spec6 (c : UInt8) : Bool := ([44, 43, 34, 60, 62, 59] : List UInt8).any (· == c)
theorem spec6_eq (c : UInt8) : c ≠ 92 → spec6 c = specialB c := byteAll (p := fun c => c ≠ 92 → spec6 c = specialB c) (by decide +kernel) c
def esc10 (c : UInt8) : Bool := ([44, 43, 34, 92, 60, 62, 59, 61, 35, 32] : List UInt8).any (· == c)
theorem esc10_eq (c : UInt8) : esc10 c = (specialB c || c == 61 || c == 35 || c == 32) := byteAll (p := fun c => esc10 c = (specialB c || c == 61 || c == 35 || c == 32)) (by decide +kernel) c
theorem esc_hex (c : UInt8) : (specialB c || c == 61 || c == 35 || c == 32) = true → isHexB c = false := byteAll (p := fun c => (specialB c || c == 61 || c == 35 || c == 32) = true → isHexB c = false) (by decide +kernel) c
theorem valW_nil (f sp : Bool) : valW f sp [] = if sp = true then none else some [] := by
  unfold valW; rw [valG]; cases sp <;> rfl
theorem valW_comma (f sp : Bool) (r : List UInt8) : valW f sp (44 :: r) = none := by
  unfold valW; rw [valG, if_pos rfl]; cases sp <;> rfl
theorem valW_back (f sp : Bool) (r : List UInt8) : valW f sp (92 :: r) = match escN r with | none => none | some (b, n) => (valW false false (r.drop n)).map (b :: ·) := by
  unfold valW
  rw [valG, if_neg (by decide), if_pos rfl]
  cases escN r with
  | none => rfl
  | some q =>
    obtain ⟨b, n⟩ := q
    show ((valG false false (r.drop n)).map _).bind _ = ((valG false false (r.drop n)).bind _).map _
    generalize valG false false (r.drop n) = x
    cases x with
    | none => rfl
    | some p =>
      obtain ⟨v, t⟩ := p
      simp only [Option.map_some, Option.bind_some]
      by_cases h : t = []
      · rw [if_pos h, if_pos h]; rfl
      · rw [if_neg h, if_neg h]; rfl
theorem valW_raw (f sp : Bool) (c : UInt8) (r : List UInt8) (h1 : c ≠ 44) (h2 : c ≠ 92) : valW f sp (c :: r) = if badB f c = true then none else (valW false (c == 32) r).map (c :: ·) := by
  unfold valW
  rw [valG, if_neg h1, if_neg h2]
  by_cases hb : badB f c = true
  · rw [if_pos hb, if_pos hb]; rfl
  · rw [if_neg hb, if_neg hb]
    cases valG false (c == 32) r with
    | none => rfl
    | some p =>
      obtain ⟨v, t⟩ := p
      simp only [Option.map_some, Option.bind_some]
      by_cases h : t = []
      · rw [if_pos h, if_pos h]; rfl
      · rw [if_neg h, if_neg h]; rfl
theorem valW_sp (f : Bool) (c : UInt8) (r : List UInt8) : valW f true (c :: r) = valW f false (c :: r) := by
  by_cases h1 : c = 44
  · rw [h1, valW_comma, valW_comma]
  by_cases h2 : c = 92
  · rw [h2, valW_back, valW_back]
  · rw [valW_raw _ _ _ _ h1 h2, valW_raw _ _ _ _ h1 h2]
def endV (o : List UInt8) (x : Option (List UInt8)) : ByteArray × Bool := match x with | some v => (mk (o ++ v), true) | none => (mk [], false)
theorem endV_push (o : List UInt8) (b : UInt8) (x : Option (List UInt8)) : endV (o ++ [b]) x = endV o (x.map (b :: ·)) := by
  cases x with
  | none => rfl
  | some v => unfold endV; simp
theorem w_1 (i : Nat) (h : i < 4611686018427387904) : wrap64 ((i : Int) + 1) = ((i + 1 : Nat) : Int) := by
  rw [wrap_small _ (by omega) (by omega)]; omega
theorem w_2 (i : Nat) (h : i < 4611686018427387904) : wrap64 ((i : Int) + 2) = ((i + 2 : Nat) : Int) := by
  rw [wrap_small _ (by omega) (by omega)]; omega
theorem w_m (n : Nat) (h : 0 < n ∧ n < 4611686018427387904) : wrap64 ((n : Int) - 1) = (n : Int) - 1 := wrap_small _ (by omega) (by omega)
set_option maxHeartbeats 4000000 in
theorem rvalue_loop (s : ByteArray) (hs : s.size ≤ 1073741824) : ∀ (n i : Nat) (o : List UInt8), s.size - i = n → i ≤ s.size → o.length ≤ i →
    Ev (fun k => brookref1_value.l0 k s (numsB o) (i : Int)) (endV o (valW (decide (i = 0)) false (s.data.toList.drop i))) := by
  intro n
  have hlen : s.data.toList.length = s.size := (size_len s).symm
  induction n using Nat.strongRecOn with
  | _ n ih =>
    intro i o hn hi ho
    by_cases hlt : i < s.size
    · have hd := drop_cons s.data.toList i (by omega)
      generalize hc : s.data.toList.getD i 0 = c at hd
      have hb : bt s (i : Int) = (c.toNat : Int) := by rw [bt_nat, hc]
      refine Ev.step (fun k => by rw [brookref1_value.l0]) (Ev.ifp (by omega) (Ev.ifp (by omega) ?_))
      rw [hd, hb, w_1 i (by omega), w_2 i (by omega)]
      by_cases h92 : c = 92
      · rw [h92, valW_back]
        refine Ev.ifp rfl ?_
        have j2 : ∀ (d : UInt8) (r : List UInt8), s.data.toList.drop (i + 1) = d :: r → (specialB d || d == 61 || d == 35 || d == 32) = true →
            Ev (fun k => brookref1_value.j2 k s (numsB o) (i : Int) false) (endV o (match escN (d :: r) with | none => none | some (b, n) => (valW false false ((d :: r).drop n)).map (b :: ·))) := by
          intro d r hr hd2
          have hl2 := congrArg List.length hr
          rw [List.length_drop, List.length_cons] at hl2
          rw [escN_t d r hd2]
          refine Ev.step (fun k => by rw [brookref1_value.j2]) (Ev.ifn Bool.false_ne_true ?_)
          rw [w_1 i (by omega)]
          refine Ev.ifp (by omega) (Ev.ifp (by omega) (Ev.ifp (by rw [numsB_len]; omega) ?_))
          have hb2 : bt s ((i + 1 : Nat) : Int) = (d.toNat : Int) := by
            have := drop_cons s.data.toList (i + 1) (by omega)
            rw [hr] at this
            rw [bt_nat, ← (List.cons.inj this).1]
          have hr2 : s.data.toList.drop (i + 2) = r := by
            have := drop_cons s.data.toList (i + 1) (by omega)
            rw [hr] at this
            exact (List.cons.inj this).2.symm
          rw [hb2, ← numsB_snoc, w_1 (i + 1) (by omega)]
          have := ih (s.size - (i + 2)) (by omega) (i + 2) (o ++ [d]) rfl (by omega) (by rw [List.length_append, List.length_singleton]; omega)
          rw [hr2, endV_push, show decide (i + 2 = 0) = false from decide_eq_false (by omega)] at this
          exact this
        have j2t : Ev (fun k => brookref1_value.j2 k s (numsB o) (i : Int) true) (endV o none) := by
          show Ev _ ((⟨#[]⟩ : ByteArray), false)
          exact Ev.step (fun k => by rw [brookref1_value.j2]) (Ev.ifp rfl (Ev.now _))
        have j1f : (∀ d e r, s.data.toList.drop (i + 1) = d :: e :: r → (isHexB d && isHexB e) = false) → Ev (fun k => brookref1_value.j1 k s (numsB o) (i : Int) false) (endV o (match escN (s.data.toList.drop (i + 1)) with | none => none | some (b, n) => (valW false false ((s.data.toList.drop (i + 1)).drop n)).map (b :: ·))) := by
          intro hno
          refine Ev.step (fun k => by rw [brookref1_value.j1]) (Ev.ifn Bool.false_ne_true ?_)
          rw [w_1 i (by omega)]
          cases hr : s.data.toList.drop (i + 1) with
          | nil =>
            have hl2 := congrArg List.length hr
            rw [List.length_drop, List.length_nil] at hl2
            exact Ev.ifp (by omega) j2t
          | cons d r =>
            have hl2 := congrArg List.length hr
            rw [List.length_drop, List.length_cons] at hl2
            have hb2 : bt s ((i + 1 : Nat) : Int) = (d.toNat : Int) := by
              have := drop_cons s.data.toList (i + 1) (by omega)
              rw [hr] at this
              rw [bt_nat, ← (List.cons.inj this).1]
            refine Ev.ifn (by omega) (Ev.ifp (by omega) (Ev.ifp (by omega) ?_))
            rw [hb2]
            have hin := in_ev (⟨#[44, 43, 34, 92, 60, 62, 59, 61, 35, 32]⟩ : ByteArray) (by decide) d
            refine hin.bind ?_
            show Ev (fun k => brookref1_value.j2 k s (numsB o) (i : Int) (!(esc10 d))) _
            rw [esc10_eq]
            cases hd2 : (specialB d || d == 61 || d == 35 || d == 32) with
            | true => exact j2 d r hr hd2
            | false =>
              have e : escN (d :: r) = none := by
                cases r with
                | nil => exact escN_f1 d hd2
                | cons e r => rw [escN_f2 d e r hd2, hno d e r hr]; rfl
              rw [e]
              exact j2t
        by_cases h2 : i + 2 < s.size
        · refine Ev.ifp (by omega) (Ev.ifp (by omega) (Ev.ifp (by omega) ?_))
          obtain ⟨d, hd0⟩ : ∃ d, s.data.toList.getD (i + 1) 0 = d := ⟨_, rfl⟩
          obtain ⟨e, he0⟩ : ∃ e, s.data.toList.getD (i + 2) 0 = e := ⟨_, rfl⟩
          have hr : s.data.toList.drop (i + 1) = d :: e :: s.data.toList.drop (i + 3) := by
            rw [drop_cons s.data.toList (i + 1) (by omega), drop_cons s.data.toList (i + 2) (by omega), hd0, he0]
          have hb1 : bt s ((i + 1 : Nat) : Int) = (d.toNat : Int) := by rw [bt_nat, hd0]
          have hb2 : bt s ((i + 2 : Nat) : Int) = (e.toNat : Int) := by rw [bt_nat, he0]
          rw [hb1]
          refine (hex_ev d).bind ?_
          by_cases hx : isHexB d = true
          · refine Ev.ifp ((hexI_ge d).2 hx) (Ev.ifp (by omega) ?_)
            rw [hb2]
            refine (hex_ev e).bind ?_
            by_cases hy : isHexB e = true
            · rw [decide_eq_true ((hexI_ge e).2 hy)]
              have hd2 : (specialB d || d == 61 || d == 35 || d == 32) = false := by
                cases h : (specialB d || d == 61 || d == 35 || d == 32) with
                | false => rfl
                | true => rw [esc_hex d h] at hx; cases hx
              rw [hr, escN_f2 d e _ hd2, hx, hy]
              refine Ev.step (fun k => by rw [brookref1_value.j1]) (Ev.ifp rfl ?_)
              rw [w_1 i (by omega), w_2 i (by omega), hb1, hb2]
              refine Ev.ifp (by omega) (Ev.ifp (by omega) ((hex_ev d).bind (Ev.ifp (by omega) (Ev.ifp (by omega) ((hex_ev e).bind (Ev.ifp (by rw [numsB_len]; omega) ?_))))))
              rw [hex_two' d e hx hy, ← numsB_snoc, w_1 (i + 2) (by omega)]
              have := ih (s.size - (i + 3)) (by omega) (i + 3) (o ++ [hexVB d * 16 + hexVB e]) rfl (by omega) (by rw [List.length_append, List.length_singleton]; omega)
              rw [endV_push, show decide (i + 3 = 0) = false from decide_eq_false (by omega)] at this
              exact this
            · rw [decide_eq_false (fun h => hy ((hexI_ge e).1 h))]
              refine j1f (fun d' e' r' h' => ?_)
              rw [hr] at h'
              have q2 := (List.cons.inj (List.cons.inj h').2).1
              rw [← q2, Bool.eq_false_iff.2 hy, Bool.and_false]
          · refine Ev.ifn (fun h => hx ((hexI_ge d).1 h)) (j1f (fun d' e' r' h' => ?_))
            rw [hr] at h'
            have q1 := (List.cons.inj h').1
            rw [← q1, Bool.eq_false_iff.2 hx, Bool.false_and]
        · refine Ev.ifn (by omega) (j1f (fun d' e' r' h' => ?_))
          have := congrArg List.length h'
          rw [List.length_drop] at this
          simp only [List.length_cons] at this
          omega
      · refine Ev.ifn (fun h => h92 ((u8i c 92).1 h)) ?_
        have t32 : (32 : UInt8).toNat = 32 := rfl
        have t126 : (126 : UInt8).toNat = 126 := rfl
        have fail : valW (decide (i = 0)) false (c :: s.data.toList.drop (i + 1)) = none → Ev (fun _ => some ((⟨#[]⟩ : ByteArray), false)) (endV o (valW (decide (i = 0)) false (c :: s.data.toList.drop (i + 1)))) := by
          intro h; rw [h]; exact Ev.now _
        by_cases h44 : c = 44
        · rw [h44, valW_comma]
          refine Ev.ifn (by decide) (Ev.ifn (by decide) ?_)
          have hin := in_ev (⟨#[44, 43, 34, 60, 62, 59]⟩ : ByteArray) (by decide) 44
          exact hin.bind (Ev.ifp (by decide) (Ev.now _))
        have raw := valW_raw (decide (i = 0)) false c (s.data.toList.drop (i + 1)) h44 h92
        by_cases g1 : c < 32
        · have : c.toNat < (32 : UInt8).toNat := g1
          exact Ev.ifp (by omega) (fail (by rw [raw, if_pos (by unfold badB; rw [decide_eq_true g1]; rfl)]))
        have g1' : ¬ c.toNat < (32 : UInt8).toNat := g1
        refine Ev.ifn (by omega) ?_
        by_cases g2 : 126 < c
        · have : (126 : UInt8).toNat < c.toNat := g2
          exact Ev.ifp (by omega) (fail (by rw [raw, if_pos (by unfold badB; rw [decide_eq_true g2, Bool.or_true]; rfl)]))
        have g2' : ¬ (126 : UInt8).toNat < c.toNat := g2
        refine Ev.ifn (by omega) ?_
        have hin := in_ev (⟨#[44, 43, 34, 60, 62, 59]⟩ : ByteArray) (by decide) c
        refine hin.bind ?_
        show Ev (fun k => if spec6 c = true then _ else _) _
        rw [spec6_eq c h92]
        by_cases hsp : specialB c = true
        · exact Ev.ifp hsp (fail (by rw [raw, if_pos (by unfold badB; rw [hsp, Bool.or_true]; rfl)]))
        refine Ev.ifn hsp ?_
        have base : badB (decide (i = 0)) c = (decide (i = 0) && (c == 35 || c == 32)) := by unfold badB; rw [decide_eq_false g1, decide_eq_false g2, Bool.eq_false_iff.2 hsp]; rfl
        have go : badB (decide (i = 0)) c = false → (s.data.toList.drop (i + 1) = [] → c ≠ 32) → Ev (fun k => if (numsB o).length < 140737488355328 then (brookref1_value.l0 k s (numsB o ++ [(c.toNat : Int)]) ((i + 1 : Nat) : Int)) else none) (endV o (valW (decide (i = 0)) false (c :: s.data.toList.drop (i + 1)))) := by
          intro hbad hlast
          refine Ev.ifp (by rw [numsB_len]; omega) ?_
          rw [raw, if_neg (by rw [hbad]; exact Bool.false_ne_true), ← numsB_snoc, ← endV_push]
          have := ih (s.size - (i + 1)) (by omega) (i + 1) (o ++ [c]) rfl (by omega) (by rw [List.length_append, List.length_singleton]; omega)
          rw [show decide (i + 1 = 0) = false from decide_eq_false (by omega)] at this
          have e : valW false (c == 32) (s.data.toList.drop (i + 1)) = valW false false (s.data.toList.drop (i + 1)) := by
            by_cases h32 : c = 32
            · cases hr : s.data.toList.drop (i + 1) with
              | nil => exact absurd h32 (hlast hr)
              | cons d r => rw [h32]; exact valW_sp false d r
            · rw [beq_eq_false_iff_ne.2 h32]
          rw [e]
          exact this
        by_cases h0 : i = 0
        · refine Ev.ifp (by omega) ?_
          by_cases h35 : c = 35
          · exact Ev.ifp ((u8i c 35).2 h35) (fail (by rw [raw, base, h35, decide_eq_true h0]; rfl))
          refine Ev.ifn (fun h => h35 ((u8i c 35).1 h)) ?_
          by_cases h32 : c = 32
          · exact Ev.ifp ((u8i c 32).2 h32) (fail (by rw [raw, base, h32, decide_eq_true h0]; rfl))
          refine Ev.ifn (fun h => h32 ((u8i c 32).1 h)) ?_
          have hbad : badB (decide (i = 0)) c = false := by rw [base, beq_eq_false_iff_ne.2 h35, beq_eq_false_iff_ne.2 h32]; simp
          by_cases hl : (i : Int) = wrap64 ((s.size : Int) - 1)
          · exact Ev.ifp hl (go hbad (fun _ => h32))
          · exact Ev.ifn hl (go hbad (fun _ => h32))
        · refine Ev.ifn (by omega) ?_
          have hbad : badB (decide (i = 0)) c = false := by rw [base, decide_eq_false h0]; rfl
          by_cases hl : (i : Int) = wrap64 ((s.size : Int) - 1)
          · refine Ev.ifp hl ?_
            rw [w_m s.size (by omega)] at hl
            by_cases h32 : c = 32
            · refine Ev.ifp ((u8i c 32).2 h32) (fail ?_)
              rw [raw, hbad, if_neg Bool.false_ne_true, h32, List.drop_eq_nil_of_le (by omega), valW_nil]; rfl
            · exact Ev.ifn (fun h => h32 ((u8i c 32).1 h)) (go hbad (fun _ => h32))
          · refine Ev.ifn hl ?_
            rw [w_m s.size (by omega)] at hl
            refine go hbad (fun h => ?_)
            have := congrArg List.length h
            rw [List.length_drop, List.length_nil] at this
            omega
    · refine Ev.step (fun k => by rw [brookref1_value.l0]) (Ev.ifn (by omega) ?_)
      rw [List.drop_eq_nil_of_le (by omega), valW_nil, if_neg Bool.false_ne_true, strOf_numsB]
      show Ev _ (mk (o ++ []), true)
      rw [List.append_nil]
      exact Ev.now _
theorem ref_value (s : ByteArray) (hs : s.size ≤ 1073741824) : Ev (fun k => brookref1_value.f k s) (endV [] (valW true false s.data.toList)) :=
  rvalue_loop s hs s.size 0 [] (by omega) (by omega) (Nat.le_refl _)
theorem letter_eq (c : UInt8) : brookref1_letter.f (c.toNat : Int) = some (isLtr c) := byteAll (p := fun c => brookref1_letter.f (c.toNat : Int) = some (isLtr c)) (by decide +kernel) c
theorem mayType_loop (s : ByteArray) (hs : s.size ≤ 1073741824) : ∀ n i : Nat, s.size - i = n → i ≤ s.size → Ev (fun k => brookref1_MayType.l0 k s (i : Int)) ((s.data.toList.drop i).all inName) := by
  intro n
  have hlen : s.data.toList.length = s.size := (size_len s).symm
  induction n with
  | zero =>
    intro i hn hi
    refine Ev.step (fun k => by rw [brookref1_MayType.l0]) (Ev.ifn (by omega) ?_)
    rw [List.drop_eq_nil_of_le (by omega)]
    exact Ev.now _
  | succ n ih =>
    intro i hn hi
    have hd := drop_cons s.data.toList i (by omega)
    generalize hc : s.data.toList.getD i 0 = c at hd
    have hb : bt s (i : Int) = (c.toNat : Int) := by rw [bt_nat, hc]
    refine Ev.step (fun k => by rw [brookref1_MayType.l0]) (Ev.ifp (by omega) (Ev.ifp (by omega) ?_))
    rw [hd, List.all_cons, hb, letter_eq, wrap_small _ (by omega) (by omega), show (i : Int) + 1 = ((i + 1 : Nat) : Int) by omega]
    have next := ih (i + 1) (by omega) (by omega)
    refine Ev.bs ?_
    by_cases hl : isLtr c = true
    · rw [inName_ltr c hl, Bool.true_and]; exact Ev.ifp hl next
    refine Ev.ifn hl ?_
    rw [inName_digit c (Bool.eq_false_iff.2 hl)]
    by_cases h1 : (c.toNat : Int) < 48
    · refine Ev.ifp h1 ?_
      rw [decide_eq_false (show ¬ (48 : Int) ≤ (c.toNat : Int) by omega), Bool.false_and, Bool.false_or]
      by_cases h2 : (c.toNat : Int) = 45
      · rw [decide_eq_true h2, Bool.true_and]; exact Ev.ifp h2 next
      · rw [decide_eq_false h2, Bool.false_and]; exact Ev.ifn h2 (Ev.now _)
    · refine Ev.ifn h1 ?_
      rw [decide_eq_true (show (48 : Int) ≤ (c.toNat : Int) by omega), Bool.true_and]
      by_cases h3 : (c.toNat : Int) > 57
      · refine Ev.ifp h3 ?_
        rw [decide_eq_false (show ¬ (c.toNat : Int) ≤ 57 by omega), Bool.false_or]
        by_cases h2 : (c.toNat : Int) = 45
        · rw [decide_eq_true h2, Bool.true_and]; exact Ev.ifp h2 next
        · rw [decide_eq_false h2, Bool.false_and]; exact Ev.ifn h2 (Ev.now _)
      · rw [decide_eq_true (show (c.toNat : Int) ≤ 57 by omega), Bool.true_or, Bool.true_and]
        exact Ev.ifn h3 next
theorem ref_mayType (s : ByteArray) (hs : s.size ≤ 1073741824) : Ev (fun k => brookref1_MayType.f k s) (typedL s.data.toList) := by
  have hlen : s.data.toList.length = s.size := (size_len s).symm
  have jt : Ev (fun k => brookref1_MayType.j0 k s true) false := Ev.step (fun k => by rw [brookref1_MayType.j0]) (Ev.ifp rfl (Ev.now _))
  unfold brookref1_MayType.f typedL
  rw [toList_data]
  by_cases h0 : s.data.toList = []
  · have e : (!s.data.toList.isEmpty && decide (s.data.toList.length ≤ 30) && isLtr (s.data.toList.getD 0 0) && s.data.toList.all inName) = false := by rw [h0]; rfl
    rw [e]; exact Ev.ifp h0 jt
  refine Ev.ifn h0 ?_
  have hne : (!s.data.toList.isEmpty) = true := by cases h : s.data.toList with | nil => exact absurd h h0 | cons c r => rfl
  have hpos : 0 < s.data.toList.length := List.length_pos_iff.2 h0
  rw [hne, Bool.true_and]
  by_cases h1 : (s.size : Int) > 30
  · rw [decide_eq_false (show ¬ s.data.toList.length ≤ 30 by omega), Bool.false_and, Bool.false_and]; exact Ev.ifp h1 jt
  rw [decide_eq_true (show s.data.toList.length ≤ 30 by omega), Bool.true_and]
  refine Ev.ifn h1 (Ev.ifp (by omega) ?_)
  have hb : bt s 0 = ((s.data.toList.getD 0 0).toNat : Int) := bt_nat s 0
  rw [hb, letter_eq]
  refine Ev.bs ?_
  cases isLtr (s.data.toList.getD 0 0) with
  | false => rw [Bool.false_and]; exact jt
  | true =>
    rw [Bool.true_and]
    exact Ev.step (fun k => by rw [brookref1_MayType.j0]) (Ev.ifn (c := (!true) = true) (by decide) (show Ev (fun k => brookref1_MayType.l0 k s 0) _ from mayType_loop s hs s.size 0 (by omega) (by omega)))
theorem rmay_loop (rs : List PR) (hr : rs.length ≤ 1000000000) (hb : ∀ p ∈ rs, p.1.length ≤ 1073741824) : ∀ n i : Nat, rs.length - i = n → i ≤ rs.length →
    Ev (fun k => brookref1_MayDn.l0 k (rs.map toS) (i : Int)) ((rs.drop i).all okR && decide (rs.length ≤ 8)) := by
  intro n
  induction n with
  | zero =>
    intro i hn hi
    refine Ev.step (fun k => by rw [brookref1_MayDn.l0]) (Ev.ifn (by rw [List.length_map]; omega) (Ev.const fun k => ?_))
    rw [List.drop_eq_nil_of_le (by omega), List.length_map]
    simp only [List.all_nil, Bool.true_and]
    congr 1
    exact decide_eq_decide.2 (by omega)
  | succ n ih =>
    intro i hn hi
    refine Ev.step (fun k => by rw [brookref1_MayDn.l0]) (Ev.ifp (by rw [List.length_map]; omega) (Ev.ifp (by omega) ?_))
    rw [rd_map rs i (by omega), dropP_cons rs i (by omega)]
    have hm : rs.getD i ([], []) ∈ rs := by rw [List.getD_eq_getElem?_getD, List.getElem?_eq_getElem (by omega)]; exact List.getElem_mem _
    generalize rs.getD i ([], []) = p at hm
    have ht := ref_mayType (mk p.1) (by rw [mk_size]; exact hb p hm)
    rw [mk_data] at ht
    refine ht.bind ?_
    show Ev (fun k => if typedL p.1 = true then (if (mk p.2).toList = [] then some false else (if ((mk p.2).size : Int) > 100 then some false else _)) else some false) _
    rw [List.all_cons]
    by_cases h1 : typedL p.1 = true
    · refine Ev.ifp h1 ?_
      rw [mk_toList, mk_size]
      by_cases h2 : p.2 = []
      · refine Ev.ifp h2 (Ev.const fun k => ?_)
        unfold okR okV; rw [h2]; simp
      refine Ev.ifn h2 ?_
      by_cases h3 : (p.2.length : Int) > 100
      · refine Ev.ifp h3 (Ev.const fun k => ?_)
        unfold okR okV; rw [decide_eq_false (show ¬ p.2.length ≤ 100 by omega)]; simp
      refine Ev.ifn h3 ?_
      have hp : okR p = true := by unfold okR okV; rw [h1, decide_eq_true (by omega)]; simp [List.isEmpty_iff, h2]
      rw [hp, Bool.true_and, wrap_small _ (by omega) (by omega), show (i : Int) + 1 = ((i + 1 : Nat) : Int) by omega]
      exact ih (i + 1) (by omega) (by omega)
    · refine Ev.ifn h1 (Ev.const fun k => ?_)
      unfold okR; rw [Bool.eq_false_iff.2 h1]; simp
theorem ref_may (rs : List PR) (hr : rs.length ≤ 1000000000) (hb : ∀ p ∈ rs, p.1.length ≤ 1073741824) : Ev (fun k => brookref1_MayDn.f k (rs.map toS)) (mayL rs) := rmay_loop rs hr hb rs.length 0 (by omega) (by omega)
end Go.Proofs.YtpcjjpkmebgjjaaGreatDoor.P
